import PyProof.Rows.All
import Wide.All
import OpenK.AllK
import Wide.FinOn
import PyProof.DictKinds
import PyProof.DictIter
import PyProof.DictDisplay
import PyProof.Rows.EqNone
import PyProof.FactsAll.NoneType_1
import PyProof.AttrMissHeap
import PyProof.Walks
import KE.KDictOf
import PyProof.ListOps
import PyProof.MeetsDict
import PyProof.DictStraight
import PyProof.Cells
import PyProof.CompFree
import PyProof.WalksMore
import PyProof.RangeIter
import PyProof.CallRoads
import PyProof.CallType
import PyProof.PureInt
import PyProof.TupleOps
import PyProof.Rules3
import PyProof.LetGo
import PyProof.DefCall
import PyProof.NoPylong
import PyProof.ListIndexNeg
import PyProof.DictWalks
import PyProof.CompMap
import PyProof.IsiHeapPairs
import PyProof.IsiNone
import PyProof.IsiPairs
import PyProof.ListCopy
import PyProof.RangeFor
import PyProof.StrOps
import PyProof.WalkInts
import PyProof.EqAt
import PyProof.FactsAll.list_0
import PyProof.FactsDict
import PyProof.DictRoads
import PyProof.Conv_int_bool
import KE.KDictList
import KE.KRevIter
import PyProof.Rows.SortWalk
import PyProof.NeKinds
import OpenK.KLine
import KE.KEqDict
import PyProof.SliceList
import PyProof.Rows.TupAdd
import PyProof.ListMulRoad
import PyProof.FactsAll.tuple
import PyProof.Rows.ListMul
import PySem.Challenge.RW_uf010028_08
set_option Elab.async false
set_option compiler.extract_closed false
set_option genSizeOf false
set_option genInjectivity false
set_option autoImplicit false
set_option linter.unusedVariables false
namespace Mine
open PySem PySem.EqNone

/-! dictionary keys: None or an int -/
def keyIs : Option Int → Value → Bool
  | none, .none => true
  | some k, v => Value.isInt k v
  | _, _ => false
def keyHash : Option Int → Int
  | none => 0xFCA86420
  | some k => hashInt k

theorem keyIs_none {v : Value} (h : keyIs none v = true) : v = .none := by
  cases v <;> first | rfl | (simp [keyIs] at h)
theorem keyIs_some {k : Int} {v : Value} (h : keyIs (some k) v = true) : ∃ t, v = .int k t := Value.isInt_shape h
section
variable {prog : Program} {w : World} {A : Around} {E : Value → Shared → Prop} {s : Shared}
theorem eqBool_none_int {a : Int} {t : Tok} {Q : Bool → Shared → Prop} (h : Q false s) : wpAny (model prog w) A (eqBool .none (.int a t)) Q E s := by
  unfold eqBool
  show wpAny (model prog w) A (richCompare .Eq .none (.int a t) >>= fun r => truthOfDropped r) Q E s
  exact wpAny_bind (eq_none_int (wpAny_truthy_bool h))
theorem eqBool_int_none {a : Int} {t : Tok} {Q : Bool → Shared → Prop} (h : Q false s) : wpAny (model prog w) A (eqBool (.int a t) .none) Q E s := by
  unfold eqBool
  show wpAny (model prog w) A (richCompare .Eq (.int a t) .none >>= fun r => truthOfDropped r) Q E s
  exact wpAny_bind (eq_int_none (wpAny_truthy_bool h))
theorem eqBool_none_none {Q : Bool → Shared → Prop} (h : Q true s) : wpAny (model prog w) A (eqBool .none .none) Q E s := by
  unfold eqBool
  show wpAny (model prog w) A (rule "eq-bool.same-object" >>= fun _ => pure true) Q E s
  exact wpAny_bind (wpAny_rule (wpAny_pure h))
theorem pyHash_none {Q : Int → Shared → Prop} (h : Q (keyHash none) { s with toks := s.toks + 1 }) : wpAny (model prog w) A (pyHash .none) Q E s := by
  unfold pyHash
  refine wpAny_bind ?_
  rw [cRoomFor, if_neg (by rw [show [Value.none].any Value.onHeap = false from rfl]; exact Bool.false_ne_true)]; refine wpAny_pure ?_
  have hT : s.TypeIs .none "NoneType" := rfl
  refine wpAny_bind (wpAny_specialOf hT F.slot_NoneType_hash.lookup ?_)
  show wpAny _ _ (if (some (Value.builtin "NoneType.__hash__") == some Value.none) = true then _ else _) Q E s
  rw [if_neg (by rw [beq_builtin_none]; exact Bool.false_ne_true)]
  refine wpAny_bind (wpAny_specialOf hT F.slot_NoneType_hash.lookup ?_)
  refine wpAny_bind (wpAny_callSpecialIfBoundUnlessNone?_slot hT F.slot_NoneType_hash
    (wpAny_call_entry F.slot_NoneType_hash hT F.entry_NoneType_hash
      (show wpAny _ _ (do ret (← mkInt 0xFCA86420)) _ _ s from wpAny_ret_mkInt ?_) (F.args_NoneType_hash_1 _)))
  exact wpAny_pure h
end
def optKind (prog : Program) (w : World) : KeyKind prog w (Option Int) where
  is := keyIs
  hash := keyHash
  inj := fun v a b ha hb => by
    cases a with
    | none => cases b with
      | none => rfl
      | some b => obtain rfl := keyIs_none ha; obtain ⟨t, e⟩ := keyIs_some hb; cases e
    | some a => obtain ⟨t, rfl⟩ := keyIs_some ha; cases b with
      | none => have := keyIs_none hb; cases this
      | some b => obtain ⟨u, e⟩ := keyIs_some hb; cases e; rfl
  byValue := fun k v h => by
    cases k with
    | none => obtain rfl := keyIs_none h; rfl
    | some k => obtain ⟨t, rfl⟩ := keyIs_some h; rfl
  pyHash := fun {A E s k v Q} h hq => by
    cases k with
    | none => obtain rfl := keyIs_none h; exact pyHash_none hq
    | some k => obtain ⟨t, rfl⟩ := keyIs_some h; exact wpAny_pyHash_int hq
  eqBool := fun {A E s a b u v Q} ha hb hq => by
    cases a with
    | none => obtain rfl := keyIs_none ha; cases b with
      | none => obtain rfl := keyIs_none hb; exact eqBool_none_none hq
      | some b => obtain ⟨t, rfl⟩ := keyIs_some hb; exact eqBool_none_int (by simpa using hq)
    | some a => obtain ⟨t, rfl⟩ := keyIs_some ha; cases b with
      | none => obtain rfl := keyIs_none hb; exact eqBool_int_none (by simpa using hq)
      | some b => obtain ⟨u, rfl⟩ := keyIs_some hb; exact wpAny_eqBool_int (by rw [show (a == b) = decide (some a = some b) from by simp [BEq.beq]]; exact hq)
  «strs» := fun k x t v h => by
    cases k with
    | none => have := keyIs_none h; cases this
    | some k => obtain ⟨u, e⟩ := keyIs_some h; cases e

theorem pairs_any {p p' : Program} {w w' : World} {es : List DictEntry} {kvs : List (Option Int × Value)} (h : Pairs (optKind p w) es kvs) : Pairs (optKind p' w') es kvs := by
  induction h with
  | nil => exact .nil
  | cons h1 h2 _ ih => exact .cons h1 h2 ih
theorem dictOf_any {p p' : Program} {w w' : World} {h : Heap} {a : Addr} {kvs : List (Option Int × Value)} (x : h.DictOf (optKind p w) a kvs) : h.DictOf (optKind p' w') a kvs :=
  let ⟨o, es, ep, h1, h2, h3, h4, h5, h6⟩ := x; ⟨o, es, ep, h1, h2, h3, h4, pairs_any h5, h6⟩
end Mine
set_option autoImplicit false
set_option linter.unusedVariables false
set_option maxRecDepth 100000
namespace Mine
open PySem

section
variable {prog : Program} {w : World} {K : Type} [DecidableEq K] {knd : KeyKind prog w K}
end
end Mine
set_option autoImplicit false
set_option linter.unusedVariables false
namespace Mine
open PySem

/-! values and objects without tokens -/
inductive MV where
  | none | bool (b : Bool) | int (i : Int) | str (x : Str) | ref (a : Addr) | oth (v : Value)

def VR : MV → Value → Prop
  | .none, v => v = .none
  | .bool b, v => v = .bool b
  | .int i, v => ∃ t, v = .int i t
  | .str x, v => ∃ t, v = .str x t
  | .ref a, v => v = .ref a
  | .oth u, v => v = u

inductive VsR : List MV → List Value → Prop
  | nil : VsR [] []
  | cons {m : MV} {v : Value} {ms : List MV} {vs : List Value} : VR m v → VsR ms vs → VsR (m :: ms) (v :: vs)

theorem VsR.length {ms : List MV} {vs : List Value} (h : VsR ms vs) : ms.length = vs.length := by
  induction h with
  | nil => rfl
  | cons _ _ ih => simp [ih]
theorem VsR.get {ms : List MV} {vs : List Value} (h : VsR ms vs) : ∀ {i : Nat} {m : MV}, ms[i]? = some m → ∃ v, vs[i]? = some v ∧ VR m v := by
  induction h with
  | nil => intro i m e; simp at e
  | cons hv _ ih =>
    intro i m e
    cases i with
    | zero => simp at e; subst e; exact ⟨_, by simp, hv⟩
    | succ i => simp at e; obtain ⟨v, h1, h2⟩ := ih e; exact ⟨v, by simpa using h1, h2⟩
theorem VsR.getv {ms : List MV} {vs : List Value} (h : VsR ms vs) : ∀ {i : Nat} {v : Value}, vs[i]? = some v → ∃ m, ms[i]? = some m ∧ VR m v := by
  induction h with
  | nil => intro i m e; simp at e
  | cons hv _ ih =>
    intro i m e
    cases i with
    | zero => simp at e; subst e; exact ⟨_, by simp, hv⟩
    | succ i => simp at e; obtain ⟨v, h1, h2⟩ := ih e; exact ⟨v, by simpa using h1, h2⟩
theorem VsR.append {a b : List MV} {c d : List Value} (h : VsR a c) (h' : VsR b d) : VsR (a ++ b) (c ++ d) := by
  induction h with
  | nil => exact h'
  | cons hv _ ih => exact .cons hv ih
theorem VsR.snoc {a : List MV} {c : List Value} {m : MV} {v : Value} (h : VsR a c) (h' : VR m v) : VsR (a ++ [m]) (c ++ [v]) := h.append (.cons h' .nil)
theorem VsR.take {a : List MV} {c : List Value} (h : VsR a c) (n : Nat) : VsR (a.take n) (c.take n) := by
  induction h generalizing n with
  | nil => simp; exact .nil
  | cons hv _ ih => cases n with
    | zero => simp; exact .nil
    | succ n => simp; exact .cons hv (ih n)
theorem VsR.set {a : List MV} {c : List Value} {m : MV} {v : Value} (h : VsR a c) (hv : VR m v) (n : Nat) : VsR (a.set n m) (c.set n v) := by
  induction h generalizing n with
  | nil => simp; exact .nil
  | cons hv' h' ih => cases n with
    | zero => exact .cons hv h'
    | succ n => exact .cons hv' (ih n)
def keyMV : Option Int → MV
  | none => .none
  | some i => .int i
/-- the items of a dictionary, without tokens -/
structure KVR (kvs : List (Option Int × MV)) (vk : List (Option Int × Value)) : Prop where
  k : kvs.map (·.1) = vk.map (·.1)
  v : VsR (kvs.map (·.2)) (vk.map (·.2))

def lim : Nat := 1000000
theorem lim_le : lim ≤ sizeLine := by decide +kernel

inductive MO where
  | list (xs : List MV)
  | tup (xs : List MV)
  | range (n : Nat)
  | raw (o : Obj)
  | ro (xs : List MV)
  | dict (kvs : List (Option Int × MV))

def OR (h : Heap) (a : Addr) : MO → Prop
  | .list xs => ∃ vs n, h.get? a = some { cls := .type "list", dict := none, data := .seq vs n, slots := #[] } ∧ VsR xs vs.toList ∧ xs.length ≤ lim
  | .tup xs => ∃ vs n, h.get? a = some { cls := .type "tuple", dict := none, data := .seq vs n, slots := #[] } ∧ VsR xs vs.toList ∧ xs.length ≤ lim
  | .range n => ∃ t u v, IsRange h a 0 n 1 t u v ∧ n ≤ lim
  | .raw o => h.get? a = some o
  | .ro xs => ∃ vs, h.IsList a vs ∧ VsR xs vs.toList ∧ xs.length ≤ lim
  | .dict kvs => (a == sysModules) = false ∧ ∃ vk, (∃ p w, h.DictOf (optKind p w) a vk) ∧ KVR kvs vk ∧ kvs.length ≤ lim

theorem OR.at {h h' : Heap} {a : Addr} {o : MO} (x : OR h a o) (e : ∀ ob, h.get? a = some ob → h'.get? a = some ob) : OR h' a o := by
  cases o with
  | list xs => obtain ⟨vs, n, h1, h2⟩ := x; exact ⟨vs, n, e _ h1, h2⟩
  | tup xs => obtain ⟨vs, n, h1, h2⟩ := x; exact ⟨vs, n, e _ h1, h2⟩
  | range n => obtain ⟨t, u, v, h1, h2⟩ := x; exact ⟨t, u, v, e _ h1, h2⟩
  | raw o => exact e _ x
  | ro xs => obtain ⟨vs, ⟨o, h1, h2⟩, h3⟩ := x; exact ⟨vs, ⟨o, e _ h1, h2⟩, h3⟩
  | dict kvs => obtain ⟨h0, vk, h1, h2⟩ := x; exact ⟨h0, vk, let ⟨p, w, o, es, ep, g1, g2⟩ := h1; ⟨p, w, o, es, ep, e _ g1, g2⟩, h2⟩
theorem OR.alive {h : Heap} {a : Addr} {o : MO} (x : OR h a o) : ∃ ob, h.get? a = some ob := by
  cases o with
  | list xs => obtain ⟨vs, n, h1, h2⟩ := x; exact ⟨_, h1⟩
  | tup xs => obtain ⟨vs, n, h1, h2⟩ := x; exact ⟨_, h1⟩
  | range n => obtain ⟨t, u, v, h1, h2⟩ := x; exact ⟨_, h1⟩
  | raw o => exact ⟨_, x⟩
  | ro xs => obtain ⟨vs, ⟨o, h1, h2⟩, h3⟩ := x; exact ⟨_, h1⟩
  | dict kvs => obtain ⟨h0, vk, h1, h2⟩ := x; exact let ⟨_, _, o, es, ep, g1, g2⟩ := h1; ⟨_, g1⟩

/-! names -/
abbrev Loc := List (Str × MV)
def look : Loc → Str → Option MV
  | [], _ => none
  | (y, v) :: r, x => if x = y then some v else look r x
def put : Loc → Str → MV → Loc
  | [], x, v => [(x, v)]
  | (y, u) :: r, x, v => if x = y then (y, v) :: r else (y, u) :: put r x v
theorem look_put (l : Loc) (x y : Str) (v : MV) : look (put l x v) y = if y = x then some v else look l y := by
  induction l with
  | nil => simp [put, look]
  | cons p r ih =>
    obtain ⟨z, u⟩ := p
    unfold put
    by_cases h : x = z
    · subst h; simp only [if_true, look]; by_cases h2 : y = x <;> simp [h2]
    · simp only [h, if_false, look, ih]
      by_cases h2 : y = z
      · subst h2; simp [Ne.symm h]
      · simp [h2]

structure Cx where
  prog : Program
  w : World
  A : Around
  env : Env
  fr : List Addr
  kp : Addr → Obj → Prop
  gens : Array GenState
  os : OsState
  room : Nat
  al : Addr → Prop
  mod : List Addr
  B0 : Addr → Option MO
  no : Addr → Prop

structure Cx.Ok (C : Cx) (hb : Heap) : Prop where
  handled : C.A.handled = none
  depth : C.A.depth + C.room < recursionLimit
  units : C.A.units + 3 * C.room + 100 < cLine
  kind : C.env.scope.kind = .function
  globals : C.env.globals = mainGlobals
  builtins : C.env.builtins = builtinsNs
  locals : C.env.locals ∈ C.fr
  cellsIn : ∀ x c, C.env.cells.lookup x = some c → c ∈ C.fr ∨ ∃ o, C.kp c o
  cellsNe : ∀ x c, C.env.cells.lookup x = some c → c ≠ C.env.locals
  cellsInj : ∀ x y c, C.env.cells.lookup x = some c → C.env.cells.lookup y = some c → x = y
  apart : ∀ a ∈ C.fr, ∀ o, ¬ C.kp a o
  base : ∀ b o, hb.get? b = some o → C.kp b o
  modAl : ∀ a ∈ C.mod, C.al a
  noKp : ∀ a, C.no a → ∃ o, C.kp a o

structure St where
  loc : Loc
  B : Addr → Option MO
  own : List (Addr × MO)

def NameIs (env : Env) (h : Heap) (x : Str) (v : MV) : Prop :=
  (env.kindOf x = some .local ∧ ∃ m u, h.Ns env.locals m ∧ m x = some u ∧ VR v u) ∨
  ((env.kindOf x = some .cell ∨ env.kindOf x = some .free) ∧ ∃ c u, env.cells.lookup x = some c ∧ h.IsCell c (some u) ∧ VR v u)

structure Holds (C : Cx) (σ : St) (s : Shared) : Prop where
  kp : ∀ b o, C.kp b o → s.heap.get? b = some o
  names : ∀ x v, look σ.loc x = some v → NameIs C.env s.heap x v
  ns : ∃ m, s.heap.Ns C.env.locals m
  cells : ∀ x c, C.env.cells.lookup x = some c → ∃ u, s.heap.IsCell c u
  alive : ∀ a ∈ C.fr, ∃ o, s.heap.get? a = some o
  B : ∀ a o, σ.B a = some o → OR s.heap a o
  own : ∀ p ∈ σ.own, OR s.heap p.1 p.2
  nodup : (σ.own.map (·.1) ++ C.fr).Nodup
  apartB : ∀ a ∈ σ.own.map (·.1) ++ C.fr, σ.B a = none
  apartK : ∀ a ∈ σ.own.map (·.1) ++ C.fr, ∀ o, ¬ C.kp a o
  gens : s.gens = C.gens
  os : s.os = C.os
  al : ∀ a, C.al a → ∃ o, s.heap.get? a = some o
  B0 : ∀ a o, C.B0 a = some o → σ.B a = some o
  Bnew : ∀ a o, σ.B a = some o → C.B0 a = some o ∨ ¬ C.al a
  ownNew : ∀ p ∈ σ.own, ¬ C.al p.1 ∨ p.1 ∈ C.mod
  noB : ∀ a, C.no a → σ.B a = none

def Has (σ : St) (a : Addr) (o : MO) : Prop := (a, o) ∈ σ.own ∨ σ.B a = some o
theorem Holds.has {C : Cx} {σ : St} {s : Shared} (H : Holds C σ s) {a : Addr} {o : MO} (h : Has σ a o) : OR s.heap a o :=
  h.elim (fun h => H.own _ h) fun h => H.B _ _ h

theorem NameIs.ext {env : Env} {h h' : Heap} {x : Str} {v : MV} (n : NameIs env h x v) (e : ∀ b o, h.get? b = some o → h'.get? b = some o) : NameIs env h' x v := by
  rcases n with ⟨hk, m, u, hn, hm, hv⟩ | ⟨hk, c, u, hc, hu, hv⟩
  · exact .inl ⟨hk, m, u, hn.keeps e, hm, hv⟩
  · exact .inr ⟨hk, c, u, hc, hu.keeps e, hv⟩

theorem Holds.ext {C : Cx} {σ : St} {s s' : Shared} (H : Holds C σ s) (e : ∀ b o, s.heap.get? b = some o → s'.heap.get? b = some o) (hg : s'.gens = s.gens) (ho : s'.os = s.os) : Holds C σ s' where
  kp := fun b o h => e _ _ (H.kp b o h)
  names := fun x v h => (H.names x v h).ext e
  ns := let ⟨m, h⟩ := H.ns; ⟨m, h.keeps e⟩
  cells := fun x c h => let ⟨u, hu⟩ := H.cells x c h; ⟨u, hu.keeps e⟩
  alive := fun a ha => let ⟨o, ho⟩ := H.alive a ha; ⟨o, e _ _ ho⟩
  B := fun a o h => (H.B a o h).at fun ob => e _ _
  own := fun p hp => (H.own p hp).at fun ob => e _ _
  nodup := H.nodup
  apartB := H.apartB
  apartK := H.apartK
  gens := hg.trans H.gens
  os := ho.trans H.os
  al := fun a ha => let ⟨o, ho⟩ := H.al a ha; ⟨o, e _ _ ho⟩
  B0 := H.B0
  Bnew := H.Bnew
  ownNew := H.ownNew
  noB := H.noB

theorem Holds.toks {C : Cx} {σ : St} {s : Shared} (H : Holds C σ s) (t : Nat) : Holds C σ { s with toks := t } := H.ext (fun _ _ h => h) rfl rfl
theorem Holds.push {C : Cx} {σ : St} {s : Shared} (H : Holds C σ s) (o : Obj) : Holds C σ { s with heap := s.heap.push o } := H.ext (fun _ _ h => Heap.get?_push_of_some _ h) rfl rfl

theorem fresh_none (h : Heap) : h.get? h.objs.size = none := by
  cases e : h.get? h.objs.size with
  | none => rfl
  | some o => exact absurd (Heap.lt_size e) (Nat.lt_irrefl _)

theorem Holds.freshMod {C : Cx} {hb : Heap} {σ : St} {s : Shared} (OK : C.Ok hb) (H : Holds C σ s) : s.heap.objs.size ∉ C.mod := fun hm => by
  obtain ⟨ob, hob⟩ := H.al _ (OK.modAl _ hm); rw [fresh_none] at hob; cases hob
/-- an address that is new to a state -/
structure Fsh (md : List Addr) (σ : St) (a : Addr) : Prop where
  md : a ∉ md
  B : σ.B a = none
  own : a ∉ σ.own.map (·.1)
theorem far_none {h : Heap} {a : Addr} (ha : h.objs.size ≤ a) : h.get? a = none := by
  cases e : h.get? a with
  | none => rfl
  | some o => exact absurd (Heap.lt_size e) (Nat.not_lt.mpr ha)
def Far (C : Cx) (σ : St) (a : Addr) : Prop := a ∉ σ.own.map (·.1) ++ C.fr ∧ σ.B a = none ∧ (∀ o, ¬ C.kp a o) ∧ ¬ C.al a
theorem Holds.far {C : Cx} {σ : St} {s : Shared} (H : Holds C σ s) {a : Addr} (ha : s.heap.objs.size ≤ a) : Far C σ a := by
  have fn := far_none ha
  have no : ¬ ∃ ob, s.heap.get? a = some ob := fun ⟨ob, h⟩ => by rw [fn] at h; cases h
  refine ⟨fun hm => ?_, ?_, fun o hk => no ⟨o, H.kp _ _ hk⟩, fun ha => no (H.al _ ha)⟩
  · rcases List.mem_append.mp hm with hm | hm
    · obtain ⟨p, hp, e⟩ := List.mem_map.mp hm
      exact no (e ▸ (H.own p hp).alive)
    · exact no (H.alive _ hm)
  · cases e : σ.B a with
    | none => rfl
    | some mo => exact absurd (H.B _ _ e).alive no
theorem Holds.fshAt {C : Cx} {hb : Heap} {σ : St} {s : Shared} {a : Addr} (OK : C.Ok hb) (H : Holds C σ s) (ha : s.heap.objs.size ≤ a) : Fsh C.mod σ a :=
  ⟨fun hm => (H.far ha).2.2.2 (OK.modAl _ hm), (H.far ha).2.1, fun hm => (H.far ha).1 (List.mem_append_left _ hm)⟩
theorem Holds.fsh {C : Cx} {hb : Heap} {σ : St} {s : Shared} (OK : C.Ok hb) (H : Holds C σ s) : Fsh C.mod σ s.heap.objs.size := H.fshAt OK (Nat.le_refl _)
theorem Holds.addO {C : Cx} {σ : St} {s : Shared} {a : Addr} {mo : MO} (H : Holds C σ s) (f : Far C σ a) (ho : OR s.heap a mo) : Holds C { σ with own := (a, mo) :: σ.own } s where
  kp := H.kp
  names := H.names
  ns := H.ns
  cells := H.cells
  alive := H.alive
  B := H.B
  gens := H.gens
  os := H.os
  al := H.al
  B0 := H.B0
  Bnew := H.Bnew
  noB := H.noB
  own := fun p hp => by
    rcases List.mem_cons.mp hp with rfl | hp
    · exact ho
    · exact H.own p hp
  nodup := List.nodup_cons.mpr ⟨f.1, H.nodup⟩
  apartB := fun b hb => by
    rcases List.mem_cons.mp hb with rfl | hb
    · exact f.2.1
    · exact H.apartB b hb
  apartK := fun b hb => by
    rcases List.mem_cons.mp hb with rfl | hb
    · exact f.2.2.1
    · exact H.apartK b hb
  ownNew := fun p hp => by
    rcases List.mem_cons.mp hp with rfl | hp
    · exact .inl f.2.2.2
    · exact H.ownNew p hp
theorem Holds.new {C : Cx} {σ : St} {s : Shared} (H : Holds C σ s) {o : Obj} {mo : MO} (ho : OR (s.heap.push o) s.heap.objs.size mo) :
    Holds C { σ with own := (s.heap.objs.size, mo) :: σ.own } { s with heap := s.heap.push o } := (H.push o).addO (H.far (Nat.le_refl _)) ho

inductive Upd : List (Addr × MO) → Addr → MO → MO → List (Addr × MO) → Prop
  | head {a : Addr} {o o' : MO} {r : List (Addr × MO)} : Upd ((a, o) :: r) a o o' ((a, o') :: r)
  | tail {a : Addr} {o o' : MO} {p : Addr × MO} {r r' : List (Addr × MO)} : Upd r a o o' r' → Upd (p :: r) a o o' (p :: r')
theorem Upd.keys {l l' : List (Addr × MO)} {a : Addr} {o o' : MO} (u : Upd l a o o' l') : l'.map (·.1) = l.map (·.1) := by
  induction u with
  | head => rfl
  | tail _ ih => simp [ih]
theorem Upd.mem {l l' : List (Addr × MO)} {a : Addr} {o o' : MO} (u : Upd l a o o' l') : (a, o) ∈ l := by
  induction u with
  | head => exact .head _
  | tail _ ih => exact .tail _ ih
theorem Upd.back {l l' : List (Addr × MO)} {a : Addr} {o o' : MO} (u : Upd l a o o' l') : ∀ p ∈ l', ∃ q ∈ l, q.1 = p.1 := by
  intro p hp
  have : p.1 ∈ l'.map (·.1) := List.mem_map.mpr ⟨p, hp, rfl⟩
  rw [u.keys] at this
  obtain ⟨q, hq, e⟩ := List.mem_map.mp this
  exact ⟨q, hq, e⟩
theorem Upd.cases {l l' : List (Addr × MO)} {a : Addr} {o o' : MO} (u : Upd l a o o' l') (nd : (l.map (·.1)).Nodup) : ∀ p ∈ l', p = (a, o') ∨ (p ∈ l ∧ p.1 ≠ a) := by
  induction u with
  | head =>
    intro p hp
    rcases List.mem_cons.mp hp with rfl | hp
    · exact .inl rfl
    · refine .inr ⟨.tail _ hp, fun e => ?_⟩
      have := (List.nodup_cons.mp nd).1
      exact this (List.mem_map.mpr ⟨p, hp, e⟩)
  | tail u ih =>
    intro p hp
    have nd' := List.nodup_cons.mp nd
    rcases List.mem_cons.mp hp with rfl | hp
    · refine .inr ⟨.head _, fun e => nd'.1 ?_⟩
      exact List.mem_map.mpr ⟨_, u.mem, e.symm⟩
    · rcases ih nd'.2 p hp with h | ⟨h1, h2⟩
      · exact .inl h
      · exact .inr ⟨.tail _ h1, h2⟩

theorem NameIs.extBut {env : Env} {h h' : Heap} {x : Str} {v : MV} {a : Addr} (n : NameIs env h x v) (e : ∀ b o, b ≠ a → h.get? b = some o → h'.get? b = some o)
    (hl : env.locals ≠ a) (hc : ∀ c, env.cells.lookup x = some c → c ≠ a) : NameIs env h' x v := by
  rcases n with ⟨hk, m, u, hn, hm, hv⟩ | ⟨hk, c, u, hc', hu, hv⟩
  · exact .inl ⟨hk, m, u, hn.extBut e hl, hm, hv⟩
  · obtain ⟨o, h1, h2⟩ := hu
    exact .inr ⟨hk, c, u, hc', ⟨o, e _ _ (hc c hc') h1, h2⟩, hv⟩

theorem Holds.upd {C : Cx} {hb : Heap} {σ : St} {s s' : Shared} (OK : C.Ok hb) (H : Holds C σ s) {a : Addr} {o o' : MO} {own' : List (Addr × MO)} (u : Upd σ.own a o o' own')
    (e : ∀ b ob, b ≠ a → s.heap.get? b = some ob → s'.heap.get? b = some ob) (ho : OR s'.heap a o') (hg : s'.gens = s.gens) (hos : s'.os = s.os) :
    Holds C { σ with own := own' } s' := by
  have ma : a ∈ σ.own.map (·.1) := List.mem_map_of_mem (f := (·.1)) u.mem
  have ma' : a ∈ σ.own.map (·.1) ++ C.fr := List.mem_append_left _ ma
  have nfr : ∀ b ∈ C.fr, b ≠ a := fun b hb' e' => by
    subst e'
    exact (List.nodup_append.mp H.nodup).2.2 _ ma _ hb' rfl
  have cne : ∀ x c, C.env.cells.lookup x = some c → c ≠ a := fun x c hc => by
    rcases OK.cellsIn x c hc with h | ⟨ob, h⟩
    · exact nfr c h
    · exact fun e' => H.apartK a ma' ob (e' ▸ h)
  have lne : C.env.locals ≠ a := nfr _ OK.locals
  exact {
    kp := fun b ob h => e _ _ (fun e' => H.apartK a ma' ob (e' ▸ h)) (H.kp _ _ h)
    names := fun x v h => (H.names x v h).extBut e lne (cne x)
    ns := let ⟨m, h⟩ := H.ns; ⟨m, h.extBut e lne⟩
    cells := fun x c h => let ⟨v, ob, h1, h2⟩ := H.cells x c h; ⟨v, ob, e _ _ (cne x c h) h1, h2⟩
    alive := fun b hb' => let ⟨ob, h⟩ := H.alive b hb'; ⟨ob, e _ _ (nfr b hb') h⟩
    B := fun b ob h => (H.B b ob h).at fun oo ho' => e _ _ (fun e' => by rw [e', H.apartB a ma'] at h; cases h) ho'
    own := fun p hp => by
      rcases u.cases (List.nodup_append.mp H.nodup).1 p hp with rfl | ⟨h1, h2⟩
      · exact ho
      · exact (H.own p h1).at fun oo ho' => e _ _ h2 ho'
    nodup := by show (own'.map (·.1) ++ C.fr).Nodup; rw [u.keys]; exact H.nodup
    apartB := by show ∀ b ∈ own'.map (·.1) ++ C.fr, _; rw [u.keys]; exact H.apartB
    apartK := by show ∀ b ∈ own'.map (·.1) ++ C.fr, _; rw [u.keys]; exact H.apartK
    gens := hg.trans H.gens
    os := hos.trans H.os
    al := fun b hb' => by
      by_cases hba : b = a
      · subst hba; exact ho.alive
      · obtain ⟨ob, hob⟩ := H.al b hb'; exact ⟨ob, e _ _ hba hob⟩
    B0 := H.B0
    Bnew := H.Bnew
    noB := H.noB
    ownNew := fun p hp => let ⟨q, hq, e'⟩ := u.back p hp; e' ▸ H.ownNew q hq }

/-! trees -/
def Tr {α β : Type} (C : Cx) (t : Sem α) (R : β → α → Prop) (σ : St) (Q : β → St → Prop) : Prop :=
  ∀ s, Holds C σ s → wpAny (model C.prog C.w) C.A t (fun a s' => ∃ b σ', R b a ∧ Holds C σ' s' ∧ Q b σ') (fun _ _ => False) s

theorem Tr.mono {α β : Type} {C : Cx} {t : Sem α} {R : β → α → Prop} {σ : St} {Q Q' : β → St → Prop} (h : Tr C t R σ Q) (hq : ∀ b σ', Q b σ' → Q' b σ') : Tr C t R σ Q' :=
  fun s H => wpAny_mono (h s H) (fun _ _ ⟨b, σ', h1, h2, h3⟩ => ⟨b, σ', h1, h2, hq _ _ h3⟩) fun _ _ x => x
theorem Tr.pure {α β : Type} {C : Cx} {a : α} {b : β} {R : β → α → Prop} {σ : St} {Q : β → St → Prop} (hr : R b a) (h : Q b σ) : Tr C (pure a) R σ Q :=
  fun s H => wpAny_pure ⟨b, σ, hr, H, h⟩

end Mine
set_option autoImplicit false
set_option linter.unusedVariables false
namespace Mine
open PySem

def Ex (C : Cx) (e : Expr) (σ : St) (Q : MV → St → Prop) : Prop := Tr C (eval e C.env) VR σ Q
def Ts (C : Cx) (e : Expr) (σ : St) (Q : Bool → St → Prop) : Prop := Tr C (isTrue e C.env (eval e C.env)) (fun b a => b = a) σ Q
def Bin (C : Cx) (op : Operator) (a b : MV) (σ : St) (Q : MV → St → Prop) : Prop := ∀ va vb, VR a va → VR b vb → Tr C (binaryOp op va vb) VR σ Q
def Cmp (C : Cx) (op : CmpOp) (a b : MV) (σ : St) (Q : MV → St → Prop) : Prop := ∀ va vb, VR a va → VR b vb → Tr C (compareOp op va vb) VR σ Q
def Trt (C : Cx) (v : MV) (σ : St) (Q : Bool → St → Prop) : Prop := ∀ va, VR v va → Tr C (truthy va) (fun b a => b = a) σ Q
def Una (C : Cx) (op : UnaryOp) (v : MV) (σ : St) (Q : MV → St → Prop) : Prop := ∀ va, VR v va → Tr C (unaryOp op va) VR σ Q
def Exs (C : Cx) (pos : Pos) (es : List Expr) (σ : St) (Q : List MV → St → Prop) : Prop := Tr C (spliced (backTo pos (starEach es C.env))) VsR σ Q
def CallV (C : Cx) (f : Value) (args : List MV) (σ : St) (Q : MV → St → Prop) : Prop := ∀ vs, VsR args vs → Tr C (call f vs) VR σ Q
def Sub (C : Cx) (o i : MV) (σ : St) (Q : MV → St → Prop) : Prop := ∀ vo vi, VR o vo → VR i vi → Tr C (getItem vo vi) VR σ Q

inductive MF where
  | next | ret (v : MV)
def FR : MF → Flow → Prop
  | .next, f => f = .next
  | .ret m, f => ∃ v, f = .ret v ∧ VR m v
def Stm (C : Cx) (st : Stmt) (σ : St) (Q : MF → St → Prop) : Prop := Tr C (exec st C.env) FR σ Q
def Sts (C : Cx) (sts : List Stmt) (σ : St) (Q : MF → St → Prop) : Prop := Tr C (execs sts C.env) FR σ Q

section
variable {C : Cx} {hb : Heap} {σ : St}

/-! statements -/
theorem Sts_nil {Q : MF → St → Prop} (h : Q .next σ) : Sts C [] σ Q := Tr.pure (b := MF.next) (R := FR) rfl h
theorem Sts_cons {st : Stmt} {rest : List Stmt} {Q : MF → St → Prop}
    (h : Stm C st σ (fun f σ' => match f with | .next => Sts C rest σ' Q | .ret v => Q (.ret v) σ')) : Sts C (st :: rest) σ Q := fun s H => by
  refine wpAny_execs_cons (wpAny_mono (h s H) (fun f s' hpat => ?_) fun _ _ x => x)
  obtain ⟨b, σ', h1, h2, h3⟩ := hpat
  cases b with
  | next => obtain rfl : f = .next := h1; exact h3 s' h2
  | ret m => obtain ⟨v, rfl, hv⟩ := h1; exact ⟨.ret m, σ', ⟨v, rfl, hv⟩, h2, h3⟩

theorem Stm_If {test : Expr} {body orelse : List Stmt} {pos : Pos} {Q : MF → St → Prop}
    (h : Ts C test σ (fun b σ' => if b then Sts C body σ' Q else Sts C orelse σ' Q)) : Stm C (.If test body orelse pos) σ Q := fun s H => by
  refine wpAny_If (wpAny_mono (h s H) (fun b s' hpat => ?_) fun _ _ x => x)
  obtain ⟨b', σ', h1, h2, h3⟩ := hpat
  subst h1
  cases b' with
  | true => exact h3 s' h2
  | false => exact h3 s' h2
theorem Stm_Return {e : Expr} {pos : Pos} {Q : MF → St → Prop} (h : Ex C e σ (fun v σ' => Q (.ret v) σ')) : Stm C (.Return (some e) pos) σ Q := fun s H => by
  refine wpAny_Return_some (wpAny_mono (h s H) (fun v s' ⟨m, σ', h1, h2, h3⟩ => ⟨.ret m, σ', ⟨v, rfl, h1⟩, h2, h3⟩) fun _ _ x => x)
theorem Stm_Return_none {pos : Pos} {Q : MF → St → Prop} (h : Q (.ret .none) σ) : Stm C (.Return none pos) σ Q := fun s H =>
  wpAny_Return_none ⟨.ret .none, σ, ⟨_, rfl, rfl⟩, H, h⟩
/-! expressions -/
theorem Ex_int {i : Int} {k : Nat} {pos : Pos} {Q : MV → St → Prop} (h : Q (.int i) σ) : Ex C (.Constant (.int i) k pos) σ Q := fun s H =>
  wpAny_Constant_int ⟨.int i, σ, ⟨_, rfl⟩, H.toks _, h⟩
theorem Ex_str {x : Str} {k : Nat} {pos : Pos} {Q : MV → St → Prop} (h : Q (.str x) σ) : Ex C (.Constant (.str x) k pos) σ Q := fun s H =>
  wpAny_Constant_str ⟨.str x, σ, ⟨_, rfl⟩, H.toks _, h⟩
theorem Ex_bool {b : Bool} {k : Nat} {pos : Pos} {Q : MV → St → Prop} (h : Q (.bool b) σ) : Ex C (.Constant (.bool b) k pos) σ Q := fun s H =>
  wpAny_Constant_bool ⟨.bool b, σ, rfl, H, h⟩
theorem Ex_BinOp {l r : Expr} {op : Operator} {pos : Pos} {Q : MV → St → Prop} (h : Ex C l σ (fun a σ₁ => Ex C r σ₁ (fun b σ₂ => Bin C op a b σ₂ Q))) : Ex C (.BinOp l op r pos) σ Q := fun s H =>
  wpAny_BinOp (wpAny_mono (h s H) (fun va s₁ ⟨a, σ₁, ha, H₁, h₁⟩ => wpAny_mono (h₁ s₁ H₁) (fun vb s₂ ⟨b, σ₂, hb, H₂, h₂⟩ => h₂ va vb ha hb s₂ H₂) fun _ _ x => x) fun _ _ x => x)
theorem Ex_Compare {l r : Expr} {op : CmpOp} {pos : Pos} {Q : MV → St → Prop} (hm : behindInMarks op r = false)
    (h : Ex C l σ (fun a σ₁ => Ex C r σ₁ (fun b σ₂ => Cmp C op a b σ₂ Q))) : Ex C (.Compare l [op] [r] pos) σ Q := fun s H =>
  wpAny_Compare1 (hm := hm) (wpAny_mono (h s H) (fun va s₁ ⟨a, σ₁, ha, H₁, h₁⟩ => wpAny_mono (h₁ s₁ H₁) (fun vb s₂ ⟨b, σ₂, hb, H₂, h₂⟩ => h₂ va vb ha hb s₂ H₂) fun _ _ x => x) fun _ _ x => x)
theorem Ts_Compare {l r : Expr} {op : CmpOp} {pos : Pos} {Q : Bool → St → Prop} (hm : behindInMarks op r = false)
    (h : Ex C l σ (fun a σ₁ => Ex C r σ₁ (fun b σ₂ => Cmp C op a b σ₂ (fun c σ₃ => Trt C c σ₃ Q)))) : Ts C (.Compare l [op] [r] pos) σ Q := fun s H =>
  wpAny_isTrue_Compare1 (hm := hm) (wpAny_mono (h s H) (fun va s₁ ⟨a, σ₁, ha, H₁, h₁⟩ => wpAny_mono (h₁ s₁ H₁) (fun vb s₂ ⟨b, σ₂, hb, H₂, h₂⟩ =>
    wpAny_mono (h₂ va vb ha hb s₂ H₂) (fun vc s₃ ⟨c, σ₃, hc, H₃, h₃⟩ => h₃ vc hc s₃ H₃) fun _ _ x => x) fun _ _ x => x) fun _ _ x => x)
theorem Ts_Not {e : Expr} {pos : Pos} {Q : Bool → St → Prop} (h : Ts C e σ (fun b σ' => Q (!b) σ')) : Ts C (.UnaryOp .Not e pos) σ Q := fun s H =>
  wpAny_isTrue_Not (wpAny_mono (h s H) (fun b s' ⟨b', σ', h1, h2, h3⟩ => ⟨!b', σ', by rw [h1], h2, h3⟩) fun _ _ x => x)
theorem Ts_And_nil {pos : Pos} {Q : Bool → St → Prop} (h : Q true σ) : Ts C (.BoolOp .And [] pos) σ Q := fun s H => wpAny_isTrue_BoolOp (wpAny_allTrue_And_nil ⟨true, σ, rfl, H, h⟩)
theorem Ts_And {x : Expr} {rest : List Expr} {pos : Pos} {Q : Bool → St → Prop} (h : Ts C x σ (fun b σ' => if b then Ts C (.BoolOp .And rest pos) σ' Q else Q false σ')) :
    Ts C (.BoolOp .And (x :: rest) pos) σ Q := fun s H => by
  refine wpAny_isTrue_BoolOp (wpAny_allTrue_And_cons (wpAny_mono (h s H) (fun b s' hpat => ?_) fun _ _ x => x))
  obtain ⟨b', σ', h1, h2, h3⟩ := hpat
  subst h1
  cases b' with
  | true => exact h3 s' h2
  | false => exact ⟨false, σ', rfl, h2, h3⟩
theorem Ts_Or_nil {pos : Pos} {Q : Bool → St → Prop} (h : Q false σ) : Ts C (.BoolOp .Or [] pos) σ Q := fun s H => wpAny_isTrue_BoolOp (wpAny_allTrue_Or_nil ⟨false, σ, rfl, H, h⟩)
theorem Ts_Or {x : Expr} {rest : List Expr} {pos : Pos} {Q : Bool → St → Prop} (h : Ts C x σ (fun b σ' => if b then Q true σ' else Ts C (.BoolOp .Or rest pos) σ' Q)) :
    Ts C (.BoolOp .Or (x :: rest) pos) σ Q := fun s H => by
  refine wpAny_isTrue_BoolOp (wpAny_allTrue_Or_cons (wpAny_mono (h s H) (fun b s' hpat => ?_) fun _ _ x => x))
  obtain ⟨b', σ', h1, h2, h3⟩ := hpat
  subst h1
  cases b' with
  | true => exact ⟨true, σ', rfl, h2, h3⟩
  | false => exact h3 s' h2
def plainTest : Expr → Bool
  | .UnaryOp .Not _ _ | .BoolOp .. | .IfExp .. | .Compare .. => false
  | _ => true
theorem isTrue_plainTest {e : Expr} {env : Env} {whole : Sem Value} (h : plainTest e = true) : isTrue e env whole = (do let v ← whole; standAt e.pos; holding [v] (truthy v)) := by
  cases e <;> first | rfl | (simp [plainTest] at h; done) | (rename_i op _ _; cases op <;> first | rfl | simp [plainTest] at h)
theorem Ts_val {e : Expr} {Q : Bool → St → Prop} (he : plainTest e = true) (h : Ex C e σ (fun v σ' => Trt C v σ' Q)) : Ts C e σ Q := fun s H => by
  refine wpAny_isTrue_value (wpAny_mono (h s H) (fun v s' ⟨m, σ', h1, h2, h3⟩ => h3 v h1 s' h2) fun _ _ x => x) (isTrue_plainTest he)
theorem Ex_UnaryOp {op : UnaryOp} {x : Expr} {pos : Pos} {Q : MV → St → Prop} (h : Ex C x σ (fun v σ' => Una C op v σ' Q)) : Ex C (.UnaryOp op x pos) σ Q := fun s H =>
  wpAny_UnaryOp (wpAny_mono (h s H) (fun v s' ⟨m, σ', h1, h2, h3⟩ => h3 v h1 s' h2) fun _ _ x => x)
theorem Una_Not {v : MV} {Q : MV → St → Prop} (h : Trt C v σ (fun b σ' => Q (.bool (!b)) σ')) : Una C .Not v σ Q := fun va hv s H =>
  not_value (wpAny_mono (h va hv s H) (fun b s' ⟨b', σ', h1, h2, h3⟩ => ⟨.bool (!b'), σ', by rw [h1]; rfl, h2, h3⟩) fun _ _ x => x)
/-- boolean connectives as values: the operands are bools -/
theorem Ex_And2 {x y : Expr} {pos : Pos} {Q : MV → St → Prop} (h : Ex C x σ (fun v σ₁ => Trt C v σ₁ (fun t σ₂ => if t then Ex C y σ₂ Q else Q v σ₂))) : Ex C (.BoolOp .And [x, y] pos) σ Q := fun s H => by
  refine wpAny_And2 (wpAny_mono (h s H) (fun v s₁ ⟨m, σ₁, h1, h2, h3⟩ => wpAny_mono (h3 v h1 s₁ h2) (fun t s₂ hpat => ?_) fun _ _ x => x) fun _ _ x => x)
  obtain ⟨t', σ₂, g1, g2, g3⟩ := hpat
  subst g1
  cases t' with
  | true => exact g3 s₂ g2
  | false => exact ⟨m, σ₂, h1, g2, g3⟩
theorem Ex_Or2 {x y : Expr} {pos : Pos} {Q : MV → St → Prop} (h : Ex C x σ (fun v σ₁ => Trt C v σ₁ (fun t σ₂ => if t then Q v σ₂ else Ex C y σ₂ Q))) : Ex C (.BoolOp .Or [x, y] pos) σ Q := fun s H => by
  refine wpAny_Or2 (wpAny_mono (h s H) (fun v s₁ ⟨m, σ₁, h1, h2, h3⟩ => wpAny_mono (h3 v h1 s₁ h2) (fun t s₂ hpat => ?_) fun _ _ x => x) fun _ _ x => x)
  obtain ⟨t', σ₂, g1, g2, g3⟩ := hpat
  subst g1
  cases t' with
  | true => exact ⟨m, σ₂, h1, g2, g3⟩
  | false => exact g3 s₂ g2

theorem Trt_bool {b : Bool} {Q : Bool → St → Prop} (h : Q b σ) : Trt C (.bool b) σ Q := fun va hv s H => by
  obtain rfl : va = .bool b := hv
  exact wpAny_truthy_bool ⟨b, σ, rfl, H, h⟩

/-! operators on ints -/
theorem Bin_add {a b : Int} {Q : MV → St → Prop} (h : Q (.int (a + b)) σ) : Bin C .Add (.int a) (.int b) σ Q := fun va vb ha hb s H => by
  obtain ⟨t, rfl⟩ := ha; obtain ⟨u, rfl⟩ := hb
  exact wpAny_add_int ⟨.int (a + b), σ, ⟨_, rfl⟩, H.toks _, h⟩
theorem Bin_sub {a b : Int} {Q : MV → St → Prop} (h : Q (.int (a - b)) σ) : Bin C .Sub (.int a) (.int b) σ Q := fun va vb ha hb s H => by
  obtain ⟨t, rfl⟩ := ha; obtain ⟨u, rfl⟩ := hb
  exact P.sub_int ⟨.int (a - b), σ, ⟨_, rfl⟩, H.toks _, h⟩

theorem Exs_nil {pos : Pos} {Q : List MV → St → Prop} (h : Q [] σ) : Exs C pos [] σ Q := fun s H => wpAny_items_nil ⟨[], σ, .nil, H, h⟩
theorem Exs_cons {pos : Pos} {e : Expr} {rest : List Expr} {Q : List MV → St → Prop} (he : starEach (e :: rest) C.env = (false, eval e C.env) :: starEach rest C.env)
    (h : Ex C e σ (fun v σ₁ => Exs C pos rest σ₁ (fun vs σ₂ => Q (v :: vs) σ₂))) : Exs C pos (e :: rest) σ Q := fun s H =>
  wpAny_items_cons (he := he) (wpAny_mono (h s H) (fun v s₁ ⟨m, σ₁, h1, h2, h3⟩ => wpAny_mono (h3 s₁ h2) (fun vs s₂ ⟨ms, σ₂, g1, g2, g3⟩ => ⟨m :: ms, σ₂, .cons h1 g1, g2, g3⟩) fun _ _ x => x) fun _ _ x => x)
theorem Ex_List {elts : List Expr} {pos : Pos} {Q : MV → St → Prop} (OK : C.Ok hb) (h : Exs C pos elts σ (fun vs σ' => vs.length ≤ lim ∧ ∀ a, Fsh C.mod σ' a → Q (.ref a) { σ' with own := (a, .list vs) :: σ'.own })) : Ex C (.List elts pos) σ Q := fun s H =>
  wpAny_List (wpAny_mono (h s H) (fun vs s' ⟨ms, σ', h1, h2, h3, h4⟩ => ⟨by rw [← h1.length]; exact Nat.le_trans h3 lim_le, .ref _, _, rfl, h2.new (mo := .list ms) ⟨_, _, Heap.get?_push_size _ rfl, by simpa using h1, h3⟩, h4 _ (h2.fsh OK)⟩) fun _ _ x => x)
theorem Ex_Tuple {elts : List Expr} {k : Nat} {pos : Pos} {Q : MV → St → Prop} (OK : C.Ok hb) (h : Exs C pos elts σ (fun vs σ' => vs.length ≤ lim ∧ ∀ a, Fsh C.mod σ' a → Q (.ref a) { σ' with own := (a, .tup vs) :: σ'.own })) : Ex C (.Tuple elts k pos) σ Q := fun s H =>
  wpAny_Tuple (wpAny_mono (h s H) (fun vs s' ⟨ms, σ', h1, h2, h3, h4⟩ => ⟨by rw [← h1.length]; exact Nat.le_trans h3 lim_le, .ref _, _, rfl, h2.new (mo := .tup ms) ⟨_, _, Heap.get?_push_size _ rfl, by simpa using h1, h3⟩, h4 _ (h2.fsh OK)⟩) fun _ _ x => x)
end
end Mine
set_option autoImplicit false
set_option linter.unusedVariables false
namespace Mine
open PySem

/-! loading of globals, said once for the base heap -/
def Gl (hb : Heap) (x : Str) (m : MV) : Prop :=
  ∃ v, VR m v ∧ (x == ("__debug__" : Str)) = false ∧ ∀ (M : Model) (A : Around) (E : Value → Shared → Prop) (s : Shared) (env : Env) (Q : Value → Shared → Prop),
    env.globals = mainGlobals → env.builtins = builtinsNs → (∀ b o, hb.get? b = some o → s.heap.get? b = some o) → Q v s → wpAny M A (loadGlobal env x) Q E s

theorem Holds.base {C : Cx} {hb : Heap} {σ : St} {s : Shared} (OK : C.Ok hb) (H : Holds C σ s) : ∀ b o, hb.get? b = some o → s.heap.get? b = some o := fun b o h => H.kp b o (OK.base b o h)

section
variable {C : Cx} {hb : Heap} {σ : St}

theorem Ex_global {x : Str} {pos : Pos} {m : MV} {Q : MV → St → Prop} (OK : C.Ok hb) (g : Gl hb x m) (hk : C.env.kindOf x = some .globalImplicit) (h : Q m σ) : Ex C (.Name x pos) σ Q := fun s H => by
  obtain ⟨v, hv, hd, hl⟩ := g
  exact Calls.Name_function_global OK.kind hk (hl _ _ _ _ _ _ OK.globals OK.builtins (H.base OK) ⟨m, σ, hv, H, h⟩) hd

def okName (x : Str) : Bool := !(x == ("__debug__" : Str)) && !(x == ("__classdict__" : Str))
theorem okName_d {x : Str} (h : okName x = true) : (x == ("__debug__" : Str)) = false := by simp [okName] at h; simpa using h.1
theorem okName_c {x : Str} (h : okName x = true) : (x == ("__classdict__" : Str)) = false := by simp [okName] at h; simpa using h.2

theorem Ex_local {x : Str} {pos : Pos} {m : MV} {Q : MV → St → Prop} (OK : C.Ok hb) (hl : look σ.loc x = some m) (hn : okName x = true) (h : Q m σ) : Ex C (.Name x pos) σ Q := fun s H => by
  rcases H.names x m hl with ⟨hk, mm, u, hns, hm, hv⟩ | ⟨hk | hk, c, u, hc, hu, hv⟩
  · exact wpAny_Name (wpAny_loadName_local OK.kind hk hns hm ⟨m, σ, hv, H, h⟩) (okName_d hn)
  · exact wpAny_Name (wpAny_loadName_cell OK.kind hk hc hu ⟨m, σ, hv, H, h⟩) (okName_d hn)
  · exact wpAny_Name (wpAny_loadName_free OK.kind hk hc hu ⟨m, σ, hv, H, h⟩ (okName_c hn)) (okName_d hn)

/-- a store of a name of the frame -/
def Store (C : Cx) (x : Str) (m : MV) (σ : St) (Q : St → Prop) : Prop := ∀ v, VR m v → Tr C (storeName C.env x v) (fun (_ : Unit) (_ : Unit) => True) σ (fun _ σ' => Q σ')

theorem Store_local {x : Str} {m : MV} {Q : St → Prop} (OK : C.Ok hb) (hk : C.env.kindOf x = some .local) (h : Q { σ with loc := put σ.loc x m }) : Store C x m σ Q := fun v hv s H => by
  obtain ⟨mm, hns⟩ := H.ns
  refine wpAny_storeName_local hk hns (fun h' hn' hs' => ?_) (by rw [OK.kind]; rfl)
  refine ⟨(), { σ with loc := put σ.loc x m }, trivial, ?_, h⟩
  have e := hs'.extBut
  have mfr : C.env.locals ∈ σ.own.map (·.1) ++ C.fr := List.mem_append_right _ OK.locals
  have kne : ∀ b o, C.kp b o → b ≠ C.env.locals := fun b o hk' e' => H.apartK _ mfr o (e' ▸ hk')
  exact {
    kp := fun b o hk' => e _ _ (kne b o hk') (H.kp _ _ hk')
    names := fun y u hy => by
      rw [look_put] at hy
      by_cases hxy : y = x
      · subst hxy; rw [if_pos rfl] at hy; cases hy
        exact .inl ⟨hk, _, v, hn', by simp, hv⟩
      · rw [if_neg hxy] at hy
        rcases H.names y u hy with ⟨hk2, m2, u2, hns2, hm2, hv2⟩ | ⟨hk2, c, u2, hc, hu, hv2⟩
        · refine .inl ⟨hk2, _, u2, hn', ?_, hv2⟩
          show (if y = x then some v else mm y) = some u2
          rw [if_neg hxy]
          obtain ⟨o1, es1, ep1, a1, b1, c1, d1⟩ := hns
          obtain ⟨o2, es2, ep2, a2, b2, c2, d2⟩ := hns2
          rw [a1] at a2; cases a2; rw [b1] at b2; cases b2
          rw [← d1, d2]; exact hm2
        · obtain ⟨ob, o1, o2⟩ := hu
          exact .inr ⟨hk2, c, u2, hc, ⟨ob, e _ _ (OK.cellsNe y c hc) o1, o2⟩, hv2⟩
    ns := ⟨_, hn'⟩
    cells := fun y c hc => let ⟨u, ob, o1, o2⟩ := H.cells y c hc; ⟨u, ob, e _ _ (OK.cellsNe y c hc) o1, o2⟩
    alive := fun a ha => by
      by_cases hal : a = C.env.locals
      · subst hal; obtain ⟨o, es, ep, ho, _⟩ := hn'; exact ⟨o, ho⟩
      · obtain ⟨o, ho⟩ := H.alive a ha; exact ⟨o, e _ _ hal ho⟩
    B := fun a o ha => (H.B a o ha).at fun ob hob => e _ _ (fun e' => by rw [e', H.apartB _ mfr] at ha; cases ha) hob
    own := fun p hp => (H.own p hp).at fun ob hob => e _ _ (fun e' => (List.nodup_append.mp H.nodup).2.2 _ (List.mem_map.mpr ⟨p, hp, rfl⟩) _ OK.locals e') hob
    al := fun a ha => by
      by_cases hal : a = C.env.locals
      · subst hal; obtain ⟨o, es, ep, ho, _⟩ := hn'; exact ⟨o, ho⟩
      · obtain ⟨o, ho⟩ := H.al a ha; exact ⟨o, e _ _ hal ho⟩
    nodup := H.nodup, apartB := H.apartB, apartK := H.apartK, gens := H.gens, os := H.os, B0 := H.B0, Bnew := H.Bnew, ownNew := H.ownNew, noB := H.noB }

theorem Stm_Assign {x : Str} {p' : Pos} {e : Expr} {pos : Pos} {Q : MF → St → Prop} (hs : swapsWith e (some (.Name x p')) pos.line C.env = pure false)
    (h : Ex C e σ (fun v σ' => Store C x v σ' (fun σ'' => Q .next σ''))) : Stm C (.Assign [.Name x p'] e pos) σ Q := fun s H =>
  wpAny_Assign_Name (hs := hs) (wpAny_mono (h s H) (fun v s₁ ⟨m, σ₁, h1, h2, h3⟩ => wpAny_mono (h3 v h1 s₁ h2) (fun _ s₂ ⟨_, σ₂, _, g2, g3⟩ => ⟨.next, σ₂, rfl, g2, g3⟩) fun _ _ x => x) fun _ _ x => x)

/-! the statement of an expression: no value kept -/
theorem wpAny_dropValue {prog : Program} {w : World} {A : Around} {E : Value → Shared → Prop} {s : Shared} {e : Expr} {pos : Pos} {v : Value} {Q : Flow → Shared → Prop} (h : Q .next s) : wpAny (model prog w) A (dropValue e pos v) Q E s := by
  unfold dropValue
  split
  · exact wpAny_pure h
  · exact wpAny_bind (wpAny_standAt (wpAny_bind (wpAny_runValue (codeAny_builtin entry_let_go (show wpAny _ _ (ret .none) _ _ s from wpAny_pure (wpAny_pure h))))))
  · exact wpAny_pure h
theorem Stm_Expr {e : Expr} {pos : Pos} {Q : MF → St → Prop} (hi : interactive C.env = false) (hs : swapsWith e none pos.line C.env = pure false)
    (h : Ex C e σ (fun _ σ' => Q .next σ')) : Stm C (.Expr e pos) σ Q := fun s H => by
  show wpAny _ _ (exec (.Expr e pos) C.env) _ _ s
  rw [exec_Expr C.env e pos hi hs]
  exact wpAny_bind (wpAny_standAt (wpAny_bind (wpAny_mono (h s H) (fun v s' ⟨m, σ', h1, h2, h3⟩ => wpAny_dropValue ⟨.next, σ', rfl, h2, h3⟩) fun _ _ x => x)))
end
end Mine
set_option autoImplicit false
set_option linter.unusedVariables false
namespace Mine
open PySem

abbrev MH := Addr → Option MO
abbrev Own := List (Addr × MO)
abbrev Spec := List MV → MH → Own → (MV → MH → Own → Prop) → Prop

/-- what a call promises: with room for n frames, from frozen B and owned own₁ -/
def Contract (prog : Program) (w : World) (hb : Heap) (f : Value) (n : Nat) (S : Spec) : Prop :=
  ∀ (A : Around) (s : Shared) (args : List MV) (vals : List Value) (B : MH) (own₁ : Own) (Q : MV → MH → Own → Prop),
    A.handled = none → A.depth + n < recursionLimit → A.units + 3 * n + 100 < cLine →
    (∀ b o, hb.get? b = some o → s.heap.get? b = some o) → (∀ a o, B a = some o → OR s.heap a o) → (∀ p ∈ own₁, OR s.heap p.1 p.2) → (own₁.map (·.1)).Nodup →
    (∀ a ∈ own₁.map (·.1), B a = none ∧ hb.get? a = none) → VsR args vals → S args B own₁ Q →
    wpAny (model prog w) A (call f vals) (fun v s' => ∃ m B' own', VR m v ∧ (∀ b o, b ∉ own₁.map (·.1) → s.heap.get? b = some o → s'.heap.get? b = some o) ∧ s'.gens = s.gens ∧ s'.os = s.os ∧
      (∀ a, (∃ o, s.heap.get? a = some o) → ∃ o, s'.heap.get? a = some o) ∧
      (∀ a o, B a = some o → B' a = some o) ∧ (∀ a o, B' a = some o → OR s'.heap a o) ∧ (∀ a o, B' a = some o → B a = some o ∨ s.heap.get? a = none) ∧
      (∀ p ∈ own', OR s'.heap p.1 p.2) ∧ (own'.map (·.1)).Nodup ∧ (∀ a ∈ own'.map (·.1), B' a = none ∧ (s.heap.get? a = none ∨ a ∈ own₁.map (·.1))) ∧ Q m B' own') (fun _ _ => False) s

section
variable {C : Cx} {hb : Heap} {σ : St}

theorem Holds.perm {s : Shared} {own' : Own} (H : Holds C σ s) (p : σ.own.Perm own') : Holds C { σ with own := own' } s := by
  have pk : (σ.own.map (·.1)).Perm (own'.map (·.1)) := p.map _
  exact {
    kp := H.kp, names := H.names, ns := H.ns, cells := H.cells, alive := H.alive, B := H.B, gens := H.gens, os := H.os, al := H.al, B0 := H.B0, Bnew := H.Bnew, noB := H.noB
    own := fun q hq => H.own q (p.mem_iff.mpr hq)
    nodup := (pk.append_right C.fr).nodup_iff.mp H.nodup
    apartB := fun a ha => H.apartB a ((pk.append_right C.fr).mem_iff.mpr ha)
    apartK := fun a ha => H.apartK a ((pk.append_right C.fr).mem_iff.mpr ha)
    ownNew := fun q hq => H.ownNew q (p.mem_iff.mpr hq) }

theorem none_of_not_alive {h : Heap} {a : Addr} (e : ¬ ∃ o, h.get? a = some o) : h.get? a = none := by
  cases h' : h.get? a with
  | none => rfl
  | some o => exact absurd ⟨o, h'⟩ e

theorem Holds.called {s s' : Shared} (OK : C.Ok hb) {own₁ rest own' : Own} {B' : MH} (H : Holds C σ s) (hp : σ.own = own₁ ++ rest)
    (k : ∀ b o, b ∉ own₁.map (·.1) → s.heap.get? b = some o → s'.heap.get? b = some o) (hg : s'.gens = s.gens) (hos : s'.os = s.os)
    (al : ∀ a, (∃ o, s.heap.get? a = some o) → ∃ o, s'.heap.get? a = some o)
    (b1 : ∀ a o, σ.B a = some o → B' a = some o) (b2 : ∀ a o, B' a = some o → OR s'.heap a o) (b3 : ∀ a o, B' a = some o → σ.B a = some o ∨ s.heap.get? a = none)
    (o1 : ∀ p ∈ own', OR s'.heap p.1 p.2) (o2 : (own'.map (·.1)).Nodup) (o3 : ∀ a ∈ own'.map (·.1), B' a = none ∧ (s.heap.get? a = none ∨ a ∈ own₁.map (·.1))) :
    Holds C { σ with B := B', own := own' ++ rest } s' := by
  have nd := H.nodup
  rw [hp, List.map_append, List.append_assoc] at nd
  have nd' := List.nodup_append.mp nd
  have aB := H.apartB; have aK := H.apartK; have oN := H.ownNew; have hO := H.own
  rw [hp] at aB aK oN hO
  have in1 : ∀ a, a ∈ own₁.map (·.1) → a ∈ (own₁ ++ rest).map (·.1) ++ C.fr := fun a ha => List.mem_append_left _ (by rw [List.map_append]; exact List.mem_append_left _ ha)
  have inR : ∀ a, a ∈ rest.map (·.1) ++ C.fr → a ∈ (own₁ ++ rest).map (·.1) ++ C.fr := fun a ha => by rw [List.map_append, List.append_assoc]; exact List.mem_append_right _ ha
  have rne : ∀ a, a ∈ rest.map (·.1) ++ C.fr → a ∉ own₁.map (·.1) := fun a ha h1 => nd'.2.2 a h1 a ha rfl
  have frne : ∀ a ∈ C.fr, a ∉ own₁.map (·.1) := fun a ha => rne a (List.mem_append_right _ ha)
  have kne : ∀ b o, C.kp b o → b ∉ own₁.map (·.1) := fun b o hk hm => aK b (in1 b hm) o hk
  have cne : ∀ x c, C.env.cells.lookup x = some c → c ∉ own₁.map (·.1) := fun x c hc => (OK.cellsIn x c hc).elim (frne c) fun ⟨o, ho⟩ => kne c o ho
  have aliveR : ∀ a ∈ rest.map (·.1) ++ C.fr, ∃ o, s.heap.get? a = some o := fun a ha => by
    rcases List.mem_append.mp ha with h | h
    · obtain ⟨p, hp', e⟩ := List.mem_map.mp h
      obtain ⟨ob, hob⟩ := (hO p (List.mem_append_right _ hp')).alive
      exact ⟨ob, e ▸ hob⟩
    · exact H.alive a h
  exact {
    kp := fun b o hk => k b o (kne b o hk) (H.kp b o hk)
    names := fun x v hv => by
      rcases H.names x v hv with ⟨hk, m, u, ⟨o, es, ep, h1, h2⟩, hm, hv'⟩ | ⟨hk, c, u, hc, ⟨ob, h1, h2⟩, hv'⟩
      · exact .inl ⟨hk, m, u, ⟨o, es, ep, k _ _ (frne _ OK.locals) h1, h2⟩, hm, hv'⟩
      · exact .inr ⟨hk, c, u, hc, ⟨ob, k _ _ (cne x c hc) h1, h2⟩, hv'⟩
    ns := let ⟨m, o, es, ep, h1, h2⟩ := H.ns; ⟨m, o, es, ep, k _ _ (frne _ OK.locals) h1, h2⟩
    cells := fun x c hc => let ⟨u, ob, h1, h2⟩ := H.cells x c hc; ⟨u, ob, k _ _ (cne x c hc) h1, h2⟩
    alive := fun a ha => al a (H.alive a ha)
    B := b2
    own := fun p hp' => by
      rcases List.mem_append.mp hp' with h | h
      · exact o1 p h
      · exact (hO p (List.mem_append_right _ h)).at fun ob hob => k _ _ (rne p.1 (List.mem_append_left _ (List.mem_map.mpr ⟨p, h, rfl⟩))) hob
    nodup := by
      show ((own' ++ rest).map (·.1) ++ C.fr).Nodup
      rw [List.map_append, List.append_assoc]
      refine List.nodup_append.mpr ⟨o2, nd'.2.1, fun a ha b hb' e => ?_⟩
      subst e
      rcases (o3 a ha).2 with h | h
      · obtain ⟨ob, hob⟩ := aliveR a hb'; rw [h] at hob; cases hob
      · exact rne a hb' h
    apartB := fun a ha => by
      have ha' : a ∈ own'.map (·.1) ++ (rest.map (·.1) ++ C.fr) := by rw [← List.append_assoc, ← List.map_append]; exact ha
      rcases List.mem_append.mp ha' with h | h
      · exact (o3 a h).1
      · cases e : B' a with
        | none => exact e
        | some o =>
          rcases b3 a o e with h' | h'
          · rw [aB a (inR a h)] at h'; cases h'
          · obtain ⟨ob, hob⟩ := aliveR a h; rw [h'] at hob; cases hob
    apartK := fun a ha o hk => by
      have ha' : a ∈ own'.map (·.1) ++ (rest.map (·.1) ++ C.fr) := by rw [← List.append_assoc, ← List.map_append]; exact ha
      rcases List.mem_append.mp ha' with h | h
      · rcases (o3 a h).2 with h' | h'
        · rw [H.kp a o hk] at h'; cases h'
        · exact aK a (in1 a h') o hk
      · exact aK a (inR a h) o hk
    gens := hg.trans H.gens
    os := hos.trans H.os
    al := fun a ha => al a (H.al a ha)
    B0 := fun a o h => b1 a o (H.B0 a o h)
    noB := fun a ha => by
      cases e : B' a with
      | none => exact e
      | some o =>
        rcases b3 a o e with h | h
        · rw [H.noB a ha] at h; cases h
        · obtain ⟨ob, hob⟩ := OK.noKp a ha; rw [H.kp a ob hob] at h; cases h
    Bnew := fun a o h => by
      rcases b3 a o h with h' | h'
      · exact H.Bnew a o h'
      · exact .inr fun ha => by obtain ⟨ob, hob⟩ := H.al a ha; rw [h'] at hob; cases hob
    ownNew := fun p hp' => by
      rcases List.mem_append.mp hp' with h | h
      · rcases (o3 p.1 (List.mem_map.mpr ⟨p, h, rfl⟩)).2 with h' | h'
        · exact .inl fun ha => by obtain ⟨ob, hob⟩ := H.al _ ha; rw [h'] at hob; cases hob
        · obtain ⟨q, hq, e⟩ := List.mem_map.mp h'
          exact e ▸ oN q (List.mem_append_left _ hq)
      · exact oN p (List.mem_append_right _ h) }

/-- a call of a function with a contract; own₁ is handed over -/
theorem CallV_ct {f : Value} {n : Nat} {S : Spec} {args : List MV} {own₁ rest : Own} {Q : MV → St → Prop} (OK : C.Ok hb) (ct : Contract C.prog C.w hb f n S) (hn : n ≤ C.room)
    (hp : σ.own.Perm (own₁ ++ rest)) (h : S args σ.B own₁ (fun m B' own' => Q m { σ with B := B', own := own' ++ rest })) : CallV C f args σ Q := fun vs hvs s H => by
  have H' := H.perm hp
  have nd := List.nodup_append.mp H'.nodup
  have ndo : ((own₁ ++ rest).map (·.1)).Nodup := nd.1
  rw [List.map_append] at ndo
  have in1 : ∀ a, a ∈ own₁.map (·.1) → a ∈ (own₁ ++ rest).map (·.1) ++ C.fr := fun a ha => List.mem_append_left _ (by rw [List.map_append]; exact List.mem_append_left _ ha)
  refine wpAny_mono (ct C.A s args vs σ.B own₁ _ OK.handled (by have := OK.depth; omega) (by have := OK.units; omega) (H.base OK) H.B (fun p hp' => H'.own p (List.mem_append_left _ hp')) (List.nodup_append.mp ndo).1
    (fun a ha => ⟨H'.apartB a (in1 a ha), none_of_not_alive fun ⟨o, ho⟩ => H'.apartK a (in1 a ha) o (OK.base a o ho)⟩) hvs h) (fun v s' hpat => ?_) fun _ _ x => x
  obtain ⟨m, B', own', h1, k, hg, hos, al, b1, b2, b3, o1, o2, o3, hq⟩ := hpat
  exact ⟨m, _, h1, Holds.called (σ := { σ with own := own₁ ++ rest }) OK H' rfl k hg hos al b1 b2 b3 o1 o2 o3, hq⟩
theorem CallV_ct0 {f : Value} {n : Nat} {S : Spec} {args : List MV} {Q : MV → St → Prop} (OK : C.Ok hb) (ct : Contract C.prog C.w hb f n S) (hn : n ≤ C.room)
    (h : S args σ.B [] (fun m B' own' => Q m { σ with B := B', own := own' ++ σ.own })) : CallV C f args σ Q := CallV_ct (own₁ := []) (rest := σ.own) OK ct hn (List.Perm.refl _) h
end

/-! a function's contract from its body -/
def retOf : MF → MV
  | .next => .none
  | .ret v => v

structure FnIs (hb : Heap) (f : Addr) (ps : List Str) (body : List Stmt) (scope : Scope) : Prop where
  ex : ∃ o fd, hb.get? f = some o ∧ o.data = .func fd ∧ fd.body = .stmts body ∧ fd.scope = scope ∧ fd.closure = [] ∧ fd.globals = mainGlobals ∧ fd.builtins = builtinsNs ∧ hb.CodeRec fd.code fd.qualname ∧
    (∀ vals : List Value, vals.length = ps.length → bindArgs fd ⟨vals, []⟩ = pure (ps.zip vals))
  co : scope.isCoroutine = false
  gen : scope.isGenerator = false
  kind : scope.kind = .function
  pkind : ∀ x ∈ ps, scope.names.lookup x = some .local ∨ scope.names.lookup x = some .cell
  nodup : ps.Nodup
  ndNames : (scope.names.map (·.1)).Nodup
  noFree : ∀ x, scope.names.lookup x ≠ some .free

theorem cellsFrom_acc {x : Str} : ∀ (names : List (Str × NameKind)) (n : Nat) (acc : List (Str × Addr)), names.lookup x = some .cell ∨ (acc.lookup x).isSome = true → ((cellsFrom n names acc).lookup x).isSome = true
  | [], _, _, h => h.elim (fun e => by cases e) id
  | (y, k) :: r, n, acc, h => by
    unfold cellsFrom
    split
    · rename_i hk
      refine cellsFrom_acc r (n + 1) _ ?_
      by_cases hy : (x == y) = true
      · exact .inr (by rw [List.lookup_cons, hy]; rfl)
      · have hy' : (x == y) = false := by simpa using hy
        refine h.imp (fun e => ?_) fun e => ?_
        · rw [List.lookup_cons, hy'] at e; exact e
        · rw [List.lookup_cons, hy']; exact e
    · rename_i hk
      refine cellsFrom_acc r n acc ?_
      by_cases hy : (x == y) = true
      · refine .inr (h.elim (fun e => ?_) id)
        rw [List.lookup_cons, hy] at e
        exact absurd (by rw [Option.some.inj e]; rfl) hk
      · have hy' : (x == y) = false := by simpa using hy
        refine h.imp (fun e => ?_) id
        rw [List.lookup_cons, hy'] at e; exact e

theorem cellsFrom_keys : ∀ (names : List (Str × NameKind)) (n : Nat) (acc : List (Str × Addr)), (cellsFrom n names acc).map (·.1) = ((names.filter fun x => x.2 == .cell).map (·.1)).reverse ++ acc.map (·.1)
  | [], _, _ => rfl
  | (y, k) :: r, n, acc => by
    unfold cellsFrom
    split
    · rename_i hk
      rw [cellsFrom_keys r, List.filter_cons]; simp [hk]
    · rename_i hk
      rw [cellsFrom_keys r, List.filter_cons]; simp [hk]
theorem lookup_of_mem : ∀ (l : List (Str × Addr)) (p : Str × Addr), (l.map (·.1)).Nodup → p ∈ l → l.lookup p.1 = some p.2
  | q :: r, p, nd, h => by
    have nd' := List.nodup_cons.mp nd
    rcases List.mem_cons.mp h with e | e
    · subst e; simp [List.lookup]
    · have hne : (p.1 == q.1) = false := by
        cases hb2 : p.1 == q.1 with
        | false => rfl
        | true => exact absurd (List.mem_map.mpr ⟨p, e, beq_iff_eq.mp hb2⟩) nd'.1
      rw [List.lookup_cons, hne]; exact lookup_of_mem r p nd'.2 e

theorem bindL_miss {kindOf : Str → Option NameKind} : ∀ (binds : List (Str × Value)) (acc : Str → Option Value) (x : Str), x ∉ binds.map (·.1) → bindL kindOf binds acc x = acc x
  | [], _, _, _ => rfl
  | (n, v) :: r, acc, x, h => by
    simp only [List.map_cons, List.mem_cons, not_or] at h
    unfold bindL
    rw [bindL_miss r _ x h.2]
    split
    · exact if_neg h.1
    · rfl
theorem bindC_miss {kindOf : Str → Option NameKind} : ∀ (binds : List (Str × Value)) (acc : Str → Option Value) (x : Str), x ∉ binds.map (·.1) → bindC kindOf binds acc x = acc x
  | [], _, _, _ => rfl
  | (n, v) :: r, acc, x, h => by
    simp only [List.map_cons, List.mem_cons, not_or] at h
    unfold bindC
    rw [bindC_miss r _ x h.2]
    split
    · rfl
    · exact if_neg h.1
theorem bindL_hit {kindOf : Str → Option NameKind} : ∀ (binds : List (Str × Value)) (acc : Str → Option Value) (x : Str) (v : Value), (binds.map (·.1)).Nodup → (x, v) ∈ binds → kindOf x = some .local → bindL kindOf binds acc x = some v
  | (n, u) :: r, acc, x, v, nd, hm, hk => by
    have nd' := List.nodup_cons.mp nd
    unfold bindL
    rcases List.mem_cons.mp hm with e | e
    · cases e
      rw [bindL_miss r _ _ nd'.1, if_pos hk]; exact if_pos rfl
    · exact bindL_hit r _ x v nd'.2 e hk
theorem bindC_hit {kindOf : Str → Option NameKind} : ∀ (binds : List (Str × Value)) (acc : Str → Option Value) (x : Str) (v : Value), (binds.map (·.1)).Nodup → (x, v) ∈ binds → kindOf x = some .cell → bindC kindOf binds acc x = some v
  | (n, u) :: r, acc, x, v, nd, hm, hk => by
    have nd' := List.nodup_cons.mp nd
    unfold bindC
    rcases List.mem_cons.mp hm with e | e
    · cases e
      rw [bindC_miss r _ _ nd'.1, if_neg (by rw [hk]; simp)]; exact if_pos rfl
    · exact bindC_hit r _ x v nd'.2 e hk

theorem look_zip {ps : List Str} : ∀ {args : List MV} {vals : List Value}, VsR args vals → ∀ {x : Str} {m : MV}, look (ps.zip args) x = some m → x ∈ ps ∧ ∃ v, (x, v) ∈ ps.zip vals ∧ VR m v := by
  induction ps with
  | nil => intro args vals _ x m h; simp [look] at h
  | cons p r ih =>
    intro args vals hv x m h
    cases hv with
    | nil => simp [look] at h
    | cons h1 h2 =>
      simp only [List.zip_cons_cons, look] at h
      by_cases hx : x = p
      · subst hx; rw [if_pos rfl] at h; cases h
        exact ⟨.head _, _, .head _, h1⟩
      · rw [if_neg hx] at h
        obtain ⟨e1, v, e2, e3⟩ := ih h2 h
        exact ⟨.tail _ e1, v, .tail _ e2, e3⟩

theorem zip_keys {α : Type} : ∀ {ps : List Str} {vs : List α}, vs.length = ps.length → (ps.zip vs).map (·.1) = ps
  | [], [], _ => rfl
  | p :: ps, v :: vs, h => by simp only [List.zip_cons_cons, List.map_cons]; rw [zip_keys (by simpa using h)]
  | [], _ :: _, h => by simp at h
  | _ :: _, [], h => by simp at h

theorem Contract.intro {prog : Program} {w : World} {hb : Heap} {f : Addr} {ps : List Str} {body : List Stmt} {scope : Scope} {n : Nat} {S : Spec} (F : FnIs hb f ps body scope) (hlim : hb.NoLimit)
    (hS : ∀ args B own Q, S args B own Q → args.length = ps.length)
    (h : ∀ (C : Cx), C.Ok hb → C.prog = prog → C.w = w → C.env.scope = scope → C.room = n → (∀ x c, C.env.cells.lookup x = some c → c ∈ C.fr) → (∀ x, scope.names.lookup x = some .cell → ∃ c, C.env.cells.lookup x = some c) →
      ∀ args B own Q, C.mod = own.map (·.1) → C.B0 = B → S args B own Q → Sts C body ⟨ps.zip args, B, own⟩ (fun fl σ' => Q (retOf fl) σ'.B σ'.own)) : Contract prog w hb (.ref f) (n + 1) S := by
  intro A s args vals B own₁ Q hh hd hu hbs hB hO hnd hap hv hs
  obtain ⟨o, fd, ho, hdata, hbody, rfl, hclo, hglob, hbi, hcd, hbind⟩ := F.ex
  have hlen : args.length = ps.length := hS _ _ _ _ hs
  have hvl : vals.length = ps.length := hv.length ▸ hlen
  refine wpAny_call (codeAny_call_cells (by omega) (hbs _ _ ho) hdata (hlim.keeps hbs) (hcd.keeps hbs) hbody (hbind vals hvl) hclo (fun x hx => ?_) (fun s₁ I => ?_) F.co F.gen F.kind)
  · have hm : x.1 ∈ ps := by rw [← zip_keys hvl]; exact List.mem_map.mpr ⟨x, hx, rfl⟩
    rcases F.pkind x.1 hm with h1 | h1
    · exact .inl h1
    · exact .inr ⟨h1, cellsFrom_acc _ _ _ (.inl h1)⟩
  generalize henv : callEnvC fd s.heap.objs.size f = env at I ⊢
  have hsc : env.scope = fd.scope := by rw [← henv]; rfl
  have hL : env.locals = s.heap.objs.size := by rw [← henv]; rfl
  have hcl : env.cells = cellsFrom (s.heap.objs.size + 1) fd.scope.names [] := by rw [← henv]; rfl
  have hgl : env.globals = mainGlobals := by rw [← henv]; exact hglob
  have hbu : env.builtins = builtinsNs := by rw [← henv]; exact hbi
  have keep := I.toInCall.keep
  obtain ⟨h₁, tk, rfl⟩ := I.toInCall.same
  have fresh : ∀ a, s.heap.objs.size ≤ a → s.heap.get? a = none := fun a ha => none_of_not_alive fun ⟨o, ho⟩ => Nat.lt_irrefl _ (Nat.lt_of_lt_of_le (Heap.lt_size ho) ha)
  have cabove : ∀ x c, env.cells.lookup x = some c → s.heap.objs.size < c := fun x c hc => hL ▸ I.above x c (mem_of_lookup hc)
  let C : Cx := Cx.mk prog w (A.deeper env) env (env.locals :: env.cells.map (·.2)) (fun b o => s.heap.get? b = some o ∧ b ∉ own₁.map (·.1)) s.gens s.os n (fun a => ∃ o, s.heap.get? a = some o) (own₁.map (·.1)) B (fun _ => False)
  have frfresh : ∀ a ∈ env.locals :: env.cells.map (·.2), s.heap.get? a = none := fun a ha => by
    rcases List.mem_cons.mp ha with rfl | ha
    · exact fresh _ (hL ▸ Nat.le_refl _)
    · obtain ⟨p, hp, rfl⟩ := List.mem_map.mp ha
      exact fresh _ (hL ▸ Nat.le_of_lt (I.above p.1 p.2 hp))
  have frnd : (env.locals :: env.cells.map (·.2)).Nodup := by
    refine List.nodup_cons.mpr ⟨fun hm => ?_, ?_⟩
    · obtain ⟨p, hp, e⟩ := List.mem_map.mp hm
      exact Nat.lt_irrefl _ (e ▸ I.above p.1 p.2 hp)
    · exact List.Pairwise.map _ (fun a b hab => hab) I.apart
  have OK : C.Ok hb := {
    handled := hh
    depth := by show A.depth + 1 + n < _; omega
    units := by show A.units + 3 + 3 * n + 100 < _; omega
    kind := hsc ▸ F.kind
    globals := hgl, builtins := hbu, locals := .head _
    cellsIn := fun x c hc => .inl (.tail _ (List.mem_map.mpr ⟨(x, c), mem_of_lookup hc, rfl⟩))
    cellsNe := fun x c hc e => Nat.lt_irrefl _ (e ▸ hL ▸ cabove x c hc)
    cellsInj := fun x y c h1 h2 => name_of_addr I.apart (mem_of_lookup h1) (mem_of_lookup h2)
    apart := fun a ha o hk => by have := frfresh a ha; rw [hk.1] at this; cases this
    base := fun b o hbo => ⟨hbs _ _ hbo, fun hm => by rw [(hap b hm).2] at hbo; cases hbo⟩
    modAl := fun a ha => by obtain ⟨p, hp, rfl⟩ := List.mem_map.mp ha; exact (hO p hp).alive
    noKp := fun _ h => h.elim }
  have H : Holds C ⟨ps.zip args, B, own₁⟩ { s with heap := h₁, toks := tk } := {
    kp := fun b o hk => keep b o hk.1
    names := fun x v hx => by
      obtain ⟨hp, u, hm, hr⟩ := look_zip hv hx
      have hz : ((ps.zip vals).map (·.1)).Nodup := by rw [zip_keys hvl]; exact F.nodup
      rcases F.pkind x hp with h1 | h1
      · have hk : env.kindOf x = some .local := by unfold Env.kindOf; rw [hsc]; exact h1
        exact .inl ⟨hk, _, u, I.toInCall.ns, bindL_hit _ _ x u hz hm hk, hr⟩
      · have hk : env.kindOf x = some .cell := by unfold Env.kindOf; rw [hsc]; exact h1
        have hsome := cellsFrom_acc fd.scope.names (s.heap.objs.size + 1) [] (.inl h1)
        rw [← hcl] at hsome
        obtain ⟨c, hc⟩ := Option.isSome_iff_exists.mp hsome
        refine .inr ⟨.inl hk, c, u, hc, ?_, hr⟩
        have := I.cell x c hc
        rw [bindC_hit _ _ x u hz hm hk] at this
        exact this
    ns := ⟨_, I.toInCall.ns⟩
    cells := fun x c hc => ⟨_, I.cell x c hc⟩
    alive := fun a ha => by
      rcases List.mem_cons.mp ha with rfl | ha
      · obtain ⟨o, es, ep, ho, _⟩ := I.toInCall.ns; exact ⟨o, ho⟩
      · obtain ⟨p, hp, rfl⟩ := List.mem_map.mp ha
        have hlk : env.cells.lookup p.1 = some p.2 := by
          refine lookup_of_mem _ p ?_ hp
          rw [hcl, cellsFrom_keys]
          simp only [List.map_nil, List.append_nil]
          refine (List.reverse_perm _).nodup_iff.mpr ?_
          exact List.Sublist.nodup (List.Sublist.map _ List.filter_sublist) F.ndNames
        obtain ⟨ob, h1, _⟩ := I.cell p.1 p.2 hlk
        exact ⟨ob, h1⟩
    B := fun a o ha => (hB a o ha).at fun ob => keep _ _
    own := fun p hp => (hO p hp).at fun ob => keep _ _
    nodup := List.nodup_append.mpr ⟨hnd, frnd, fun a ha b hb' e => by
      subst e
      obtain ⟨p, hp, rfl⟩ := List.mem_map.mp ha
      obtain ⟨ob, hob⟩ := (hO p hp).alive
      rw [frfresh _ hb'] at hob; cases hob⟩
    apartB := fun a ha => by
      rcases List.mem_append.mp ha with h1 | h1
      · exact (hap a h1).1
      · cases e : B a with
        | none => exact e
        | some o => obtain ⟨ob, hob⟩ := (hB a o e).alive; rw [frfresh a h1] at hob; cases hob
    apartK := fun a ha o hk => by
      rcases List.mem_append.mp ha with h1 | h1
      · exact hk.2 h1
      · have := frfresh a h1; rw [hk.1] at this; cases this
    gens := rfl, os := rfl
    al := fun a ⟨o, ho⟩ => ⟨o, keep _ _ ho⟩
    B0 := fun _ _ h => h
    Bnew := fun _ _ h => .inl h
    noB := fun _ h => h.elim
    ownNew := fun p hp => .inr (List.mem_map.mpr ⟨p, hp, rfl⟩) }
  refine wpAny_mono (h C OK rfl rfl hsc rfl (fun x c hc => .tail _ (List.mem_map.mpr ⟨(x, c), mem_of_lookup hc, rfl⟩)) (fun x hx => ?_) args B own₁ Q rfl rfl hs _ H) (fun fl s' ⟨b, σ', hf, H', hq⟩ => ?_) fun _ _ x => x.elim
  · have hsome := cellsFrom_acc fd.scope.names (s.heap.objs.size + 1) [] (.inl hx)
    rw [← hcl] at hsome
    exact Option.isSome_iff_exists.mp hsome
  refine ⟨retOf b, σ'.B, σ'.own, ?_, fun b' o hb' ho' => H'.kp b' o ⟨ho', hb'⟩, H'.gens, H'.os, H'.al, H'.B0, H'.B, fun a o ha => (H'.Bnew a o ha).imp id none_of_not_alive, H'.own, (List.nodup_append.mp H'.nodup).1,
    fun a ha => ⟨H'.apartB a (List.mem_append_left _ ha), ?_⟩, hq⟩
  · cases b with
    | next => obtain rfl : fl = .next := hf; rfl
    | ret m => obtain ⟨v, rfl, hv'⟩ := hf; exact hv'
  · obtain ⟨p, hp, rfl⟩ := List.mem_map.mp ha
    exact (H'.ownNew p hp).imp none_of_not_alive id
end Mine
set_option autoImplicit false
set_option linter.unusedVariables false
namespace Mine
open PySem

/-- what a function's text may know of its frame -/
structure Fx (C : Cx) (hb : Heap) (prog : Program) (w : World) (sc : Scope) (n : Nat) (md : List Addr) (fl : Bool) : Prop where
  ok : C.Ok hb
  eprog : C.prog = prog
  ew : C.w = w
  esc : C.env.scope = sc
  eroom : C.room = n
  emod : C.mod = md
  cell : ∀ x, sc.names.lookup x = some .cell ∨ sc.names.lookup x = some .free → ∃ c, C.env.cells.lookup x = some c
  full : fl = true → ∀ x, sc.names.lookup x = some .cell → ∃ c, C.env.cells.lookup x = some c ∧ c ∈ C.fr

def Cx.hide (C : Cx) (h : Heap) (X wr : List Addr) : Cx := { C with kp := fun b o => C.kp b o ∨ (b ∈ X ∧ h.get? b = some o), no := fun a => C.no a ∨ a ∈ wr }

section
variable {C : Cx} {hb : Heap} {prog : Program} {w : World} {sc : Scope} {n : Nat} {md : List Addr} {fl : Bool} {σ : St}

theorem Cx.Ok.hide (OK : C.Ok hb) {h : Heap} {X wr : List Addr} (hX : ∀ a ∈ X, a ∉ C.fr) (hw : ∀ a ∈ wr, a ∈ X ∧ ∃ o, h.get? a = some o) : (C.hide h X wr).Ok hb where
  handled := OK.handled
  depth := OK.depth
  units := OK.units
  kind := OK.kind
  globals := OK.globals
  builtins := OK.builtins
  locals := OK.locals
  cellsIn := fun x c hc => (OK.cellsIn x c hc).imp id fun ⟨o, ho⟩ => ⟨o, .inl ho⟩
  cellsNe := OK.cellsNe
  cellsInj := OK.cellsInj
  apart := fun a ha o hk => hk.elim (OK.apart a ha o) fun hk => hX a hk.1 ha
  base := fun b o h => .inl (OK.base b o h)
  modAl := OK.modAl
  noKp := fun a ha => ha.elim (fun h => let ⟨o, ho⟩ := OK.noKp a h; ⟨o, .inl ho⟩) fun h => let ⟨h1, o, ho⟩ := hw a h; ⟨o, .inr ⟨h1, ho⟩⟩
theorem Fx.hide (F : Fx C hb prog w sc n md fl) {h : Heap} {X wr : List Addr} (hX : ∀ a ∈ X, a ∉ C.fr) (hw : ∀ a ∈ wr, a ∈ X ∧ ∃ o, h.get? a = some o) : Fx (C.hide h X wr) hb prog w sc n md fl where
  ok := F.ok.hide hX hw
  eprog := F.eprog
  ew := F.ew
  esc := F.esc
  eroom := F.eroom
  emod := F.emod
  cell := F.cell
  full := F.full

theorem Holds.hide {s : Shared} (H : Holds C σ s) {X wr : List Addr} (hX : ∀ a ∈ X, a ∉ σ.own.map (·.1) ++ C.fr) (hw : ∀ a ∈ wr, σ.B a = none) : Holds (C.hide s.heap X wr) σ s where
  kp := fun b o h => h.elim (H.kp b o) fun h => h.2
  names := H.names
  ns := H.ns
  cells := H.cells
  alive := H.alive
  B := H.B
  own := H.own
  nodup := H.nodup
  apartB := H.apartB
  apartK := fun a ha o h => h.elim (H.apartK a ha o) fun h => hX a h.1 ha
  gens := H.gens
  os := H.os
  al := H.al
  B0 := H.B0
  Bnew := H.Bnew
  ownNew := H.ownNew
  noB := fun a ha => ha.elim (H.noB a) (hw a)
theorem Holds.unhide {s : Shared} {h : Heap} {X wr : List Addr} (H : Holds (C.hide h X wr) σ s) : Holds C σ s where
  kp := fun b o h => H.kp b o (.inl h)
  names := H.names
  ns := H.ns
  cells := H.cells
  alive := H.alive
  B := H.B
  own := H.own
  nodup := H.nodup
  apartB := H.apartB
  apartK := fun a ha o h => H.apartK a ha o (.inl h)
  gens := H.gens
  os := H.os
  al := H.al
  B0 := H.B0
  Bnew := H.Bnew
  ownNew := H.ownNew
  noB := fun a ha => H.noB a (.inl ha)

theorem Stm_While {test : Expr} {body orelse : List Stmt} {pos : Pos} {Q : MF → St → Prop} (I : Nat → St → Prop)
    (turn : ∀ k σ', I k σ' → Ts C test σ' (fun b σ₁ => if b then Sts C body σ₁ (fun f σ₂ => match f with | .next => ∃ m, m < k ∧ I m σ₂ | .ret v => Q (.ret v) σ₂) else Sts C orelse σ₁ Q))
    (k : Nat) (h : I k σ) : Stm C (.While test body orelse pos) σ Q := fun s H => by
  refine wpAny_While (codeAny_whileLoop (fun k s => ∃ σ', I k σ' ∧ Holds C σ' s) (fun k s hpat => ?_) k ⟨σ, h, H⟩)
  obtain ⟨σ', hI, H'⟩ := hpat
  refine wpAny_mono (turn k σ' hI s H') (fun b s₂ hpat => ?_) fun _ _ x => x.elim
  obtain ⟨b', σ₁, e, H₁, h₁⟩ := hpat
  subst e
  cases b' with
  | true =>
    refine wpAny_mono (h₁ s₂ H₁) (fun f s₃ hpat => ?_) fun _ _ x => x.elim
    obtain ⟨m, σ₂, hf, H₂, h₂⟩ := hpat
    cases m with
    | next => obtain rfl : f = .next := hf; obtain ⟨j, hj, hI'⟩ := h₂; exact ⟨j, hj, σ₂, hI', H₂⟩
    | ret v => obtain ⟨vv, rfl, hv⟩ := hf; exact ⟨.ret v, σ₂, ⟨vv, rfl, hv⟩, H₂, h₂⟩
  | false =>
    exact wpAny_mono (h₁ s₂ H₁) (fun f s₃ ⟨m, σ₂, hf, H₂, h₂⟩ => ⟨m, σ₂, hf, H₂, h₂⟩) fun _ _ x => x.elim

/-! iteration -/
def Itr (σ : St) (v : MV) (items : List MV) : Prop :=
  ∃ a, v = .ref a ∧ (σ.B a = some (.list items) ∨ (σ.B a = some (.tup items) ∨ ∃ kvs, σ.B a = some (.dict kvs) ∧ items = kvs.map (fun p => keyMV p.1)) ∨ ∃ k : Nat, Has σ a (.range k) ∧ items = (List.range k).map (fun i => MV.int (i : Nat)))

structure Walked (C : Cx) (σ : St) (items : List MV) (I : Addr) (fp wr : List Addr) (P : Nat → Value → Prop) (St : Nat → Heap → Prop) (s : Shared) : Prop where
  walks : Walks C.prog C.w C.A I fp wr items.length P St
  st : St 0 s.heap
  item : ∀ i v, P i v → ∃ m, items[i]? = some m ∧ VR m v
  holds : Holds C σ s
  apart : ∀ a ∈ fp, a ∉ σ.own.map (·.1) ++ C.fr
  alive : ∀ a ∈ fp, ∃ o, s.heap.get? a = some o
  noB : ∀ a ∈ wr, σ.B a = none
  noK : ∀ a ∈ wr, ∀ o, ¬ C.kp a o
  noAl : ∀ a ∈ wr, ¬ C.al a
  stays : ∀ i h, St i h → ∀ a ∈ wr, ∃ o, h.get? a = some o

theorem fresh_facts {s : Shared} (H : Holds C σ s) : s.heap.objs.size ∉ σ.own.map (·.1) ++ C.fr ∧ σ.B s.heap.objs.size = none ∧ (∀ o, ¬ C.kp s.heap.objs.size o) ∧ ¬ C.al s.heap.objs.size := H.far (Nat.le_refl _)

theorem rangeSize_nat (k : Nat) : Builtin.Range.rangeSize 0 k 1 = k := by
  unfold Builtin.Range.rangeSize
  rw [if_pos (by decide)]
  split
  · rw [Int.ediv_one]; omega
  · omega
theorem range_small {k : Nat} (h : k ≤ lim) : Builtin.Range.small 0 k 1 = true := by
  have hl : (k : Int) ≤ 1000000 := by unfold lim at h; omega
  have fit : ∀ i : Int, 0 ≤ i → i ≤ 1000001 → Builtin.Range.rangeFitsLong i = true := fun i h0 h1 => by
    unfold Builtin.Range.rangeFitsLong
    rw [Bool.and_eq_true]
    exact ⟨decide_eq_true (by omega), decide_eq_true (by omega)⟩
  unfold Builtin.Range.small
  rw [rangeSize_nat, fit 0 (by decide) (by decide), fit 1 (by decide) (by decide), fit k (by omega) (by omega), if_pos (by decide), fit (k + (1 - 1)) (by omega) (by omega)]
  simp

theorem Itr.walk (OK : C.Ok hb) {s : Shared} (H : Holds C σ s) {v : MV} {items : List MV} (it : Itr σ v items) {vv : Value} (hv : VR v vv) {Q : Value → Shared → Prop} {E : Value → Shared → Prop}
    (h : ∀ I fp wr P St s₂, Walked C σ items I fp wr P St s₂ → Q (.ref I) s₂) : wpAny (model C.prog C.w) C.A (pyIter vv) Q E s := by
  obtain ⟨a, rfl, it⟩ := it
  obtain rfl : vv = .ref a := hv
  obtain ⟨f1, f2, f3, f4⟩ := fresh_facts H
  have fn := fresh_none s.heap
  rcases it with hB | (hB | ⟨kvs, hB, rfl⟩) | ⟨k, hr, rfl⟩
  · obtain ⟨vs, nn, ho, hr, hlim⟩ := H.B a _ hB
    have hl : s.heap.IsList a vs := ⟨_, ho, rfl, nn, rfl⟩
    have hne : a ≠ s.heap.objs.size := fun e => by rw [e, fn] at ho; cases ho
    refine wpAny_pyIter_list hl (h s.heap.objs.size [s.heap.objs.size, a] [s.heap.objs.size] (fun i v => vs[i]? = some v) (fun i h => h.IsListIter s.heap.objs.size a i ∧ h.IsList a vs) _ ?_)
    have hsz : items.length = vs.size := by simpa using hr.length
    have W := Walks.list (prog := C.prog) (w := C.w) OK.handled s.heap.objs.size a hne vs
    rw [← hsz] at W
    refine { walks := W, st := ⟨⟨_, Heap.get?_push_size _ rfl, rfl, rfl⟩, hl.push _⟩, item := fun i u hu => ?_, holds := H.push _, apart := ?_, alive := ?_, noB := ?_, noK := ?_, noAl := ?_, stays := ?_ }
    · exact hr.getv (by rw [Array.getElem?_toList]; exact hu)
    · intro b hb'
      rcases List.mem_cons.mp hb' with rfl | hb'
      · exact f1
      · rcases List.mem_cons.mp hb' with rfl | hb'
        · exact fun hm => by rw [H.apartB _ hm] at hB; cases hB
        · cases hb'
    · intro b hb'
      rcases List.mem_cons.mp hb' with rfl | hb'
      · exact ⟨_, Heap.get?_push_size _ rfl⟩
      · rcases List.mem_cons.mp hb' with rfl | hb'
        · exact ⟨_, Heap.get?_push_of_some _ ho⟩
        · cases hb'
    · intro b hb'; rcases List.mem_cons.mp hb' with rfl | hb'
      · exact f2
      · cases hb'
    · intro b hb'; rcases List.mem_cons.mp hb' with rfl | hb'
      · exact f3
      · cases hb'
    · intro b hb'; rcases List.mem_cons.mp hb' with rfl | hb'
      · exact f4
      · cases hb'
    · intro i h' st b hb'; rcases List.mem_cons.mp hb' with rfl | hb'
      · obtain ⟨⟨o, ho', _⟩, _⟩ := st; exact ⟨o, ho'⟩
      · cases hb'
  · obtain ⟨vs, nn, ho, hr, hlim⟩ := H.B a _ hB
    have hl : s.heap.IsTuple a vs := ⟨_, ho, rfl, nn, rfl⟩
    have hne : a ≠ s.heap.objs.size := fun e => by rw [e, fn] at ho; cases ho
    refine wpAny_pyIter_tuple hl (h s.heap.objs.size [s.heap.objs.size, a] [s.heap.objs.size] (fun i v => vs[i]? = some v) (fun i h => h.IsTupleIter s.heap.objs.size a i ∧ h.IsTuple a vs) _ ?_)
    have hsz : items.length = vs.size := by simpa using hr.length
    have W := Walks.tuple (prog := C.prog) (w := C.w) OK.handled s.heap.objs.size a hne vs
    rw [← hsz] at W
    refine { walks := W, st := ⟨⟨_, Heap.get?_push_size _ rfl, rfl, rfl⟩, hl.push _⟩, item := fun i u hu => ?_, holds := H.push _, apart := ?_, alive := ?_, noB := ?_, noK := ?_, noAl := ?_, stays := ?_ }
    · exact hr.getv (by rw [Array.getElem?_toList]; exact hu)
    · intro b hb'
      rcases List.mem_cons.mp hb' with rfl | hb'
      · exact f1
      · rcases List.mem_cons.mp hb' with rfl | hb'
        · exact fun hm => by rw [H.apartB _ hm] at hB; cases hB
        · cases hb'
    · intro b hb'
      rcases List.mem_cons.mp hb' with rfl | hb'
      · exact ⟨_, Heap.get?_push_size _ rfl⟩
      · rcases List.mem_cons.mp hb' with rfl | hb'
        · exact ⟨_, Heap.get?_push_of_some _ ho⟩
        · cases hb'
    · intro b hb'; rcases List.mem_cons.mp hb' with rfl | hb'
      · exact f2
      · cases hb'
    · intro b hb'; rcases List.mem_cons.mp hb' with rfl | hb'
      · exact f3
      · cases hb'
    · intro b hb'; rcases List.mem_cons.mp hb' with rfl | hb'
      · exact f4
      · cases hb'
    · intro i h' st b hb'; rcases List.mem_cons.mp hb' with rfl | hb'
      · obtain ⟨⟨o, ho', _⟩, _⟩ := st; exact ⟨o, ho'⟩
      · cases hb'
  · obtain ⟨hms, vk, ⟨p0, w0, hdo⟩, hkv, hlim⟩ := H.B a _ hB
    obtain ⟨ep, hda⟩ := (dictOf_any (p' := C.prog) (w' := C.w) hdo).dictAt
    have ho : ∃ o, s.heap.get? a = some o := let ⟨o, _, h1, _⟩ := hda; ⟨o, h1⟩
    obtain ⟨ob, ho⟩ := ho
    have hne : a ≠ s.heap.objs.size := fun e => by rw [e, fn] at ho; cases ho
    refine wpAny_pyIter_dict hms hda (h s.heap.objs.size [s.heap.objs.size, a] [s.heap.objs.size] (fun i v => ∃ k x, vk[i]? = some (k, x) ∧ (optKind C.prog C.w).is k v = true) (fun i h => h.IsKeyIter s.heap.objs.size a i vk.length ep ∧ h.DictAt (optKind C.prog C.w) a vk ep) _ ?_)
    have hsz : (kvs.map (fun p => keyMV p.1)).length = vk.length := by have := congrArg List.length hkv.k; simpa using this
    have W := Walks.dictKeys (knd := optKind C.prog C.w) OK.handled s.heap.objs.size a hne vk ep
    rw [← hsz] at W
    refine { walks := by rw [← hsz]; exact W, st := ⟨⟨_, Heap.get?_push_size _ rfl, rfl, rfl⟩, hda.push _⟩, item := fun i u hu => ?_, holds := H.push _, apart := ?_, alive := ?_, noB := ?_, noK := ?_, noAl := ?_, stays := ?_ }
    · obtain ⟨k, x, hx, hk⟩ := hu
      have e1 : (kvs.map (·.1))[i]? = some k := by rw [hkv.k]; simp [hx]
      refine ⟨keyMV k, by rw [List.getElem?_map] at e1 ⊢; obtain ⟨p, hp, rfl⟩ := Option.map_eq_some_iff.mp e1; rw [hp]; rfl, ?_⟩
      cases k with
      | none => exact keyIs_none hk
      | some k => exact keyIs_some hk
    · intro b hb'
      rcases List.mem_cons.mp hb' with rfl | hb'
      · exact f1
      · rcases List.mem_cons.mp hb' with rfl | hb'
        · exact fun hm => by rw [H.apartB _ hm] at hB; cases hB
        · cases hb'
    · intro b hb'
      rcases List.mem_cons.mp hb' with rfl | hb'
      · exact ⟨_, Heap.get?_push_size _ rfl⟩
      · rcases List.mem_cons.mp hb' with rfl | hb'
        · exact ⟨_, Heap.get?_push_of_some _ ho⟩
        · cases hb'
    · intro b hb'; rcases List.mem_cons.mp hb' with rfl | hb'
      · exact f2
      · cases hb'
    · intro b hb'; rcases List.mem_cons.mp hb' with rfl | hb'
      · exact f3
      · cases hb'
    · intro b hb'; rcases List.mem_cons.mp hb' with rfl | hb'
      · exact f4
      · cases hb'
    · intro i h' st b hb'; rcases List.mem_cons.mp hb' with rfl | hb'
      · obtain ⟨⟨o, ho', _⟩, _⟩ := st; exact ⟨o, ho'⟩
      · cases hb'
  · obtain ⟨t, u, vv, ho, hlim⟩ := H.has hr
    refine wpAny_pyIter_range ho (range_small hlim) (h s.heap.objs.size [s.heap.objs.size] [s.heap.objs.size] (fun i v => i < k ∧ ∃ t, v = .int (0 + i * 1) t) (fun i h => IsRangeIter h s.heap.objs.size (0 + (i : Nat) * 1) ((k : Int) - (i : Nat)) 1) _ ?_)
    have W := Walks.range (prog := C.prog) (w := C.w) (A := C.A) OK.handled s.heap.objs.size 0 1 k
    refine { walks := ?_, st := ?_, item := fun i u hu => ?_, holds := H.push _, apart := ?_, alive := ?_, noB := ?_, noK := ?_, noAl := ?_, stays := ?_ }
    · rw [List.length_map, List.length_range]
      exact { sub := W.sub, frame := W.frame, done := W.done, self := W.self, item := fun i s Q E hi st hQ => W.item i s Q E hi st fun v h' tk hP hs hk => hQ v h' tk ⟨hi, hP⟩ hs hk }
    · rw [rangeSize_nat]; simp; exact Heap.get?_push_size _ rfl
    · obtain ⟨hi, t, rfl⟩ := hu
      refine ⟨.int i, ?_, t, by simp⟩
      simp [hi]
    · intro b hb'; rcases List.mem_cons.mp hb' with rfl | hb'
      · exact f1
      · cases hb'
    · intro b hb'; rcases List.mem_cons.mp hb' with rfl | hb'
      · exact ⟨_, Heap.get?_push_size _ rfl⟩
      · cases hb'
    · intro b hb'; rcases List.mem_cons.mp hb' with rfl | hb'
      · exact f2
      · cases hb'
    · intro b hb'; rcases List.mem_cons.mp hb' with rfl | hb'
      · exact f3
      · cases hb'
    · intro b hb'; rcases List.mem_cons.mp hb' with rfl | hb'
      · exact f4
      · cases hb'
    · intro i h' st b hb'; rcases List.mem_cons.mp hb' with rfl | hb'
      · exact ⟨_, st⟩
      · cases hb'

/-- the heap changes at hidden places alone -/
theorem Holds.hidden {s s' : Shared} {wr : List Addr} (OK : C.Ok hb) (H : Holds C σ s) (k : ∀ b o, b ∉ wr → s.heap.get? b = some o → s'.heap.get? b = some o) (hg : s'.gens = s.gens) (hos : s'.os = s.os)
    (a1 : ∀ a ∈ wr, a ∉ σ.own.map (·.1) ++ C.fr) (a2 : ∀ a ∈ wr, σ.B a = none) (a3 : ∀ a ∈ wr, ∀ o, ¬ C.kp a o) (a4 : ∀ a ∈ wr, ¬ C.al a) : Holds C σ s' := by
  have nfr : ∀ b ∈ C.fr, b ∉ wr := fun b hb' hm => a1 b hm (List.mem_append_right _ hb')
  have cne : ∀ x c, C.env.cells.lookup x = some c → c ∉ wr := fun x c hc => (OK.cellsIn x c hc).elim (nfr c) fun ⟨o, ho⟩ hm => a3 c hm o ho
  exact {
    kp := fun b o h => k b o (fun hm => a3 b hm o h) (H.kp b o h)
    names := fun x v hv => by
      rcases H.names x v hv with ⟨hk, m, u, ⟨o, es, ep, h1, h2⟩, hm, hv'⟩ | ⟨hk, c, u, hc, ⟨ob, h1, h2⟩, hv'⟩
      · exact .inl ⟨hk, m, u, ⟨o, es, ep, k _ _ (nfr _ OK.locals) h1, h2⟩, hm, hv'⟩
      · exact .inr ⟨hk, c, u, hc, ⟨ob, k _ _ (cne x c hc) h1, h2⟩, hv'⟩
    ns := let ⟨m, o, es, ep, h1, h2⟩ := H.ns; ⟨m, o, es, ep, k _ _ (nfr _ OK.locals) h1, h2⟩
    cells := fun x c hc => let ⟨u, ob, h1, h2⟩ := H.cells x c hc; ⟨u, ob, k _ _ (cne x c hc) h1, h2⟩
    alive := fun a ha => let ⟨o, ho⟩ := H.alive a ha; ⟨o, k _ _ (nfr a ha) ho⟩
    B := fun a o ha => (H.B a o ha).at fun ob hob => k _ _ (fun hm => by rw [a2 a hm] at ha; cases ha) hob
    own := fun p hp => (H.own p hp).at fun ob hob => k _ _ (fun hm => a1 _ hm (List.mem_append_left _ (List.mem_map.mpr ⟨p, hp, rfl⟩))) hob
    nodup := H.nodup, apartB := H.apartB, apartK := H.apartK, gens := hg.trans H.gens, os := hos.trans H.os
    al := fun a ha => let ⟨o, ho⟩ := H.al a ha; ⟨o, k _ _ (fun hm => a4 a hm ha) ho⟩
    B0 := H.B0, Bnew := H.Bnew, ownNew := H.ownNew, noB := H.noB }

theorem Stm_For {x : Str} {px pos : Pos} {iter : Expr} {body orelse : List Stmt} {Q : MF → St → Prop} (F : Fx C hb prog w sc n md fl) (hs : ∀ v, foldedSetIterable iter C.env v = pure v)
    (h : Ex C iter σ (fun v σ₁ => ∃ (items : List MV) (J : Nat → St → Prop), Itr σ₁ v items ∧ J 0 σ₁ ∧
      (∀ C', Fx C' hb prog w sc n md fl → ∀ i σ' m, J i σ' → items[i]? = some m → Store C' x m σ' (fun σ₂ => Sts C' body σ₂ (fun f σ₃ => match f with | .next => J (i + 1) σ₃ | .ret v => Q (.ret v) σ₃))) ∧
      (∀ C', Fx C' hb prog w sc n md fl → ∀ σ', J items.length σ' → Sts C' orelse σ' Q))) : Stm C (.For (.Name x px) iter body orelse pos) σ Q := fun s H => by
  refine wpAny_For (hs := hs) (wpAny_mono (h s H) (fun vv s₁ hpat => ?_) fun _ _ x => x)
  obtain ⟨v, σ₁, hv, H₁, items, J, it, J0, turn, fin⟩ := hpat
  refine it.walk F.ok H₁ hv fun I fp wr P St s₂ W => ?_
  have wsub := W.walks.sub
  refine codeAny_forLoop (fun k s => ∃ i σ', k = items.length + 1 - i ∧ i ≤ items.length ∧ J i σ' ∧ Holds C σ' s ∧ St i s.heap ∧ (∀ a ∈ fp, a ∉ σ'.own.map (·.1) ++ C.fr) ∧ (∀ a ∈ fp, ∃ o, s.heap.get? a = some o) ∧ (∀ a ∈ wr, σ'.B a = none))
    (fun k s hpat => ?_) (items.length + 1) ⟨0, σ₁, rfl, Nat.zero_le _, J0, W.holds, W.st, W.apart, W.alive, W.noB⟩
  obtain ⟨i, σ', hk, hi, hJ, H', hst, hap, hal, hnb⟩ := hpat
  have apw : ∀ a ∈ wr, a ∉ σ'.own.map (·.1) ++ C.fr := fun a ha => hap a (wsub a ha)
  by_cases hlt : i < items.length
  · refine W.walks.item i s _ _ hlt hst fun u h' tk hP hst' hk' => ?_
    obtain ⟨m, hm, hr⟩ := W.item i u hP
    have H₂ : Holds C σ' { s with heap := h', toks := tk } := H'.hidden F.ok hk' rfl rfl apw hnb W.noK W.noAl
    have hal' : ∀ a ∈ fp, ∃ o, h'.get? a = some o := fun a ha => by
      by_cases hw : a ∈ wr
      · exact W.stays _ _ hst' a hw
      · obtain ⟨o, ho⟩ := hal a ha; exact ⟨o, hk' a o hw ho⟩
    have H₃ := H₂.hide (X := fp) (wr := wr) hap hnb
    have F' : Fx (C.hide h' fp wr) hb prog w sc n md fl := F.hide (fun a ha hf => hap a ha (List.mem_append_right _ hf)) fun a ha => ⟨wsub a ha, hal' a (wsub a ha)⟩
    refine wpAny_assign_Name (wpAny_mono (turn _ F' i σ' m hJ hm u hr _ H₃) (fun _ s₃ hpat => ?_) fun _ _ x => x.elim)
    obtain ⟨_, σ₃, _, H₃', h₃⟩ := hpat
    refine wpAny_mono (h₃ s₃ H₃') (fun f s₄ hpat => ?_) fun _ _ x => x.elim
    obtain ⟨mf, σ₄, hf, H₄, h₄⟩ := hpat
    cases mf with
    | next =>
      obtain rfl : f = .next := hf
      have kept : ∀ a ∈ fp, ∀ o, h'.get? a = some o → s₄.heap.get? a = some o := fun a ha o ho => H₄.kp a o (.inr ⟨ha, ho⟩)
      refine ⟨items.length + 1 - (i + 1), by rw [hk]; exact Nat.sub_lt_sub_left (Nat.lt_succ_of_lt hlt) (Nat.lt_succ_self i), i + 1, σ₄, rfl, hlt, h₄, H₄.unhide, W.walks.frame _ _ _ hst' kept, fun a ha hm' => ?_, fun a ha => ?_, fun a ha => H₄.noB a (.inr ha)⟩
      · obtain ⟨o, ho⟩ := hal' a ha; exact H₄.apartK a hm' o (.inr ⟨ha, ho⟩)
      · obtain ⟨o, ho⟩ := hal' a ha; exact ⟨o, kept a ha o ho⟩
    | ret v =>
      obtain ⟨vv, rfl, hv'⟩ := hf
      exact ⟨.ret v, σ₄, ⟨vv, rfl, hv'⟩, H₄.unhide, h₄⟩
  · have hin : i = items.length := Nat.le_antisymm hi (Nat.not_lt.mp hlt)
    subst hin
    refine W.walks.done s _ _ hst fun h' tk hk' => ?_
    have H₂ : Holds C σ' { s with heap := h', toks := tk } := H'.hidden F.ok hk' rfl rfl apw hnb W.noK W.noAl
    exact wpAny_mono (fin C F σ' hJ _ H₂) (fun f s₃ ⟨mf, σ₃, hf, H₃, h₃⟩ => ⟨mf, σ₃, hf, H₃, h₃⟩) fun _ _ x => x.elim
end
end Mine
set_option autoImplicit false
set_option linter.unusedVariables false
set_option linter.unusedSimpArgs false
namespace Mine
open PySem

def relab (cs sc : Scope) : Scope :=
  { cs with names := cs.names.map fun (n, k) => if (k == .free && sc.kind == .function && sc.names.lookup n == some .cell) then (n, .cell) else (n, k) }
theorem relabel_eq {cs : Scope} {env : Env} {sc : Scope} (h : env.scope = sc) : relabel cs env = relab cs sc := by subst h; rfl

def cloOf (cells : List (Str × Addr)) : List (Str × NameKind) → List (Str × Addr) → List (Str × Addr)
  | [], acc => acc
  | (n, k) :: r, acc => if k == .free then (match cells.lookup n with | some c => cloOf cells r ((n, c) :: acc) | none => cloOf cells r acc) else cloOf cells r acc

theorem closure_go (env : Env) : ∀ (names : List (Str × NameKind)) (acc : List (Str × Addr)), (∀ x, (x, NameKind.free) ∈ names → ∃ c, env.cells.lookup x = some c) →
    (forIn names acc fun (p : Str × NameKind) (cs : List (Str × Addr)) => (if (p.2 == NameKind.free) = true then do let a ← cellOf env p.1; pure (ForInStep.yield ((p.1, a) :: cs)) else pure (ForInStep.yield cs) : Sem _)) = pure (cloOf env.cells names acc)
  | [], acc, _ => by rw [List.forIn_nil]; rfl
  | (n, k) :: r, acc, h => by
    rw [List.forIn_cons]
    unfold cloOf
    by_cases hk : (k == NameKind.free) = true
    · have hk' : k = .free := by simpa using hk
      obtain ⟨c, hc⟩ := h n (by rw [hk']; exact .head _)
      simp only [hk, if_true, hc, cellOf, pure_bind]
      exact closure_go env r _ fun x hx => h x (.tail _ hx)
    · simp only [hk, if_false, pure_bind]
      exact closure_go env r _ fun x hx => h x (.tail _ hx)
theorem closureFor_clo {scope : Scope} {env : Env} (h : ∀ x, (x, NameKind.free) ∈ scope.names → ∃ c, env.cells.lookup x = some c) : closureFor scope env = pure (cloOf env.cells scope.names []) := by
  have := closure_go env scope.names [] h
  unfold closureFor
  exact (bind_pure _).trans this

theorem cloOf_lookup (cells : List (Str × Addr)) {x : Str} {c : Addr} : ∀ (names : List (Str × NameKind)) (acc : List (Str × Addr)), (cloOf cells names acc).lookup x = some c → acc.lookup x = some c ∨ (cells.lookup x = some c ∧ (x, NameKind.free) ∈ names)
  | [], acc, h => .inl h
  | (n, k) :: r, acc, h => by
    unfold cloOf at h
    by_cases hk : (k == NameKind.free) = true
    · have hk' : k = .free := by simpa using hk
      rw [if_pos hk] at h
      cases hc : cells.lookup n with
      | none =>
        rw [hc] at h
        rcases cloOf_lookup cells r acc h with h1 | ⟨h1, h2⟩
        · exact .inl h1
        · exact .inr ⟨h1, .tail _ h2⟩
      | some d =>
        rw [hc] at h
        rcases cloOf_lookup cells r _ h with h1 | ⟨h1, h2⟩
        · by_cases hx : (x == n) = true
          · rw [List.lookup_cons, hx] at h1
            have hx' : x = n := by simpa using hx
            subst hx'
            exact .inr ⟨hc.trans h1, by rw [hk']; exact .head _⟩
          · have hx' : (x == n) = false := by simpa using hx
            rw [List.lookup_cons, hx'] at h1
            exact .inl h1
        · exact .inr ⟨h1, .tail _ h2⟩
    · rw [if_neg hk] at h
      rcases cloOf_lookup cells r acc h with h1 | ⟨h1, h2⟩
      · exact .inl h1
      · exact .inr ⟨h1, .tail _ h2⟩
theorem cloOf_hit (cells : List (Str × Addr)) {x : Str} : ∀ (names : List (Str × NameKind)) (acc : List (Str × Addr)), ((x, NameKind.free) ∈ names ∧ (∃ c, cells.lookup x = some c)) ∨ (∃ c, acc.lookup x = some c) → ∃ c, (cloOf cells names acc).lookup x = some c
  | [], acc, h => h.elim (fun h => nomatch h.1) id
  | (n, k) :: r, acc, h => by
    unfold cloOf
    have keep : ∀ d, (∃ c, acc.lookup x = some c) → ∃ c, ((n, d) :: acc).lookup x = some c := fun d ⟨c, hc⟩ => by
      by_cases hx : (x == n) = true
      · exact ⟨d, by rw [List.lookup_cons, hx]⟩
      · have hx' : (x == n) = false := by simpa using hx
        exact ⟨c, by rw [List.lookup_cons, hx']; exact hc⟩
    split
    · rename_i hk
      have hk' : k = .free := by simpa using hk
      cases hc : cells.lookup n with
      | none =>
        refine cloOf_hit cells r acc (h.imp (fun ⟨h1, c, h2⟩ => ⟨?_, c, h2⟩) id)
        rcases List.mem_cons.mp h1 with e | e
        · cases e; rw [hc] at h2; cases h2
        · exact e
      | some d =>
        refine cloOf_hit cells r _ ?_
        rcases h with ⟨h1, c, h2⟩ | h
        · rcases List.mem_cons.mp h1 with e | e
          · cases e; exact .inr ⟨d, by simp [List.lookup]⟩
          · exact .inl ⟨e, c, h2⟩
        · exact .inr (keep d h)
    · rename_i hk
      refine cloOf_hit cells r acc (h.imp (fun ⟨h1, c, h2⟩ => ⟨?_, c, h2⟩) id)
      rcases List.mem_cons.mp h1 with e | e
      · cases e; exact absurd rfl hk
      · exact e
end Mine
set_option autoImplicit false
set_option linter.unusedVariables false
set_option linter.unusedSimpArgs false
namespace Mine
open PySem

structure CompOk (cs sc : Scope) (x : Str) : Prop where
  kind : cs.kind = .function
  nd : (cs.names.map (·.1)).Nodup
  noCell : ∀ y ∈ cs.names, y.2 ≠ .cell
  cap : ∀ y ∈ cs.names, y.2 = .free → sc.names.lookup y.1 = some .cell ∨ sc.names.lookup y.1 = some .free
  x : cs.names.lookup x = some .local

def capt (cs : Scope) : Loc → Loc
  | [] => []
  | (y, v) :: r => if cs.names.lookup y = some .free then (y, v) :: capt cs r else capt cs r
theorem look_capt {cs : Scope} {y : Str} {v : MV} : ∀ {l : Loc}, look (capt cs l) y = some v → look l y = some v ∧ cs.names.lookup y = some .free
  | [], h => by simp [capt, look] at h
  | (z, u) :: r, h => by
    unfold capt at h
    by_cases hz : cs.names.lookup z = some .free
    · rw [if_pos hz] at h
      unfold look at h ⊢
      by_cases hy : y = z
      · subst hy; rw [if_pos rfl] at h ⊢; exact ⟨h, hz⟩
      · rw [if_neg hy] at h ⊢; exact look_capt h
    · rw [if_neg hz] at h
      have ih := look_capt h
      unfold look
      by_cases hy : y = z
      · subst hy; exact absurd ih.2 hz
      · rw [if_neg hy]; exact ih

theorem lookup_mem {α : Type} : ∀ {l : List (Str × α)} {n : Str} {k : α}, l.lookup n = some k → (n, k) ∈ l
  | (m, v) :: r, n, k, h => by
    rw [List.lookup_cons] at h
    cases hb : n == m with
    | true => rw [hb] at h; cases h; rw [beq_iff_eq.mp hb]; exact .head _
    | false => rw [hb] at h; exact .tail _ (lookup_mem h)
theorem mem_lookup {α : Type} : ∀ {l : List (Str × α)} {n : Str} {k : α}, (l.map (·.1)).Nodup → (n, k) ∈ l → l.lookup n = some k
  | (m, v) :: r, n, k, nd, h => by
    have nd' := List.nodup_cons.mp nd
    rw [List.lookup_cons]
    rcases List.mem_cons.mp h with e | e
    · cases e; simp
    · have : (n == m) = false := by
        cases hb : n == m with
        | false => rfl
        | true => exact absurd (List.mem_map.mpr ⟨(n, k), e, beq_iff_eq.mp hb⟩) nd'.1
      rw [this]; exact mem_lookup nd'.2 e
theorem lookup_relab {cs sc : Scope} {y : Str} : (relab cs sc).names.lookup y = (cs.names.lookup y).map fun k => if (k == .free && sc.kind == .function && sc.names.lookup y == some .cell) then .cell else k := by
  unfold relab
  generalize cs.names = l
  induction l with
  | nil => rfl
  | cons p r ih =>
    obtain ⟨n, k⟩ := p
    rw [List.map_cons]
    dsimp only
    by_cases hy : (y == n) = true
    · have e : y = n := by simpa using hy
      subst e
      split
      · rename_i h; rw [List.lookup_cons, List.lookup_cons, hy]; simp only [Option.map_some]; rw [if_pos h]
      · rename_i h; rw [List.lookup_cons, List.lookup_cons, hy]; simp only [Option.map_some]; rw [if_neg h]
    · have hy' : (y == n) = false := by simpa using hy
      split
      · rw [List.lookup_cons, hy', List.lookup_cons, hy']; exact ih
      · rw [List.lookup_cons, hy', List.lookup_cons, hy']; exact ih

def Cx.comp (C : Cx) (cenv : Env) (h : Heap) (X Y : List Addr) : Cx := { C with env := cenv, fr := [cenv.locals], kp := fun b o => C.kp b o ∨ (b ∈ X ∧ h.get? b = some o), no := fun a => C.no a ∨ a ∈ Y }

section
variable {C : Cx} {hb : Heap} {prog : Program} {w : World} {sc cs : Scope} {n : Nat} {md : List Addr} {fl : Bool} {x : Str} {σ : St}

theorem Fx.clo (F : Fx C hb prog w sc n md fl) (K : CompOk cs sc x) : closureFor cs C.env = pure (cloOf C.env.cells cs.names []) :=
  closureFor_clo fun y hy => F.cell y (K.cap _ hy rfl)
theorem clo_outer {cells : List (Str × Addr)} {names : List (Str × NameKind)} {y : Str} {c : Addr} (h : (cloOf cells names []).lookup y = some c) : cells.lookup y = some c := by
  rcases cloOf_lookup cells names [] h with h | h
  · cases h
  · exact h.1

theorem Fx.comp (F : Fx C hb prog w sc n md fl) (K : CompOk cs sc x) {s : Shared} (H : Holds C σ s) {L : Addr} {X Y : List Addr} (hfr : ∀ a ∈ C.fr, a ∈ X) (hLX : L ∉ X) (hLk : ∀ o, ¬ C.kp L o) (hLc : L ∉ C.fr)
    (hY : ∀ a ∈ Y, a ∈ X ∧ ∃ o, s.heap.get? a = some o) : Fx (C.comp (compEnvC cs (cloOf C.env.cells cs.names []) L C.env) s.heap X Y) hb prog w (relab cs sc) n md false where
  ok := {
    handled := F.ok.handled
    depth := F.ok.depth
    units := F.ok.units
    kind := K.kind
    globals := F.ok.globals
    builtins := F.ok.builtins
    locals := .head _
    cellsIn := fun y c hc => by
      have h1 := clo_outer hc
      rcases F.ok.cellsIn y c h1 with h | ⟨o, h⟩
      · obtain ⟨o, ho⟩ := H.alive c h; exact .inr ⟨o, .inr ⟨hfr c h, ho⟩⟩
      · exact .inr ⟨o, .inl h⟩
    cellsNe := fun y c hc e => by
      have e : c = L := e
      subst e
      rcases F.ok.cellsIn y c (clo_outer hc) with h | ⟨o, h⟩
      · exact hLc h
      · exact hLk o h
    cellsInj := fun y z c h1 h2 => F.ok.cellsInj y z c (clo_outer h1) (clo_outer h2)
    apart := fun a ha o hk => by
      have e : a = L := by simpa [Cx.comp, compEnvC] using ha
      subst e
      rcases hk with hk | hk
      · exact hLk o hk
      · exact hLX hk.1
    base := fun b o h => .inl (F.ok.base b o h)
    modAl := F.ok.modAl
    noKp := fun a ha => ha.elim (fun h => let ⟨o, ho⟩ := F.ok.noKp a h; ⟨o, .inl ho⟩) fun h => let ⟨h1, o, ho⟩ := hY a h; ⟨o, .inr ⟨h1, ho⟩⟩ }
  eprog := F.eprog
  ew := F.ew
  esc := relabel_eq F.esc
  eroom := F.eroom
  emod := F.emod
  cell := fun y hy => by
    have hfree : (y, NameKind.free) ∈ cs.names := by
      rw [lookup_relab] at hy
      cases hk : cs.names.lookup y with
      | none => rw [hk] at hy; simp at hy
      | some k =>
        have hm := lookup_mem hk
        have : k = .free := by
          rw [hk] at hy
          simp only [Option.map_some, Option.some.injEq] at hy
          by_cases hkf : k = .free
          · exact hkf
          · rw [if_neg (by simp [hkf])] at hy
            rcases hy with e | e
            · exact absurd e (K.noCell _ hm)
            · exact e
        rw [← this]; exact hm
    exact cloOf_hit C.env.cells cs.names [] (.inl ⟨hfree, F.cell y (K.cap _ hfree rfl)⟩)
  full := fun h => by cases h

theorem Holds.toComp (F : Fx C hb prog w sc n md fl) (K : CompOk cs sc x) {s : Shared} {D : Addr} {o : MO} (H : Holds C { σ with own := (D, o) :: σ.own } s) {L : Addr} {fp wr : List Addr} {mm : Str → Option Value} {m : MV} {u : Value}
    (hns : s.heap.Ns L mm) (hmx : mm x = some u) (hr : VR m u) (hfp : ∀ a ∈ fp, a ∉ D :: σ.own.map (·.1) ++ C.fr) (hwr : ∀ a ∈ wr, σ.B a = none)
    (hLo : L ∉ D :: σ.own.map (·.1) ++ C.fr) (hLf : L ∉ fp) (hLB : σ.B L = none) (hLk : ∀ o, ¬ C.kp L o) :
    Holds (C.comp (compEnvC cs (cloOf C.env.cells cs.names []) L C.env) s.heap (D :: fp ++ C.fr) (D :: wr ++ C.fr)) ⟨put (capt cs σ.loc) x m, σ.B, σ.own⟩ s := by
  have nd : (D :: (σ.own.map (·.1) ++ C.fr)).Nodup := H.nodup
  have nd1 := List.nodup_cons.mp nd
  have nd2 := List.nodup_append.mp nd1.2
  have hx : (relab cs sc).names.lookup x = some .local := by rw [lookup_relab, K.x]; rfl
  have kx : (compEnvC cs (cloOf C.env.cells cs.names []) L C.env).kindOf x = some .local := by
    show (relabel cs C.env).names.lookup x = _
    rw [relabel_eq F.esc]; exact hx
  exact {
    kp := fun b o' h => h.elim (H.kp b o') fun h => h.2
    names := fun y v hy => by
      rw [look_put] at hy
      by_cases hxy : y = x
      · subst hxy; rw [if_pos rfl] at hy; cases hy
        exact .inl ⟨kx, mm, u, hns, hmx, hr⟩
      · rw [if_neg hxy] at hy
        obtain ⟨h1, h2⟩ := look_capt hy
        have hm := lookup_mem h2
        have hcap := K.cap _ hm rfl
        have outer : ∃ c u', C.env.cells.lookup y = some c ∧ s.heap.IsCell c (some u') ∧ VR v u' := by
          rcases H.names y v h1 with ⟨hk, _⟩ | ⟨hk, r⟩
          · exfalso
            have hk' : sc.names.lookup y = some .local := by rw [← F.esc]; exact hk
            rw [hk'] at hcap; simp at hcap
          · exact r
        obtain ⟨c, u', hc, hu, hv⟩ := outer
        obtain ⟨c', hc'⟩ := cloOf_hit C.env.cells cs.names [] (.inl ⟨hm, c, hc⟩)
        have : c' = c := by have := clo_outer hc'; rw [hc] at this; exact (Option.some.inj this).symm
        subst this
        refine .inr ⟨?_, c', u', hc', hu, hv⟩
        show (relabel cs C.env).names.lookup y = _ ∨ (relabel cs C.env).names.lookup y = _
        rw [relabel_eq F.esc, lookup_relab, h2]
        simp only [Option.map_some, Option.some.injEq]
        split
        · exact .inl rfl
        · exact .inr rfl
    ns := ⟨mm, hns⟩
    cells := fun y c hc => H.cells y c (clo_outer hc)
    alive := fun a ha => by
      have e : a = L := by simpa [Cx.comp, compEnvC] using ha
      subst e; obtain ⟨ob, es, ep, ho, _⟩ := hns; exact ⟨ob, ho⟩
    B := H.B
    own := fun p hp => H.own p (.tail _ hp)
    nodup := List.nodup_append.mpr ⟨nd2.1, List.nodup_cons.mpr ⟨(by simp), List.nodup_nil⟩, fun a ha b hb' e => by
      have e' : b = L := by simpa [Cx.comp, compEnvC] using hb'
      subst e e'
      exact hLo (.tail _ (List.mem_append_left _ ha))⟩
    apartB := fun a ha => by
      rcases List.mem_append.mp ha with h | h
      · exact H.apartB a (.tail _ (List.mem_append_left _ h))
      · have e' : a = L := by simpa [Cx.comp, compEnvC] using h
        subst e'; exact hLB
    apartK := fun a ha o' hk => by
      rcases List.mem_append.mp ha with h | h
      · rcases hk with hk | ⟨hk, _⟩
        · exact H.apartK a (.tail _ (List.mem_append_left _ h)) o' hk
        · rcases List.mem_append.mp hk with hk | hk
          · rcases List.mem_cons.mp hk with rfl | hk
            · exact nd1.1 (List.mem_append_left _ h)
            · exact hfp a hk (.tail _ (List.mem_append_left _ h))
          · exact nd2.2.2 a h a hk rfl
      · have e' : a = L := by simpa [Cx.comp, compEnvC] using h
        subst e'
        rcases hk with hk | ⟨hk, _⟩
        · exact hLk o' hk
        · rcases List.mem_append.mp hk with hk | hk
          · rcases List.mem_cons.mp hk with rfl | hk
            · exact hLo (.head _)
            · exact hLf hk
          · exact hLo (.tail _ (List.mem_append_right _ hk))
    gens := H.gens
    os := H.os
    al := H.al
    B0 := H.B0
    Bnew := H.Bnew
    ownNew := fun p hp => H.ownNew p (.tail _ hp)
    noB := fun a ha => by
      rcases ha with ha | ha
      · exact H.noB a ha
      · rcases List.mem_append.mp ha with ha | ha
        · rcases List.mem_cons.mp ha with rfl | ha
          · exact H.apartB _ (.head _)
          · exact hwr a ha
        · exact H.apartB a (.tail _ (List.mem_append_right _ ha)) }

theorem Holds.fromComp {s s' : Shared} {D : Addr} {o : MO} (OK : C.Ok hb) (H : Holds C { σ with own := (D, o) :: σ.own } s) {L : Addr} {cenv : Env} {fp wr : List Addr} {σ' : St}
    (H' : Holds (C.comp cenv s.heap (D :: fp ++ C.fr) (D :: wr ++ C.fr)) σ' s') : Holds C ⟨σ.loc, σ'.B, (D, o) :: σ'.own⟩ s' := by
  have nd : (D :: (σ.own.map (·.1) ++ C.fr)).Nodup := H.nodup
  have nd1 := List.nodup_cons.mp nd
  have DX : D ∈ D :: fp ++ C.fr := .head _
  have fX : ∀ a ∈ C.fr, a ∈ D :: fp ++ C.fr := fun a ha => List.mem_append_right _ ha
  have kX : ∀ a ob, a ∈ D :: fp ++ C.fr → s.heap.get? a = some ob → s'.heap.get? a = some ob := fun a ob ha ho => H'.kp a ob (.inr ⟨ha, ho⟩)
  have hD := H.own (D, o) (.head _)
  obtain ⟨oD, hoD⟩ := hD.alive
  have oK : ∀ a ∈ σ'.own.map (·.1), ∀ ob, ¬ (C.kp a ob ∨ (a ∈ D :: fp ++ C.fr ∧ s.heap.get? a = some ob)) := fun a ha ob => H'.apartK a (List.mem_append_left _ ha) ob
  have cellsK : ∀ y c, C.env.cells.lookup y = some c → ∀ ob, s.heap.get? c = some ob → s'.heap.get? c = some ob := fun y c hc ob ho => by
    rcases OK.cellsIn y c hc with h | ⟨ob', h⟩
    · exact kX c ob (fX c h) ho
    · have e1 := H.kp c ob' h
      rw [ho] at e1; cases e1
      exact H'.kp c ob (.inl h)
  exact {
    kp := fun b ob h => H'.kp b ob (.inl h)
    names := fun y v hv => by
      rcases H.names y v hv with ⟨hk, m, u, ⟨ob, es, ep, h1, h2⟩, hm, hv'⟩ | ⟨hk, c, u, hc, ⟨ob, h1, h2⟩, hv'⟩
      · exact .inl ⟨hk, m, u, ⟨ob, es, ep, kX _ _ (fX _ OK.locals) h1, h2⟩, hm, hv'⟩
      · exact .inr ⟨hk, c, u, hc, ⟨ob, cellsK y c hc ob h1, h2⟩, hv'⟩
    ns := let ⟨m, ob, es, ep, h1, h2⟩ := H.ns; ⟨m, ob, es, ep, kX _ _ (fX _ OK.locals) h1, h2⟩
    cells := fun y c hc => let ⟨u, ob, h1, h2⟩ := H.cells y c hc; ⟨u, ob, cellsK y c hc ob h1, h2⟩
    alive := fun a ha => let ⟨ob, ho⟩ := H.alive a ha; ⟨ob, kX a ob (fX a ha) ho⟩
    B := H'.B
    own := fun p hp => by
      rcases List.mem_cons.mp hp with rfl | hp
      · exact hD.at fun ob ho => kX D ob DX ho
      · exact H'.own p hp
    nodup := by
      show (D :: (σ'.own.map (·.1) ++ C.fr)).Nodup
      refine List.nodup_cons.mpr ⟨fun hm => ?_, List.nodup_append.mpr ⟨(List.nodup_append.mp H'.nodup).1, (List.nodup_append.mp nd1.2).2.1, fun a ha b hb' e => ?_⟩⟩
      · rcases List.mem_append.mp hm with hm | hm
        · exact oK D hm oD (.inr ⟨DX, hoD⟩)
        · exact nd1.1 (List.mem_append_right _ hm)
      · subst e
        obtain ⟨ob, ho⟩ := H.alive a hb'
        exact oK a ha ob (.inr ⟨fX a hb', ho⟩)
    apartB := fun a ha => by
      have ha' : a ∈ D :: (σ'.own.map (·.1) ++ C.fr) := ha
      rcases List.mem_cons.mp ha' with rfl | ha'
      · exact H'.noB _ (.inr (.head _))
      · rcases List.mem_append.mp ha' with h | h
        · exact H'.apartB a (List.mem_append_left _ h)
        · exact H'.noB a (.inr (List.mem_append_right _ h))
    apartK := fun a ha ob hk => by
      have ha' : a ∈ D :: (σ'.own.map (·.1) ++ C.fr) := ha
      rcases List.mem_cons.mp ha' with rfl | ha'
      · exact H.apartK _ (.head _) ob hk
      · rcases List.mem_append.mp ha' with h | h
        · exact oK a h ob (.inl hk)
        · exact OK.apart a h ob hk
    gens := H'.gens
    os := H'.os
    al := H'.al
    B0 := H'.B0
    Bnew := H'.Bnew
    ownNew := fun p hp => by
      rcases List.mem_cons.mp hp with rfl | hp
      · exact H.ownNew (D, o) (.head _)
      · exact H'.ownNew p hp
    noB := fun a ha => H'.noB a (.inl ha) }
end
end Mine
set_option autoImplicit false
set_option linter.unusedVariables false
set_option linter.unusedSimpArgs false
namespace Mine
open PySem

section
variable {C : Cx} {hb : Heap} {prog : Program} {w : World} {sc cs : Scope} {n : Nat} {md : List Addr} {fl : Bool} {x : Str} {σ : St}

/-- the tests of a comprehension's clause -/
def CTs (C : Cx) : List Expr → St → (Bool → St → Prop) → Prop
  | [], σ, Q => Q true σ
  | c :: r, σ, Q => Ts C c σ (fun b σ' => if b then CTs C r σ' Q else Q false σ')

theorem CTs_false {M : Model} {A : Around} {E : Value → Shared → Prop} {env : Env} {s : Shared} {Q : Bool → Shared → Prop} : ∀ (ifs : List Expr), Q false s →
    wpAny M A (forIn ifs false fun c r => if r = true then do let ok ← isTrue c env (eval c env); pure (ForInStep.yield ok) else pure (ForInStep.yield r)) Q E s
  | [], h => by rw [List.forIn_nil]; exact wpAny_pure h
  | c :: r, h => by
    rw [List.forIn_cons]
    simp only [Bool.false_eq_true, if_false, pure_bind]
    exact CTs_false r h
theorem CTs_run : ∀ (ifs : List Expr) {σ : St} {Q : Bool → St → Prop}, CTs C ifs σ Q →
    Tr C (forIn ifs true fun c r => if r = true then do let ok ← isTrue c C.env (eval c C.env); pure (ForInStep.yield ok) else pure (ForInStep.yield r)) (fun b a => b = a) σ Q
  | [], σ, Q, h => by rw [List.forIn_nil]; exact Tr.pure (b := true) rfl h
  | c :: r, σ, Q, h => fun s H => by
    rw [List.forIn_cons]
    simp only [if_true, bind_assoc, pure_bind]
    refine wpAny_bind (wpAny_mono (h s H) (fun b s' hpat => ?_) fun _ _ x => x)
    obtain ⟨b', σ', e, H', h'⟩ := hpat
    subst e
    cases b' with
    | true => exact CTs_run r h' s' H'
    | false => exact CTs_false r ⟨false, σ', rfl, H', h'⟩

theorem wpAny_list_append_OR {prog : Program} {w : World} {A : Around} {E : Value → Shared → Prop} {s : Shared} {l : Addr} {xs : List MV} {m : MV} {v : Value} {Q : Value → Shared → Prop} (hl : OR s.heap l (.list xs)) (hv : VR m v) (hlim : xs.length + 1 ≤ lim)
    (hQ : ∀ h', OR h' l (.list (xs ++ [m])) → (∀ b o, b ≠ l → s.heap.get? b = some o → h'.get? b = some o) → Q .none { s with heap := h' }) : wpAny (model prog w) A (call (.builtin "list.append") [.ref l, v]) Q E s := by
  obtain ⟨vs, nn, ho, hr, hle⟩ := hl
  refine wpAny_list_append_plain (items := vs) ⟨nn, ho⟩ (fun h' hl' hs' => hQ h' ?_ hs'.extBut) (hsz := ?_)
  · obtain ⟨n', ho'⟩ := hl'
    exact ⟨_, n', ho', by simpa using hr.snoc hv, by simpa using hlim⟩
  · have := hr.length; have := lim_le; simp at *; omega

theorem ne_of_lt_size {h : Heap} {b L : Addr} {o : Obj} (e : h.get? b = some o) (hL : h.objs.size = L) : b ≠ L := fun e' => by subst e'; subst hL; exact absurd (Heap.lt_size e) (Nat.lt_irrefl _)
theorem sing {P : Addr → Prop} {L : Addr} (h : P L) : ∀ a ∈ [L], P a := fun a ha => by rw [List.mem_singleton.mp ha]; exact h

theorem comp_core {elt iter : Expr} {px pos : Pos} {ifs : List Expr} (F : Fx C hb prog w sc n md fl) (K : CompOk cs sc x) {s : Shared} (H : Holds C σ s) {v : MV} {items : List MV} (it : Itr σ v items) {vv : Value} (hv : VR v vv) (hlen : items.length ≤ lim)
    (J : Nat → List MV → St → Prop) (J0 : J 0 [] σ)
    (turn : ∀ C', Fx C' hb prog w (relab cs sc) n md false → ∀ i ys σ' m, J i ys σ' → items[i]? = some m →
      CTs C' ifs { σ' with loc := put (capt cs σ'.loc) x m } (fun ok σ₁ => if ok then Ex C' elt σ₁ (fun y σ₂ => J (i + 1) (ys ++ [y]) { σ₂ with loc := σ'.loc }) else J (i + 1) ys { σ₁ with loc := σ'.loc }))
    {RR : Value → Addr → Result → Shared → Prop} {E : Value → Shared → Prop}
    (fin : ∀ D L ys σ' s', J items.length ys σ' → Holds C { σ' with own := (D, .list ys) :: σ'.own } s' → Fsh C.mod σ' D → (∃ m, s'.heap.Ns L m) → L ∉ D :: σ'.own.map (·.1) ++ C.fr → σ'.B L = none → (∀ o, ¬ C.kp L o) → ¬ C.al L → RR (.ref D) L (.ok .next) s') :
    wpAny (model C.prog C.w) C.A (pyIter vv) (fun itv s₂ => wpAny (model C.prog C.w) C.A (newList []) (fun acc s₃ =>
      wpAny (model C.prog C.w) C.A (newFunctionEnv cs C.env.globals (cloOf C.env.cells cs.names []) [] C.env.qual none .none (some C.env)) (fun cenv s₄ =>
        codeAny (model C.prog C.w) C.A (.compStart (.ListComp elt [⟨.Name x px, iter, ifs, 0⟩] cs pos) 0 itv acc { cenv with scope := relabel cs C.env }) (RR acc cenv.locals) s₄) E s₃) E s₂) E s := by
  refine it.walk F.ok H hv fun I fp wr P St s₂ W => ?_
  have wsub := W.walks.sub
  refine wpAny_newObj_type (wpAny_newFunctionEnv K.noCell (by intro y hy; simp at hy) (fun h₁ hns₁ hsb₁ => ?_) K.kind)
  -- the list D, the namespace L
  have HD := W.holds.new (o := { cls := .type "list", data := .seq ([] : List Value).toArray }) (mo := .list []) ⟨_, _, Heap.get?_push_size _ rfl, .nil, Nat.zero_le _⟩
  have hDm : s₂.heap.objs.size ∉ C.mod := W.holds.freshMod F.ok
  generalize hD : s₂.heap.objs.size = D at HD hDm hns₁ hsb₁ ⊢
  generalize hH2 : s₂.heap.push { cls := .type "list", data := .seq ([] : List Value).toArray } = H2 at HD hns₁ hsb₁ ⊢
  obtain ⟨g1, g2, g3, g4⟩ := fresh_facts HD
  dsimp only at g1 g2 g3 g4 hns₁ hsb₁
  generalize hL : H2.objs.size = L at g1 g2 g3 g4 hns₁ hsb₁ ⊢
  have keep1 : ∀ b o, H2.get? b = some o → h₁.get? b = some o := fun b o e => hsb₁.extBut b o (ne_of_lt_size e hL) (Heap.get?_push_of_some _ e)
  have keep2 : ∀ b o, s₂.heap.get? b = some o → H2.get? b = some o := fun b o e => hH2 ▸ Heap.get?_push_of_some _ e
  have Hs : Holds C { σ with own := (D, .list []) :: σ.own } { s₂ with heap := h₁, toks := s₂.toks + 0 } := HD.ext keep1 rfl rfl
  have hfpD : ∀ a ∈ fp, a ≠ D ∧ a ≠ L := fun a ha => by
    obtain ⟨o, ho⟩ := W.alive a ha
    exact ⟨ne_of_lt_size ho hD, ne_of_lt_size (keep2 a o ho) hL⟩
  have loop : ∀ s₅ : Shared, s₅ = { s₂ with heap := h₁, toks := s₂.toks + 0 } →
      codeAny (model C.prog C.w) C.A (.compLoop (.ListComp elt [⟨.Name x px, iter, ifs, 0⟩] cs pos) 0 (.ref I) (.ref D) (compEnvC cs (cloOf C.env.cells cs.names []) L C.env)) (RR (.ref D) L) s₅ := by
    rintro s₅ rfl
    refine codeAny_compLoop_tests (fun k s => ∃ i ys σ', k = items.length + 1 - i ∧ i ≤ items.length ∧ J i ys σ' ∧ ys.length ≤ i ∧ Holds C { σ' with own := (D, .list ys) :: σ'.own } s ∧ St i s.heap ∧ (∃ m, s.heap.Ns L m) ∧
        (∀ a ∈ fp, a ∉ D :: σ'.own.map (·.1) ++ C.fr) ∧ (∀ a ∈ fp, ∃ o, s.heap.get? a = some o) ∧ (∀ a ∈ wr, σ'.B a = none) ∧ L ∉ D :: σ'.own.map (·.1) ++ C.fr ∧ σ'.B L = none) ?_ (items.length + 1)
      ⟨0, [], σ, rfl, Nat.zero_le _, J0, Nat.zero_le _, Hs, W.walks.frame _ _ _ W.st fun b _ o e => keep1 b o (keep2 b o e), ⟨_, hns₁⟩, fun a ha hm => ?_, fun a ha => let ⟨o, ho⟩ := W.alive a ha; ⟨o, keep1 _ _ (keep2 _ _ ho)⟩, W.noB, g1, g2⟩
    · rintro k s' ⟨i, ys, σ', hk, hi, hJ, hyl, H', hst, ⟨mL, hnsL⟩, hap, hal, hnb, hLo, hLB⟩
      have hap' : ∀ a ∈ wr, a ∉ (({ σ' with own := (D, .list ys) :: σ'.own } : Mine.St).own.map (·.1)) ++ C.fr := fun a ha => hap a (wsub a ha)
      by_cases hlt : i < items.length
      · refine W.walks.item i s' _ _ hlt hst fun u h' tk hP hst' hk' => ?_
        obtain ⟨m, hm, hr⟩ := W.item i u hP
        have H₂ : Holds C { σ' with own := (D, .list ys) :: σ'.own } { s' with heap := h', toks := tk } := H'.hidden F.ok hk' rfl rfl hap' hnb W.noK W.noAl
        have hLf : L ∉ fp := fun hm => (hfpD L hm).2 rfl
        have hns' : h'.Ns L mL := hnsL.at' fun o e => hk' _ o (fun hm => hLf (wsub _ hm)) e
        have hkx : (compEnvC cs (cloOf C.env.cells cs.names []) L C.env).kindOf x = some .local := by
          show (relabel cs C.env).names.lookup x = _
          rw [relabel_eq F.esc, lookup_relab, K.x]; rfl
        refine wpAny_assign_Name (wpAny_storeName_local hkx hns' (fun h₂ hn₂ hs₂ => ?_) (by simp [compEnvC, relabel, K.kind]))
        have hn₂ : h₂.Ns L (fun y => if y = x then some u else mL y) := hn₂
        have hs₂ : Heap.SameBut L h' h₂ := hs₂
        have H₃ : Holds C { σ' with own := (D, .list ys) :: σ'.own } { s' with heap := h₂, toks := tk + 1 } :=
          H₂.hidden (wr := [L]) F.ok (fun b o hb' e => hs₂.extBut b o (fun e' => hb' (by simp [e'])) e) rfl rfl (sing hLo) (sing hLB) (sing (P := fun a => ∀ o, ¬ C.kp a o) g3) (sing (P := fun a => ¬ C.al a) g4)
        have hal₂ : ∀ a ∈ fp, ∃ o, h₂.get? a = some o := fun a ha => by
          have : ∃ o, h'.get? a = some o := by
            by_cases hw : a ∈ wr
            · exact W.stays _ _ hst' a hw
            · obtain ⟨o, ho⟩ := hal a ha; exact ⟨o, hk' a o hw ho⟩
          obtain ⟨o, ho⟩ := this
          exact ⟨o, hs₂.extBut a o (hfpD a ha).2 ho⟩
        have hst₂ : St (i + 1) h₂ := W.walks.frame _ _ _ hst' fun b hb' o e => hs₂.extBut b o (hfpD b hb').2 e
        have HC := Holds.toComp F K H₃ (m := m) hn₂ (by simp) hr hap hnb hLo hLf hLB g3
        have hYX : ∀ a ∈ D :: wr ++ C.fr, a ∈ D :: fp ++ C.fr ∧ ∃ o, h₂.get? a = some o := fun a ha => by
          rcases List.mem_append.mp ha with ha | ha
          · rcases List.mem_cons.mp ha with rfl | ha
            · exact ⟨.head _, (H₃.own (_, .list ys) (.head _)).alive⟩
            · exact ⟨List.mem_append_left _ (.tail _ (wsub a ha)), hal₂ a (wsub a ha)⟩
          · exact ⟨List.mem_append_right _ ha, H₃.alive a ha⟩
        have hLX : L ∉ D :: fp ++ C.fr := fun hm => by
          rcases List.mem_append.mp hm with hm | hm
          · rcases List.mem_cons.mp hm with e | hm
            · exact hLo (e ▸ .head _)
            · exact hLf hm
          · exact hLo (.tail _ (List.mem_append_right _ hm))
        have FC := F.comp K H₃ (L := L) (X := D :: fp ++ C.fr) (Y := D :: wr ++ C.fr) (fun a ha => List.mem_append_right _ ha) hLX g3 (fun hm => hLo (.tail _ (List.mem_append_right _ hm))) hYX
        -- what is kept of the loop behind a tree of the clause
        have back : ∀ (σ₃ : Mine.St) (s₃ : Shared), Holds (C.comp (compEnvC cs (cloOf C.env.cells cs.names []) L C.env) h₂ (D :: fp ++ C.fr) (D :: wr ++ C.fr)) σ₃ s₃ →
            Holds C ⟨σ'.loc, σ₃.B, (D, .list ys) :: σ₃.own⟩ s₃ ∧ St (i + 1) s₃.heap ∧ (∃ m, s₃.heap.Ns L m) ∧ (∀ a ∈ fp, a ∉ D :: σ₃.own.map (·.1) ++ C.fr) ∧ (∀ a ∈ fp, ∃ o, s₃.heap.get? a = some o) ∧ (∀ a ∈ wr, σ₃.B a = none) ∧
              L ∉ D :: σ₃.own.map (·.1) ++ C.fr ∧ σ₃.B L = none := fun σ₃ s₃ H₄ => by
          have H₅ := Holds.fromComp F.ok H₃ (L := L) H₄
          have kept : ∀ a ∈ fp, ∀ o, h₂.get? a = some o → s₃.heap.get? a = some o := fun a ha o ho => H₄.kp a o (.inr ⟨List.mem_append_left _ (.tail _ ha), ho⟩)
          refine ⟨H₅, W.walks.frame _ _ _ hst₂ kept, H₄.ns, fun a ha hm => ?_, fun a ha => ?_, fun a ha => H₄.noB a (.inr (List.mem_append_left _ (.tail _ ha))), fun hm => ?_, H₄.apartB L (List.mem_append_right _ (.head _))⟩
          · obtain ⟨o, ho⟩ := hal₂ a ha
            rcases List.mem_append.mp hm with hm | hm
            · rcases List.mem_cons.mp hm with e | hm
              · exact (hfpD a ha).1 e
              · exact H₄.apartK a (List.mem_append_left _ hm) o (.inr ⟨List.mem_append_left _ (.tail _ ha), ho⟩)
            · exact hap a ha (List.mem_append_right _ hm)
          · obtain ⟨o, ho⟩ := hal₂ a ha; exact ⟨o, kept a ha o ho⟩
          · rcases List.mem_append.mp hm with hm | hm
            · rcases List.mem_cons.mp hm with e | hm
              · exact hLo (e ▸ .head _)
              · exact (List.nodup_append.mp H₄.nodup).2.2 L hm L (.head _) rfl
            · exact hLo (.tail _ (List.mem_append_right _ hm))
        refine wpAny_mono (CTs_run ifs (turn _ FC i ys σ' m hJ hm) _ HC) (fun ok s₃ hpat => ?_) fun _ _ x => x.elim
        obtain ⟨ok', σ₃, e, H₄, h₄⟩ := hpat
        subst e
        cases ok' with
        | false =>
          simp only [Bool.false_eq_true, if_false] at h₄ ⊢
          obtain ⟨b1, b2, b3, b4, b5, b6, b7, b8⟩ := back σ₃ s₃ H₄
          exact ⟨items.length + 1 - (i + 1), by rw [hk]; exact Nat.sub_lt_sub_left (Nat.lt_succ_of_lt hlt) (Nat.lt_succ_self i), i + 1, ys, { σ₃ with loc := σ'.loc }, rfl, hlt, h₄, Nat.le_succ_of_le hyl, b1, b2, b3, b4, b5, b6, b7, b8⟩
        | true =>
          simp only [if_true] at h₄ ⊢
          refine wpAny_mono (h₄ s₃ H₄) (fun yv s₄ hpat => ?_) fun _ _ x => x.elim
          obtain ⟨y, σ₄, hy, H₅, h₅⟩ := hpat
          obtain ⟨b1, b2, b3, b4, b5, b6, b7, b8⟩ := back σ₄ s₄ H₅
          refine wpAny_list_append_OR (b1.own (D, .list ys) (.head _)) hy (Nat.le_trans (Nat.succ_le_succ hyl) (Nat.le_trans hlt hlen)) fun h₆ ho₆ hk₆ => ?_
          have H₆ : Holds C ⟨σ'.loc, σ₄.B, (D, .list (ys ++ [y])) :: σ₄.own⟩ { s₄ with heap := h₆ } := b1.upd (s' := { s₄ with heap := h₆ }) F.ok .head hk₆ ho₆ rfl rfl
          have hfD : ∀ a ∈ fp, a ≠ D := fun a ha => (hfpD a ha).1
          have hLD : L ≠ D := fun e => b7 (e ▸ .head _)
          refine ⟨items.length + 1 - (i + 1), by rw [hk]; exact Nat.sub_lt_sub_left (Nat.lt_succ_of_lt hlt) (Nat.lt_succ_self i), i + 1, ys ++ [y], { σ₄ with loc := σ'.loc }, rfl, hlt, h₅, by rw [List.length_append]; exact Nat.succ_le_succ hyl, H₆, W.walks.frame _ _ _ b2 fun a ha o ho => hk₆ a o (hfD a ha) ho, ?_, b4, fun a ha => ?_, b6, b7, b8⟩
          · obtain ⟨m', o, es, ep, h1, h2⟩ := b3; exact ⟨m', o, es, ep, hk₆ _ _ hLD h1, h2⟩
          · obtain ⟨o, ho⟩ := b5 a ha; exact ⟨o, hk₆ a o (hfD a ha) ho⟩
      · have hin : i = items.length := Nat.le_antisymm hi (Nat.not_lt.mp hlt)
        subst hin
        refine W.walks.done s' _ _ hst fun h' tk hk' => ?_
        have H₂ : Holds C { σ' with own := (D, .list ys) :: σ'.own } { s' with heap := h', toks := tk } := H'.hidden F.ok hk' rfl rfl hap' hnb W.noK W.noAl
        exact fin D L ys σ' _ hJ H₂ ⟨hDm, H₂.apartB D (.head _), fun hm => (List.nodup_cons.mp H₂.nodup).1 (List.mem_append_left _ hm)⟩ ⟨mL, hnsL.at' fun o e => hk' _ o (fun hm => (hfpD L (wsub _ hm)).2 rfl) e⟩ hLo hLB g3 g4
    · rcases List.mem_append.mp hm with hm | hm
      · rcases List.mem_cons.mp hm with e | hm
        · exact (hfpD a ha).1 e
        · exact W.apart a ha (List.mem_append_left _ hm)
      · exact W.apart a ha (List.mem_append_right _ hm)
  exact codeAny_compStart_list (loop _ rfl) (W.walks.self 0 _ _ _ (W.walks.frame _ _ _ W.st fun b _ o e => keep1 b o (keep2 b o e)) (loop _ rfl))
end
end Mine
set_option autoImplicit false
set_option linter.unusedVariables false
set_option linter.unusedSimpArgs false
namespace Mine
open PySem

section
variable {C : Cx} {hb : Heap} {prog : Program} {w : World} {sc cs : Scope} {n : Nat} {md : List Addr} {fl : Bool} {x : Str} {σ : St}

def CompTurns (hb : Heap) (prog : Program) (w : World) (sc cs : Scope) (n : Nat) (md : List Addr) (x : Str) (ifs : List Expr) (elt : Expr) (items : List MV) (J : Nat → List MV → St → Prop) : Prop :=
  ∀ C', Fx C' hb prog w (relab cs sc) n md false → ∀ i ys σ' m, J i ys σ' → items[i]? = some m →
      CTs C' ifs { σ' with loc := put (capt cs σ'.loc) x m } (fun ok σ₁ => if ok then Ex C' elt σ₁ (fun y σ₂ => J (i + 1) (ys ++ [y]) { σ₂ with loc := σ'.loc }) else J (i + 1) ys { σ₁ with loc := σ'.loc })

theorem Stm_AssignComp {elt iter : Expr} {y : Str} {py px pos spos : Pos} {ifs : List Expr} {Q : MF → St → Prop} (F : Fx C hb prog w sc n md fl) (K : CompOk cs sc x) (hs : ∀ v, foldedSetIterable iter C.env v = pure v)
    (hsw : swapsWith (.ListComp elt [⟨.Name x px, iter, ifs, 0⟩] cs pos) (some (.Name y py)) spos.line C.env = pure true)
    (h : Ex C iter σ (fun v σ₁ => ∃ (items : List MV) (J : Nat → List MV → St → Prop), Itr σ₁ v items ∧ items.length ≤ lim ∧ J 0 [] σ₁ ∧ CompTurns hb prog w sc cs n md x ifs elt items J ∧
      ∀ C', Fx C' hb prog w sc n md fl → ∀ ys σ', J items.length ys σ' → ∀ a, Fsh md σ' a → Store C' y (.ref a) { σ' with own := (a, .list ys) :: σ'.own } (fun σ'' => Q .next σ''))) : Stm C (.Assign [.Name y py] (.ListComp elt [⟨.Name x px, iter, ifs, 0⟩] cs pos) spos) σ Q := fun s H => by
  show wpAny _ _ (exec _ C.env) _ _ s
  rw [exec_Assign_Name_used _ _ _ _ hsw]
  refine wpAny_bind (wpAny_standAt (wpAny_bind ?_))
  show wpAny _ _ (do let _ ← comprehension (.ListComp elt [⟨.Name x px, iter, ifs, 0⟩] cs pos) cs C.env _ (newList []) false (eval iter C.env) (some (assign (.Name y py) C.env))) _ _ s
  refine wpAny_bind (wpAny_mono (wpAny_comprehension_free (Q := fun _ s' => ∃ b σ', FR b .next ∧ Holds C σ' s' ∧ Q b σ') rfl hs (F.clo K) K.kind (fun y hy hk => by obtain ⟨y1, y2⟩ := y; dsimp only at hk; subst hk; exact mem_lookup K.nd hy) (wpAny_mono (h s H) (fun vv s₁ hpat => ?_) fun _ _ x => x))
    (fun _ s' hq => wpAny_pure (wpAny_pure hq)) fun _ _ e => e)
  obtain ⟨v, σ₁, hv, H₁, items, J, it, hlen, J0, turn, fin⟩ := hpat
  refine comp_core F K H₁ it hv hlen J J0 turn fun D L ys σ' s' hJ H' hD hns hLo hLB hLk hLal => ?_
  obtain ⟨m, hns⟩ := hns
  have hLfr : ∀ a ∈ [L], a ∉ C.fr := sing (P := fun a => a ∉ C.fr) fun hm => hLo (.tail _ (List.mem_append_right _ hm))
  have hLalive : ∃ o, s'.heap.get? L = some o := let ⟨o, _, _, ho, _⟩ := hns; ⟨o, ho⟩
  have H₂ := H'.hide (X := [L]) (wr := [L]) (sing (P := fun a => a ∉ _) hLo) (sing (P := fun a => σ'.B a = none) hLB)
  have F₂ : Fx (C.hide s'.heap [L] [L]) hb prog w sc n md fl := F.hide hLfr fun a ha => ⟨ha, by rw [List.mem_singleton.mp ha]; exact hLalive⟩
  refine wpAny_assign_Name (wpAny_mono (fin _ F₂ ys σ' hJ D (F.emod ▸ hD) (.ref D) rfl s' H₂) (fun _ s'' hpat => ?_) fun _ _ x => x)
  obtain ⟨_, σ'', _, H₃, hq⟩ := hpat
  obtain ⟨oL, es, ep, ho, r⟩ := hns
  have kL := H₃.kp L oL (.inr ⟨.head _, ho⟩)
  refine ⟨m, ⟨oL, es, ep, kL, r⟩, fun h' hs' => ⟨.next, σ'', rfl, ?_, hq⟩⟩
  exact H₃.unhide.hidden (wr := [L]) F.ok (fun b o hb' e => hs'.extBut b o (fun e' => hb' (by simp [e'])) e) rfl rfl (sing (P := fun a => a ∉ _) fun hm => H₃.apartK L hm oL (.inr ⟨.head _, ho⟩)) (sing (P := fun a => σ''.B a = none) (H₃.noB L (.inr (.head _))))
    (sing (P := fun a => ∀ o, ¬ C.kp a o) hLk) (sing (P := fun a => ¬ C.al a) hLal)
end
end Mine
set_option autoImplicit false
set_option linter.unusedVariables false
set_option linter.unusedSimpArgs false
namespace Mine
open PySem

section
variable {C : Cx} {hb : Heap} {prog : Program} {w : World} {sc cs : Scope} {n : Nat} {md : List Addr} {fl : Bool} {x : Str} {σ : St}

/-! ints -/
theorem Bin_mul {a b : Int} {Q : MV → St → Prop} (hm : IntMulOk a b) (h : Q (.int (a * b)) σ) : Bin C .Mult (.int a) (.int b) σ Q := fun va vb ha hb s H => by
  obtain ⟨t, rfl⟩ := ha; obtain ⟨u, rfl⟩ := hb
  exact P.mul_int (hm := hm) ⟨.int (a * b), σ, ⟨_, rfl⟩, H.toks _, h⟩
theorem Bin_div {a b : Int} {Q : MV → St → Prop} (h0 : b ≠ 0) (hs : b.natAbs.log2 < 9000) (h : Q (.int (a.fdiv b)) σ) : Bin C .FloorDiv (.int a) (.int b) σ Q := fun va vb ha hb s H => by
  obtain ⟨t, rfl⟩ := ha; obtain ⟨u, rfl⟩ := hb
  exact PyProof.Rows.floordiv_int h0 ⟨.int (a.fdiv b), σ, ⟨_, rfl⟩, H.toks _, h⟩ (.inl (PyProof.noPylong_of_log2 hs))
theorem Bin_mod {a b : Int} {Q : MV → St → Prop} (h0 : b ≠ 0) (hs : b.natAbs.log2 < 9000) (h : Q (.int (a.fmod b)) σ) : Bin C .Mod (.int a) (.int b) σ Q := fun va vb ha hb s H => by
  obtain ⟨t, rfl⟩ := ha; obtain ⟨u, rfl⟩ := hb
  exact PyProof.Rows.mod_int h0 ⟨.int (a.fmod b), σ, ⟨_, rfl⟩, H.toks _, h⟩
theorem Bin_pow {a k : Int} {Q : MV → St → Prop} (h0 : 0 ≤ k) (h1 : k ≤ 1000000) (ha : a.natAbs < 2 ^ 64) (h : Q (.int (a ^ k.toNat)) σ) : Bin C .Pow (.int a) (.int k) σ Q := fun va vb ha' hb s H => by
  obtain ⟨t, rfl⟩ := ha'; obtain ⟨u, rfl⟩ := hb
  exact PyProof.Rows.pow_int_small h0 h1 ha ⟨.int (a ^ k.toNat), σ, ⟨_, rfl⟩, H.toks _, h⟩
theorem Una_neg {a : Int} {Q : MV → St → Prop} (h : Q (.int (-a)) σ) : Una C .USub (.int a) σ Q := fun va ha s H => by
  obtain ⟨t, rfl⟩ := ha
  exact P.neg_int ⟨.int (-a), σ, ⟨_, rfl⟩, H.toks _, h⟩
theorem Cmp_eq {a b : Int} {Q : MV → St → Prop} (h : Q (.bool (decide (a = b))) σ) : Cmp C .Eq (.int a) (.int b) σ Q := fun va vb ha hb s H => by
  obtain ⟨t, rfl⟩ := ha; obtain ⟨u, rfl⟩ := hb
  exact P.eq_int ⟨.bool (decide (a = b)), σ, rfl, H, h⟩
theorem Cmp_ne {a b : Int} {Q : MV → St → Prop} (h : Q (.bool (!decide (a = b))) σ) : Cmp C .NotEq (.int a) (.int b) σ Q := fun va vb ha hb s H => by
  obtain ⟨t, rfl⟩ := ha; obtain ⟨u, rfl⟩ := hb
  exact P.ne_int ⟨.bool (!decide (a = b)), σ, rfl, H, h⟩
theorem Cmp_lt {a b : Int} {Q : MV → St → Prop} (h : Q (.bool (decide (a < b))) σ) : Cmp C .Lt (.int a) (.int b) σ Q := fun va vb ha hb s H => by
  obtain ⟨t, rfl⟩ := ha; obtain ⟨u, rfl⟩ := hb
  exact P.lt_int ⟨.bool (decide (a < b)), σ, rfl, H, h⟩
theorem Cmp_le {a b : Int} {Q : MV → St → Prop} (h : Q (.bool (decide (a ≤ b))) σ) : Cmp C .LtE (.int a) (.int b) σ Q := fun va vb ha hb s H => by
  obtain ⟨t, rfl⟩ := ha; obtain ⟨u, rfl⟩ := hb
  exact P.le_int ⟨.bool (decide (a ≤ b)), σ, rfl, H, h⟩
theorem Cmp_gt {a b : Int} {Q : MV → St → Prop} (h : Q (.bool (decide (b < a))) σ) : Cmp C .Gt (.int a) (.int b) σ Q := fun va vb ha hb s H => by
  obtain ⟨t, rfl⟩ := ha; obtain ⟨u, rfl⟩ := hb
  exact P.gt_int ⟨.bool (decide (b < a)), σ, rfl, H, h⟩
/-! chains of two comparisons -/
theorem Ts_chain2 {l r₁ r₂ : Expr} {o₁ o₂ : CmpOp} {pos : Pos} {Q : Bool → St → Prop} (hm : lastMarks [o₁, o₂] [r₁, r₂] = false)
    (h : Ex C l σ (fun a σ₁ => Ex C r₁ σ₁ (fun b σ₂ => Cmp C o₁ a b σ₂ (fun c σ₃ => Trt C c σ₃ (fun t σ₄ => if t then Ex C r₂ σ₄ (fun d σ₅ => Cmp C o₂ b d σ₅ (fun e σ₆ => Trt C e σ₆ Q)) else Q false σ₄))))) :
    Ts C (.Compare l [o₁, o₂] [r₁, r₂] pos) σ Q := fun s H => by
  refine PyProof.Rows.isTrue_chain (wpAny_mono (h s H) (fun va s₁ hpat => ?_) fun _ _ x => x) hm
  obtain ⟨a, σ₁, ha, H₁, h₁⟩ := hpat
  refine PyProof.Rows.test_link (wpAny_mono (h₁ s₁ H₁) (fun vb s₂ ⟨b, σ₂, hb', H₂, h₂⟩ => wpAny_mono (h₂ va vb ha hb' s₂ H₂) (fun vc s₃ ⟨c, σ₃, hc, H₃, h₃⟩ => wpAny_mono (h₃ vc hc s₃ H₃) (fun t s₄ hpat => ?_) fun _ _ x => x) fun _ _ x => x) fun _ _ x => x)
  obtain ⟨t', σ₄, e, H₄, h₄⟩ := hpat
  subst e
  cases t' with
  | true =>
    refine PyProof.Rows.test_last (wpAny_mono (h₄ s₄ H₄) (fun vd s₅ ⟨d, σ₅, hd, H₅, h₅⟩ => wpAny_mono (h₅ vb vd hb' hd s₅ H₅) (fun ve s₆ ⟨e, σ₆, he, H₆, h₆⟩ => h₆ ve he s₆ H₆) fun _ _ x => x) fun _ _ x => x)
  | false => exact ⟨false, σ₄, rfl, H₄, h₄⟩
theorem Ex_chain2 {l r₁ r₂ : Expr} {o₁ o₂ : CmpOp} {pos : Pos} {Q : MV → St → Prop} (hm : lastMarks [o₁, o₂] [r₁, r₂] = false)
    (h : Ex C l σ (fun a σ₁ => Ex C r₁ σ₁ (fun b σ₂ => Cmp C o₁ a b σ₂ (fun c σ₃ => Trt C c σ₃ (fun t σ₄ => if t then Ex C r₂ σ₄ (fun d σ₅ => Cmp C o₂ b d σ₅ Q) else Q c σ₄))))) :
    Ex C (.Compare l [o₁, o₂] [r₁, r₂] pos) σ Q := fun s H => by
  refine PyProof.Rows.Compare_chain (wpAny_mono (h s H) (fun va s₁ hpat => ?_) fun _ _ x => x) hm
  obtain ⟨a, σ₁, ha, H₁, h₁⟩ := hpat
  refine PyProof.Rows.chain_link (wpAny_mono (h₁ s₁ H₁) (fun vb s₂ ⟨b, σ₂, hb', H₂, h₂⟩ => wpAny_mono (h₂ va vb ha hb' s₂ H₂) (fun vc s₃ ⟨c, σ₃, hc, H₃, h₃⟩ => wpAny_mono (h₃ vc hc s₃ H₃) (fun t s₄ hpat => ?_) fun _ _ x => x) fun _ _ x => x) fun _ _ x => x)
  obtain ⟨t', σ₄, e, H₄, h₄⟩ := hpat
  subst e
  cases t' with
  | true =>
    refine PyProof.Rows.chain_last (wpAny_mono (h₄ s₄ H₄) (fun vd s₅ ⟨d, σ₅, hd, H₅, h₅⟩ => h₅ vb vd hb' hd s₅ H₅) fun _ _ x => x)
  | false => exact ⟨c, σ₄, hc, H₄, h₄⟩

/-! items -/
def noSlice : Expr → Bool
  | .Slice .. => false
  | _ => true
theorem subscripted_plain {e : Expr} {o i : Value} (h : noSlice e = true) : subscripted e false o i = operate [o, i] (getItem o i) := by
  cases e <;> first | rfl | (simp [noSlice] at h)
def SubG (C : Cx) (o i : MV) (σ : St) (Q : MV → St → Prop) : Prop :=
  ∀ s, Holds C σ s → ∀ vo vi, VR o vo → VR i vi → ∃ T id, s.TypeIs vo T ∧ typeLookup (.type T) "__getitem__" = pure (some (.builtin id)) ∧
    wpAny (model C.prog C.w) C.A (getItem vo vi) (fun a s' => ∃ b σ', VR b a ∧ Holds C σ' s' ∧ Q b σ') (fun _ _ => False) s
theorem Ex_Subscript {value slice : Expr} {pos : Pos} {Q : MV → St → Prop} (hs : noSlice slice = true) (h : Ex C value σ (fun o σ₁ => Ex C slice σ₁ (fun i σ₂ => SubG C o i σ₂ Q))) : Ex C (.Subscript value slice pos) σ Q := fun s H => by
  refine PyProof.Rows.Subscript_ (wpAny_mono (h s H) (fun vo s₁ ⟨o, σ₁, ho, H₁, h₁⟩ => wpAny_mono (h₁ s₁ H₁) (fun vi s₂ hpat => ?_) fun _ _ x => x) fun _ _ x => x)
  obtain ⟨i, σ₂, hi, H₂, h₂⟩ := hpat
  obtain ⟨T, id, hT, hl, hw⟩ := h₂ s₂ H₂ vo vi ho hi
  exact PyProof.Rows.tail_any hT hl hw (subscripted_plain hs)
theorem idx_of {k : Int} {len : Nat} {j : Nat} (h0 : 0 ≤ k) (hj : k.toNat = j) (hlt : j < len) : seqIndex? k len = some j := by
  subst hj; exact seqIndex_of h0 (by omega)
theorem lim_lt63 {k : Nat} (h : k ≤ lim) : (k : Int) < 2 ^ 63 := by unfold lim at h; omega
theorem SubG_list {a : Addr} {xs : List MV} {k : Int} {m : MV} {Q : MV → St → Prop} (hh : Has σ a (.list xs)) (h0 : 0 ≤ k) (hm : xs[k.toNat]? = some m) (h : Q m σ) : SubG C (.ref a) (.int k) σ Q := fun s H vo vi ho hi => by
  obtain rfl : vo = .ref a := ho
  obtain ⟨t, rfl⟩ := hi
  obtain ⟨vs, nn, hob, hr, hlim⟩ := H.has hh
  obtain ⟨v, hv, hvr⟩ := hr.get hm
  have hl : s.heap.IsList a vs := ⟨_, hob, rfl, nn, rfl⟩
  have hlt : k.toNat < xs.length := (List.getElem?_eq_some_iff.mp hm).1
  refine ⟨"list", _, hl.typeIs, list_getitem_lookup, wpAny_getItem_list hl h0 ?_ (by rw [← Array.getElem?_toList]; exact hv) ⟨m, σ, hvr, H, h⟩⟩
  unfold lim at hlim; omega
theorem SubG_listNeg {a : Addr} {xs : List MV} {k : Int} {m : MV} {Q : MV → St → Prop} (hh : Has σ a (.list xs)) (h0 : k < 0) (h1 : -(xs.length : Int) ≤ k) (hm : xs[(k + xs.length).toNat]? = some m) (h : Q m σ) : SubG C (.ref a) (.int k) σ Q := fun s H vo vi ho hi => by
  obtain rfl : vo = .ref a := ho
  obtain ⟨t, rfl⟩ := hi
  obtain ⟨vs, nn, hob, hr, hlim⟩ := H.has hh
  obtain ⟨v, hv, hvr⟩ := hr.get hm
  have hl : s.heap.IsList a vs := ⟨_, hob, rfl, nn, rfl⟩
  have hsz : vs.size = xs.length := by have := hr.length; simp at this; exact this.symm
  refine ⟨"list", _, hl.typeIs, list_getitem_lookup, wpAny_getItem_list_neg hl h0 (by rw [hsz]; exact h1) ?_ (by rw [hsz, ← Array.getElem?_toList]; exact hv) ⟨m, σ, hvr, H, h⟩⟩
  unfold lim at hlim; omega
theorem SubG_tup {a : Addr} {xs : List MV} {k : Int} {m : MV} {Q : MV → St → Prop} (hh : Has σ a (.tup xs)) (h0 : 0 ≤ k) (hm : xs[k.toNat]? = some m) (h : Q m σ) : SubG C (.ref a) (.int k) σ Q := fun s H vo vi ho hi => by
  obtain rfl : vo = .ref a := ho
  obtain ⟨t, rfl⟩ := hi
  obtain ⟨vs, nn, hob, hr, hlim⟩ := H.has hh
  obtain ⟨v, hv, hvr⟩ := hr.get hm
  have hlt : k.toNat < xs.length := (List.getElem?_eq_some_iff.mp hm).1
  have hsz : vs.size = xs.length := by have := hr.length; simp at this; exact this.symm
  unfold lim at hlim
  exact ⟨"tuple", _, ⟨_, hob, rfl⟩, F.slot_tuple_getitem.lookup, P.getItem_tuple (n := nn) hob (by omega) (by omega) (idx_of h0 rfl (by omega)) (by rw [← Array.getElem?_toList]; exact hv) ⟨m, σ, hvr, H, h⟩⟩

/-! a store at an index of an owned list -/
theorem Stm_SetItem {o i e : Expr} {p' pos : Pos} {Q : MF → St → Prop} (hs : swapsWith e (some (.Subscript o i p')) pos.line C.env = pure false)
    (h : Ex C e σ (fun v σ₁ => Ex C o σ₁ (fun ov σ₂ => Ex C i σ₂ (fun iv σ₃ => ∀ s, Holds C σ₃ s → ∀ vv vo vi, VR v vv → VR ov vo → VR iv vi →
      wpAny (model C.prog C.w) C.A (setItem vo vi vv) (fun _ s' => ∃ σ', Holds C σ' s' ∧ Q .next σ') (fun _ _ => False) s)))) : Stm C (.Assign [.Subscript o i p'] e pos) σ Q := fun s H => by
  refine wpAny_Assign_Subscript (hs := hs) (wpAny_mono (h s H) (fun vv s₁ ⟨v, σ₁, hv, H₁, h₁⟩ => wpAny_mono (h₁ s₁ H₁) (fun vo s₂ ⟨ov, σ₂, ho, H₂, h₂⟩ => wpAny_mono (h₂ s₂ H₂) (fun vi s₃ hpat => ?_) fun _ _ x => x) fun _ _ x => x) fun _ _ x => x)
  obtain ⟨iv, σ₃, hi, H₃, h₃⟩ := hpat
  exact wpAny_mono (h₃ s₃ H₃ vv vo vi hv ho hi) (fun _ s' ⟨σ', H', hq⟩ => ⟨.next, σ', rfl, H', hq⟩) fun _ _ x => x
end
end Mine
set_option autoImplicit false
set_option linter.unusedVariables false
set_option linter.unusedSimpArgs false
namespace Mine
open PySem

section
variable {C : Cx} {hb : Heap} {prog : Program} {w : World} {sc cs : Scope} {n : Nat} {md : List Addr} {fl : Bool} {x : Str} {σ : St}

structure IsFn (hb : Heap) (fa : Addr) : Prop where
  ex : ∃ o fd, hb.get? fa = some o ∧ o.data = .func fd

theorem Ex_CallFn {f : Str} {p pos : Pos} {e : Expr} {rest : List Expr} {fa : Addr} {Q : MV → St → Prop} (OK : C.Ok hb) (g : Gl hb f (.ref fa)) (hk : C.env.kindOf f = some .globalImplicit) (hf : IsFn hb fa)
    (he : starEach (e :: rest) C.env = (false, eval e C.env) :: starEach rest C.env)
    (h : Exs C pos (e :: rest) σ (fun vs σ₁ => CallV C (.ref fa) vs σ₁ Q)) : Ex C (.Call (.Name f p) (e :: rest) [] pos) σ Q := fun s H => by
  obtain ⟨o, fd, ho, hd⟩ := hf.ex
  refine PyProof.Rows.Call_ (wpAny_mono (Ex_global (Q := fun v σ' => v = .ref fa ∧ σ' = σ) OK g hk ⟨rfl, rfl⟩ s H) (fun vf s₁ hpat => ?_) fun _ _ x => x)
  obtain ⟨_, _, hv, H₁, e1, e2⟩ := hpat
  subst e1 e2
  obtain rfl : vf = .ref fa := hv
  exact PyProof.Rows.callWith_def (o := o) hd (wpAny_mono (h s₁ H₁) (fun vs s₂ ⟨ms, σ₂, hms, H₂, h₂⟩ => ⟨H₂.base OK _ _ ho, h₂ vs hms s₂ H₂⟩) fun _ _ x => x) he
theorem Ex_CallB {f : Str} {p pos : Pos} {e : Expr} {rest : List Expr} {id : String} {Q : MV → St → Prop} (OK : C.Ok hb) (g : Gl hb f (.oth (.builtin id))) (hk : C.env.kindOf f = some .globalImplicit)
    (he : starEach (e :: rest) C.env = (false, eval e C.env) :: starEach rest C.env) (hplain : (backTo pos (starEach rest C.env)).any (·.1) = false)
    (h : Exs C pos (e :: rest) σ (fun vs σ₁ => CallV C (.builtin id) vs σ₁ Q)) : Ex C (.Call (.Name f p) (e :: rest) [] pos) σ Q := fun s H => by
  refine PyProof.Rows.Call_ (wpAny_mono (Ex_global (Q := fun v σ' => v = .oth (.builtin id) ∧ σ' = σ) OK g hk ⟨rfl, rfl⟩ s H) (fun vf s₁ hpat => ?_) fun _ _ x => x)
  obtain ⟨_, _, hv, H₁, e1, e2⟩ := hpat
  subst e1 e2
  obtain rfl : vf = .builtin id := hv
  exact PyProof.Rows.callWith_builtin1 (wpAny_mono (h s₁ H₁) (fun vs s₂ ⟨ms, σ₂, hms, H₂, h₂⟩ => h₂ vs hms s₂ H₂) fun _ _ x => x) he hplain
theorem Ex_CallT {f : Str} {p pos : Pos} {e : Expr} {rest : List Expr} {T : String} {Q : MV → St → Prop} (OK : C.Ok hb) (g : Gl hb f (.oth (.type T))) (hk : C.env.kindOf f = some .globalImplicit)
    (he : starEach (e :: rest) C.env = (false, eval e C.env) :: starEach rest C.env) (hplain : (backTo pos (starEach (e :: rest) C.env)).any (·.1) = false)
    (h : Exs C pos (e :: rest) σ (fun vs σ₁ => CallV C (.type T) vs σ₁ Q)) : Ex C (.Call (.Name f p) (e :: rest) [] pos) σ Q := fun s H => by
  refine PyProof.Rows.Call_ (wpAny_mono (Ex_global (Q := fun v σ' => v = .oth (.type T) ∧ σ' = σ) OK g hk ⟨rfl, rfl⟩ s H) (fun vf s₁ hpat => ?_) fun _ _ x => x)
  obtain ⟨_, _, hv, H₁, e1, e2⟩ := hpat
  subst e1 e2
  obtain rfl : vf = .type T := hv
  refine callWith_type hplain ?_
  have hx : backTo pos (starEach (e :: rest) C.env) = (false, eval e C.env) :: backTo pos (starEach rest C.env) := by rw [he]; rfl
  rw [hx]
  refine Calls.evalArgs_plain ?_
  rw [← hx]
  exact wpAny_mono (h s₁ H₁) (fun vs s₂ ⟨ms, σ₂, hms, H₂, h₂⟩ => h₂ vs hms s₂ H₂) fun _ _ x => x

theorem VsR.one {m : MV} {vs : List Value} (h : VsR [m] vs) : ∃ v, vs = [v] ∧ VR m v := by
  cases h with | cons h1 h2 => cases h2; exact ⟨_, rfl, h1⟩
theorem VsR.two {m m' : MV} {vs : List Value} (h : VsR [m, m'] vs) : ∃ v v', vs = [v, v'] ∧ VR m v ∧ VR m' v' := by
  cases h with | cons h1 h2 => cases h2 with | cons h3 h4 => cases h4; exact ⟨_, _, rfl, h1, h3⟩

theorem Call_len_list {a : Addr} {xs : List MV} {Q : MV → St → Prop} (hh : Has σ a (.list xs)) (h : Q (.int xs.length) σ) : CallV C (.builtin "len") [.ref a] σ Q := fun vs hvs s H => by
  obtain ⟨v, rfl, hv⟩ := hvs.one
  obtain rfl : v = .ref a := hv
  obtain ⟨vs, nn, hob, hr, hlim⟩ := H.has hh
  have hsz : vs.size = xs.length := by have := hr.length; simp at this; exact this.symm
  refine Calls.call_len_list (items := vs) ⟨_, hob, rfl, nn, rfl⟩ (by rw [hsz]; exact lim_lt63 hlim) ⟨.int xs.length, σ, ?_, H.toks _, h⟩
  rw [hsz]; exact ⟨_, rfl⟩
theorem Call_len_tup {a : Addr} {xs : List MV} {Q : MV → St → Prop} (hh : Has σ a (.tup xs)) (h : Q (.int xs.length) σ) : CallV C (.builtin "len") [.ref a] σ Q := fun vs hvs s H => by
  obtain ⟨v, rfl, hv⟩ := hvs.one
  obtain rfl : v = .ref a := hv
  obtain ⟨vs, nn, hob, hr, hlim⟩ := H.has hh
  have hsz : vs.size = xs.length := by have := hr.length; simp at this; exact this.symm
  refine P.len_tuple (items := vs) (n := nn) hob (by rw [hsz]; have := lim_lt63 hlim; omega) ⟨.int xs.length, σ, ?_, H.toks _, h⟩
  rw [hsz]; exact ⟨_, rfl⟩

theorem Call_list_list {a : Addr} {xs : List MV} {Q : MV → St → Prop} (OK : C.Ok hb) (hh : Has σ a (.list xs)) (h : ∀ b, Fsh C.mod σ b → Q (.ref b) { σ with own := (b, .list xs) :: σ.own }) : CallV C (.type "list") [.ref a] σ Q := fun vs hvs s H => by
  obtain ⟨v, rfl, hv⟩ := hvs.one
  obtain rfl : v = .ref a := hv
  obtain ⟨vs, nn, hob, hr, hlim⟩ := H.has hh
  have hsz : vs.size = xs.length := by have := hr.length; simp at this; exact this.symm
  refine call_list_seq a (.inl rfl) hob rfl rfl (fun h' c' hk hD => ?_) (by rw [hsz]; exact Nat.le_trans hlim lim_le)
  refine ⟨.ref s.heap.objs.size, { σ with own := (s.heap.objs.size, .list xs) :: σ.own }, rfl, ?_, h _ (H.fsh OK)⟩
  exact (H.ext (s' := { s with heap := h' }) hk rfl rfl).addO (fresh_facts H) ⟨vs, c', hD, hr, hlim⟩

theorem Call_range {k : Int} {Q : MV → St → Prop} (h0 : 0 ≤ k) (h1 : k.toNat ≤ lim) (h : ∀ a, Q (.ref a) { σ with own := (a, .range k.toNat) :: σ.own }) : CallV C (.type "range") [.int k] σ Q := fun vs hvs s H => by
  obtain ⟨v, rfl, t, rfl⟩ := hvs.one
  refine call_range_1 ⟨.ref s.heap.objs.size, _, rfl, (H.new (mo := .range k.toNat) ⟨s.toks, t, s.toks + 1, ?_, h1⟩).toks _, h _⟩
  have : ((k.toNat : Nat) : Int) = k := by omega
  show (s.heap.push _).get? _ = _
  rw [this]; exact Heap.get?_push_size _ rfl

theorem Call_isi {m : MV} {T : String} {b : Bool} {Q : MV → St → Prop} (hi : ∀ s, Holds C σ s → ∀ v, VR m v → ∀ Q' : Value → Shared → Prop, (∀ t, Q' (.bool b) { s with toks := t }) → wpAny (model C.prog C.w) C.A (call (.builtin "isinstance") [v, .type T]) Q' (fun _ _ => False) s)
    (h : Q (.bool b) σ) : CallV C (.builtin "isinstance") [m, .oth (.type T)] σ Q := fun vs hvs s H => by
  obtain ⟨v, v', rfl, hv, hv'⟩ := hvs.two
  obtain rfl : v' = .type T := hv'
  exact hi s H v hv _ fun t => ⟨.bool b, σ, rfl, H.toks t, h⟩
theorem isi_int_int {i : Int} {Q : MV → St → Prop} (h : Q (.bool true) σ) : CallV C (.builtin "isinstance") [.int i, .oth (.type "int")] σ Q :=
  Call_isi (b := true) (fun s H v hv Q' hq => by obtain ⟨t, rfl⟩ := hv; exact IsiPair.int_int (hq s.toks)) h
theorem isi_int_bool {i : Int} {Q : MV → St → Prop} (h : Q (.bool false) σ) : CallV C (.builtin "isinstance") [.int i, .oth (.type "bool")] σ Q :=
  Call_isi (b := false) (fun s H v hv Q' hq => by obtain ⟨t, rfl⟩ := hv; exact IsiPair.int_bool (hq _)) h
theorem isi_bool_bool {i : Bool} {Q : MV → St → Prop} (h : Q (.bool true) σ) : CallV C (.builtin "isinstance") [.bool i, .oth (.type "bool")] σ Q :=
  Call_isi (b := true) (fun s H v hv Q' hq => by obtain rfl : v = _ := hv; exact IsiPair.bool_bool (hq s.toks)) h
theorem isi_list_list {a : Addr} {xs : List MV} {Q : MV → St → Prop} (hh : Has σ a (.list xs)) (h : Q (.bool true) σ) : CallV C (.builtin "isinstance") [.ref a, .oth (.type "list")] σ Q :=
  Call_isi (b := true) (fun s H v hv Q' hq => by obtain rfl : v = .ref a := hv; obtain ⟨vs, nn, hob, _⟩ := H.has hh; exact IsiPair.list_list hob rfl (hq s.toks)) h
theorem isi_tup_tup {a : Addr} {xs : List MV} {Q : MV → St → Prop} (hh : Has σ a (.tup xs)) (h : Q (.bool true) σ) : CallV C (.builtin "isinstance") [.ref a, .oth (.type "tuple")] σ Q :=
  Call_isi (b := true) (fun s H v hv Q' hq => by obtain rfl : v = .ref a := hv; obtain ⟨vs, nn, hob, _⟩ := H.has hh; exact IsiPair.tuple_tuple hob rfl (hq s.toks)) h

theorem Cmp_eqStr {a b : Str} {Q : MV → St → Prop} (h : Q (.bool (decide (a = b))) σ) : Cmp C .Eq (.str a) (.str b) σ Q := fun va vb ha hb s H => by
  obtain ⟨t, rfl⟩ := ha; obtain ⟨u, rfl⟩ := hb
  refine P.eq_str ⟨.bool (decide (a = b)), σ, ?_, H, h⟩
  show Value.bool _ = _
  congr 1
  by_cases hab : a = b
  · subst hab; simp
  · rw [decide_eq_false hab]
    refine beq_eq_false_iff_ne.mpr fun hl => hab ?_
    cases a; cases b
    simp only [Str.mk.injEq]
    exact Array.toList_inj.mp hl
set_option maxRecDepth 100000 in
theorem setItem_exact {A : Around} {E : Value → Shared → Prop} {s : Shared} {l : Addr} {items : Array Value} {nn : Nat} {k : Int} {j : Nat} {t : Tok} {v : Value} {Q : Unit → Shared → Prop} (hkj : k = j)
    (ho : s.heap.get? l = some { cls := .type "list", dict := none, data := .seq items nn, slots := #[] }) (hfit : k < 2 ^ 63) (hj : j < items.size)
    (hQ : Q () { s with heap := s.heap.update l (Obj.mapSeq (·.setIfInBounds j v)) }) : wpAny (model prog w) A (setItem (.ref l) (.int k t) v) Q E s := by
  have h0 : 0 ≤ k := by omega
  have hl : s.heap.IsList l items := ⟨_, ho, rfl, nn, rfl⟩
  unfold setItem
  try with_reducible refine wpAny_holding ?_
  first | refine wpAny_bind (wpAny_pure ?_) | skip
  refine wpAny_bind (wpAny_sequenceKey hl.typeIs (by decide) ?_)
  refine wpAny_bind (wpAny_callSpecial?_slot (name := Str.ofString "__setitem__") hl.typeIs slot_list_setitem (wpAny_call_entry slot_list_setitem hl.typeIs entry_list_setitem ?_ (args_list_setitem _ _ _)))
  show wpAny _ _ (Builtin.List.listSubscript? (.int k t) >>= _) _ _ s
  refine wpAny_bind (wpAny_listSubscript_int (fitsIndex_of h0 hfit) ?_)
  clear hfit
  subst hkj
  have hx' : items[j]? = some items[j] := Array.getElem?_eq_getElem hj
  show wpAny _ _ ((seqItemAt l j >>= fun r => pure (r.map (j, ·))) >>= _) _ _ s
  refine wpAny_bind (wpAny_bind (wpAny_seqItemAt ho rfl (wpAny_pure ?_)))
  rw [hx']
  show wpAny _ _ (setSeqItemAt l j v >>= _) _ _ s
  refine wpAny_bind (wpAny_setSeqItemAt ho rfl ?_)
  first
    | exact wpAny_bind (wpAny_pure (wpAny_pure ⟨.none, rfl, wpAny_pure hQ⟩))
    | exact wpAny_pure ⟨.none, rfl, wpAny_pure hQ⟩

theorem SetItem_list {a : Addr} {xs : List MV} {k : Int} {m : MV} {own' : Own} {Q : MF → St → Prop} (OK : C.Ok hb) (u : Upd σ.own a (.list xs) (.list (xs.set k.toNat m)) own') (h0 : 0 ≤ k) (h1 : k < xs.length) (h : Q .next { σ with own := own' }) :
    ∀ s, Holds C σ s → ∀ vv vo vi, VR m vv → VR (.ref a) vo → VR (.int k) vi → wpAny (model C.prog C.w) C.A (setItem vo vi vv) (fun _ s' => ∃ σ', Holds C σ' s' ∧ Q .next σ') (fun _ _ => False) s := fun s H vv vo vi hv ho hi => by
  obtain rfl : vo = .ref a := ho
  obtain ⟨t, rfl⟩ := hi
  obtain ⟨vs, nn, hob, hr, hlim⟩ := H.own _ u.mem
  have hsz : vs.size = xs.length := by have := hr.length; simp at this; exact this.symm
  obtain ⟨j, rfl⟩ := Int.eq_ofNat_of_zero_le h0
  have hj : j < vs.size := by omega
  refine setItem_exact rfl hob (lim_lt63 (by omega)) hj ⟨{ σ with own := own' }, H.upd OK u (fun b ob hb' e => by rw [Heap.get?_update_other _ _ (Ne.symm hb')]; exact e) ?_ rfl rfl, h⟩
  refine ⟨vs.setIfInBounds j vv, nn, ?_, ?_, by simpa using hlim⟩
  · have := Heap.get?_update_self (Obj.mapSeq (·.setIfInBounds j vv)) hob rfl
    simpa [Obj.mapSeq] using this
  · have := hr.set hv j
    simpa using this
end
end Mine
set_option autoImplicit false
set_option linter.unusedVariables false
set_option linter.unusedSimpArgs false
namespace Mine
open PySem PySem.SeqAt

section
variable {C : Cx} {hb : Heap} {prog : Program} {w : World} {sc cs : Scope} {n : Nat} {md : List Addr} {fl : Bool} {x : Str} {σ : St}

theorem Ex_append {o e : Expr} {apos pos : Pos} {Q : MV → St → Prop} (OK : C.Ok hb) (hbase : attributeBase o "append" C.env (eval o C.env) = eval o C.env) (hline : (apos.endLine == pos.line) = true)
    (he : backTo pos (starEach [e] C.env) = [(false, eval e C.env)])
    (h : Ex C o σ (fun ov σ₁ => ∃ a xs, ov = .ref a ∧ Has σ₁ a (.list xs) ∧ Ex C e σ₁ (fun v σ₂ => ∃ ys own', Upd σ₂.own a (.list ys) (.list (ys ++ [v])) own' ∧ ys.length + 1 ≤ lim ∧ Q .none { σ₂ with own := own' }))) :
    Ex C (.Call (.Attribute o "append" apos) [e] [] pos) σ Q := fun s H => by
  refine wpAny_Call_method hbase (by rw [he]; rfl) hline F.plainAttrs_list F.slot_list_append F.type_list_append (wpAny_mono (h s H) (fun vo s₁ hpat => ?_) fun _ _ x => x)
  obtain ⟨ov, σ₁, ho, H₁, a, xs, e1, hh, h₁⟩ := hpat
  subst e1
  obtain rfl : vo = .ref a := ho
  obtain ⟨vs, nn, hob, hr, hlim⟩ := H₁.has hh
  refine ⟨⟨_, hob, rfl⟩, fun b e' => by cases e'; exact ⟨_, hob, rfl⟩, ?_⟩
  rw [he]
  refine P.append_list (wpAny_mono (h₁ s₁ H₁) (fun v s₂ hpat => ?_) fun _ _ x => x)
  obtain ⟨m, σ₂, hv, H₂, ys, own', u, hl, hq⟩ := hpat
  obtain ⟨vs', n', hob', hr', hlim'⟩ := H₂.own _ u.mem
  have hsz : vs'.size = ys.length := by have := hr'.length; simp at this; exact this.symm
  refine ⟨vs', n', by rw [hsz]; exact Nat.le_trans hlim' lim_le, hob', .none, { σ₂ with own := own' }, rfl, ?_, hq⟩
  refine H₂.upd OK u (fun b ob hb' e' => by rw [Heap.get?_update_other _ _ (Ne.symm hb')]; exact e') ?_ rfl rfl
  refine ⟨vs'.push v, _, IsL.update hob' fun xs => xs.push v, ?_, by simpa using hl⟩
  simpa using hr'.snoc hv

/-! equality -/
inductive EqM (σ : St) : MV → MV → Bool → Prop
  | same (a : Addr) : EqM σ (.ref a) (.ref a) true
  | int (i j : Int) : EqM σ (.int i) (.int j) (decide (i = j))
  | str (x y : Str) : EqM σ (.str x) (.str y) (decide (x = y))
  | none : EqM σ .none .none true
  | bool (b : Bool) : EqM σ (.bool b) (.bool b) true

theorem EqM.at {s : Shared} (H : Holds C σ s) {m m' : MV} {b : Bool} (h : EqM σ m m' b) {v v' : Value} (hv : VR m v) (hv' : VR m' v') (A : Around) : EqAt A s v v' b := by
  cases h with
  | same a => obtain rfl : v = _ := hv; obtain rfl : v' = _ := hv'; exact EqAt.same _
  | int i j => obtain ⟨t, rfl⟩ := hv; obtain ⟨u, rfl⟩ := hv'; exact (MeetsSeq.EqGives.int i j t u).at A s
  | str x y => obtain ⟨t, rfl⟩ := hv; obtain ⟨u, rfl⟩ := hv'; exact fun prog w E Q hq => wpAny_eqBool_str hq
  | none => obtain rfl : v = _ := hv; obtain rfl : v' = _ := hv'; exact EqAt.same _
  | bool b => obtain rfl : v = _ := hv; obtain rfl : v' = _ := hv'; exact EqAt.same _

end
end Mine
set_option autoImplicit false
set_option linter.unusedVariables false
set_option linter.unusedSimpArgs false
namespace Mine
open PySem

def Sub0 (B B' : MH) : Prop := ∀ a o, B a = some o → B' a = some o
theorem Sub0.rfl' (B : MH) : Sub0 B B := fun _ _ h => h
section
variable {C : Cx} {hb : Heap} {prog : Program} {w : World} {sc cs : Scope} {n : Nat} {md : List Addr} {fl : Bool} {x : Str} {σ : St}

theorem Holds.drop {s : Shared} {B₂ : MH} {own₂ : Own} (H : Holds C σ s) (h1 : Sub0 B₂ σ.B) (h2 : Sub0 C.B0 B₂) (h3 : own₂.Sublist σ.own) : Holds C { σ with B := B₂, own := own₂ } s := by
  have hsub : (own₂.map (·.1) ++ C.fr).Sublist (σ.own.map (·.1) ++ C.fr) := (h3.map _).append (List.Sublist.refl _)
  have bn : ∀ a, σ.B a = none → B₂ a = none := fun a ha => by
    cases e : B₂ a with
    | none => rfl
    | some o => rw [h1 a o e] at ha; cases ha
  exact {
    kp := H.kp, names := H.names, ns := H.ns, cells := H.cells, alive := H.alive, gens := H.gens, os := H.os, al := H.al
    B := fun a o h => H.B a o (h1 a o h)
    own := fun p hp => H.own p (h3.mem hp)
    nodup := hsub.nodup H.nodup
    apartB := fun a ha => bn a (H.apartB a (hsub.mem ha))
    apartK := fun a ha => H.apartK a (hsub.mem ha)
    B0 := h2
    Bnew := fun a o h => H.Bnew a o (h1 a o h)
    ownNew := fun p hp => H.ownNew p (h3.mem hp)
    noB := fun a ha => bn a (H.noB a ha) }

end
end Mine
set_option autoImplicit false
set_option linter.unusedVariables false
set_option linter.unusedSimpArgs false
namespace Mine
open PySem

def bodyAt (p : Program) (i : Nat) : List Stmt := match p.main.body[i]? with | some (.FunctionDef _ _ b _ _ _ _ _ _ _) => b | _ => []
def scopeAt (p : Program) (i : Nat) : Scope := match p.main.body[i]? with | some (.FunctionDef _ _ _ _ _ _ s _ _ _) => s | _ => default
def paramsAt (p : Program) (i : Nat) : List Str := match p.main.body[i]? with | some (.FunctionDef _ a _ _ _ _ _ _ _ _) => a.args.map (·.arg) | _ => []

/-- a global function with its contract -/
structure FnC (prog : Program) (w : World) (hb : Heap) (f : Str) (n : Nat) (S : Spec) : Prop where
  ex : ∃ fa, Gl hb f (.ref fa) ∧ IsFn hb fa ∧ Contract prog w hb (.ref fa) n S

section
variable {C : Cx} {hb : Heap} {prog : Program} {w : World} {sc cs : Scope} {n : Nat} {md : List Addr} {fl : Bool} {x : Str} {σ : St}

theorem Fx.kind (F : Fx C hb prog w sc n md fl) {x : Str} {k : NameKind} (h : sc.names.lookup x = some k) : C.env.kindOf x = some k := by unfold Env.kindOf; rw [F.esc]; exact h

theorem look_hd {l : Loc} {x : Str} {v : MV} : look ((x, v) :: l) x = some v := by simp [look]
theorem look_tl {l : Loc} {x y : Str} {u v : MV} (h : x ≠ y) (h' : look l x = some v) : look ((y, u) :: l) x = some v := by simp only [look, h, if_false]; exact h'
theorem put_nil {x : Str} {v : MV} : put [] x v = [(x, v)] := rfl
theorem put_hd {l : Loc} {x : Str} {u v : MV} : put ((x, u) :: l) x v = (x, v) :: l := by simp [put]
theorem put_tl {l l' : Loc} {x y : Str} {u v : MV} (h : x ≠ y) (h' : put l x v = l') : put ((y, u) :: l) x v = (y, u) :: l' := by simp only [put, h, if_false, h']
theorem capt_nil : capt cs [] = [] := rfl
theorem capt_keep {l l' : Loc} {y : Str} {u : MV} (h : cs.names.lookup y = some .free) (h' : capt cs l = l') : capt cs ((y, u) :: l) = (y, u) :: l' := by simp only [capt, h, if_true, h']
theorem capt_skip {l l' : Loc} {y : Str} {u : MV} (h : cs.names.lookup y ≠ some .free) (h' : capt cs l = l') : capt cs ((y, u) :: l) = l' := by simp only [capt, h, if_false, h']

theorem map_toNat_inj : ∀ {a b : List Char}, a.map Char.toNat = b.map Char.toNat → a = b
  | [], [], _ => rfl
  | x :: a, y :: b, h => by
    simp only [List.map_cons, List.cons.injEq] at h
    have e : x = y := Char.ext (UInt32.toNat_inj.mp h.1)
    rw [e, map_toNat_inj h.2]
  | [], _ :: _, h => by simp at h
  | _ :: _, [], h => by simp at h
theorem ofString_ne {a b : String} (h : a ≠ b) : Str.ofString a ≠ Str.ofString b := fun e => h (by
  rw [Str.ofString_eq_toList, Str.ofString_eq_toList] at e
  have e1 := congrArg Array.toList (Str.mk.inj e)
  simp only [] at e1
  exact String.toList_injective (map_toNat_inj e1))

theorem Ex_loc {x : Str} {pos : Pos} {m : MV} {Q : MV → St → Prop} (F : Fx C hb prog w sc n md fl) (hl : look σ.loc x = some m) (hn : okName x = true) (h : Q m σ) : Ex C (.Name x pos) σ Q := Ex_local F.ok hl hn h
theorem Ex_glb {x : Str} {pos : Pos} {m : MV} {Q : MV → St → Prop} (F : Fx C hb prog w sc n md fl) (g : Gl hb x m) (hk : sc.names.lookup x = some .globalImplicit) (h : Q m σ) : Ex C (.Name x pos) σ Q := Ex_global F.ok g (F.kind hk) h
theorem Store_loc {x : Str} {m : MV} {l' : Loc} {Q : St → Prop} (F : Fx C hb prog w sc n md fl) (hk : sc.names.lookup x = some .local) (hp : put σ.loc x m = l') (h : Q { σ with loc := l' }) : Store C x m σ Q := Store_local F.ok (F.kind hk) (hp ▸ h)
theorem Ex_CallC {f : Str} {p pos : Pos} {e : Expr} {rest : List Expr} {k : Nat} {S : Spec} {Q : MV → St → Prop} (F : Fx C hb prog w sc n md fl) (hf : FnC prog w hb f k S) (hk : sc.names.lookup f = some .globalImplicit) (hn : k ≤ n)
    (he : starEach (e :: rest) C.env = (false, eval e C.env) :: starEach rest C.env)
    (h : Exs C pos (e :: rest) σ (fun vs σ₁ => S vs σ₁.B [] (fun m B' own' => Q m { σ₁ with B := B', own := own' ++ σ₁.own }))) : Ex C (.Call (.Name f p) (e :: rest) [] pos) σ Q := by
  obtain ⟨fa, g, hi, ct⟩ := hf.ex
  refine Ex_CallFn F.ok g (F.kind hk) hi he (Tr.mono h fun vs σ₁ h₁ => ?_)
  have ct' : Contract C.prog C.w hb (.ref fa) k S := by rw [F.eprog, F.ew]; exact ct
  exact CallV_ct0 F.ok ct' (by rw [F.eroom]; exact hn) h₁
theorem Ex_CallCo {f : Str} {p pos : Pos} {e : Expr} {rest : List Expr} {k : Nat} {S : Spec} {Q : MV → St → Prop} (F : Fx C hb prog w sc n md fl) (hf : FnC prog w hb f k S) (hk : sc.names.lookup f = some .globalImplicit) (hn : k ≤ n)
    (he : starEach (e :: rest) C.env = (false, eval e C.env) :: starEach rest C.env)
    (h : Exs C pos (e :: rest) σ (fun vs σ₁ => ∃ own₁ rest', σ₁.own.Perm (own₁ ++ rest') ∧ S vs σ₁.B own₁ (fun m B' own' => Q m { σ₁ with B := B', own := own' ++ rest' }))) : Ex C (.Call (.Name f p) (e :: rest) [] pos) σ Q := by
  obtain ⟨fa, g, hi, ct⟩ := hf.ex
  refine Ex_CallFn F.ok g (F.kind hk) hi he (Tr.mono h fun vs σ₁ hpat => ?_)
  obtain ⟨o1, r1, hp, h₁⟩ := hpat
  have ct' : Contract C.prog C.w hb (.ref fa) k S := by rw [F.eprog, F.ew]; exact ct
  exact CallV_ct F.ok ct' (by rw [F.eroom]; exact hn) hp h₁
end
end Mine
namespace Mine
section
set_option autoImplicit false
set_option linter.unusedVariables false
set_option linter.unusedSimpArgs false
set_option genSizeOf false
set_option genInjectivity false
inductive Dd where
  | act (r : Int)
  | choose (r : Int) (y n : List Dd)
  | block (b : List Dd)
  | loop (b : List Dd)
  | leave (d : Nat)
  | again (d : Nat)
  | stop
inductive Kd where
  | choose | block | loop
abbrev Fr := Kd × List Dd × Nat
mutual
def wd : Dd → Nat
  | .act _ => 1
  | .choose _ y n => 3 + wt y + wt n
  | .block b => 3 + wt b
  | .loop b => 3 + wt b
  | .leave _ => 1
  | .again _ => 1
  | .stop => 1
def wt : List Dd → Nat
  | [] => 0
  | d :: r => wd d + wt r
end
/-- an again stands right behind an act -/
def ag : Bool → List Dd → Prop
  | _, [] => True
  | f, .again _ :: r => f = true ∧ ag false r
  | _, .act _ :: r => ag true r
  | _, _ :: r => ag false r
mutual
def okD : Nat → Dd → Prop
  | _, .act r => r = 0 ∨ r = 1
  | n, .choose r y no => (r = 2 ∨ r = 3) ∧ (okA n y ∧ ag false y) ∧ okA n no ∧ ag false no
  | n, .block b => okA (n + 1) b ∧ ag false b
  | n, .loop b => okA (n + 1) b ∧ ag false b
  | n, .leave d => d < n
  | n, .again d => d < n
  | _, .stop => True
def okA : Nat → List Dd → Prop
  | _, [] => True
  | n, d :: r => okD n d ∧ okA n r
end
def okL (n : Nat) (b : List Dd) : Prop := okA n b ∧ ag false b
theorem okA_get {n : Nat} : ∀ {b : List Dd} {i : Nat} {d : Dd}, okA n b → b[i]? = some d → okD n d
  | [], i, d, _, h => by simp at h
  | e :: r, 0, d, h, hi => by
    unfold okA at h
    simp at hi; subst hi; exact h.1
  | e :: r, i + 1, d, h, hi => by
    unfold okA at h
    exact okA_get h.2 (by simpa using hi)
theorem okA_append {n : Nat} : ∀ {a b : List Dd}, okA n (a ++ b) ↔ okA n a ∧ okA n b
  | [], b => by simp [okA]
  | d :: a, b => by simp only [List.cons_append, okA, okA_append, and_assoc]
def isAct : Dd → Bool
  | .act _ => true
  | _ => false
def isAgain : Dd → Bool
  | .again _ => true
  | _ => false
theorem ag_get : ∀ {f : Bool} {b : List Dd} {i : Nat} {d : Nat}, ag f b → b[i]? = some (.again d) → (i = 0 ∧ f = true) ∨ ∃ j e, i = j + 1 ∧ b[j]? = some e ∧ isAct e = true
  | f, [], i, d, _, h => by simp at h
  | f, e :: r, 0, d, h, hi => by
    simp at hi; subst hi; exact .inl ⟨rfl, h.1⟩
  | f, e :: r, i + 1, d, h, hi => by
    have key : ∃ g, ag g r ∧ (g = true → isAct e = true) := by
      cases e with
      | again _ => exact ⟨false, h.2, fun h => nomatch h⟩
      | act _ => exact ⟨true, h, fun _ => rfl⟩
      | choose _ _ _ => exact ⟨false, h, fun h => nomatch h⟩
      | block _ => exact ⟨false, h, fun h => nomatch h⟩
      | loop _ => exact ⟨false, h, fun h => nomatch h⟩
      | leave _ => exact ⟨false, h, fun h => nomatch h⟩
      | stop => exact ⟨false, h, fun h => nomatch h⟩
    obtain ⟨g, hg, ha⟩ := key
    rcases ag_get hg (by simpa using hi) with ⟨rfl, hgt⟩ | ⟨j, e', rfl, h1, h2⟩
    · exact .inr ⟨0, e, rfl, rfl, ha hgt⟩
    · exact .inr ⟨j + 1, e', rfl, by simpa using h1, h2⟩
/-- the last of a list is an act (or, of the empty list, what stood before) -/
def endA : Bool → List Dd → Bool
  | f, [] => f
  | _, d :: r => endA (isAct d) r
theorem ag_append : ∀ {f : Bool} {a b : List Dd}, ag f (a ++ b) ↔ ag f a ∧ ag (endA f a) b
  | f, [], b => by simp [ag, endA]
  | f, d :: a, b => by
    cases d <;> simp only [List.cons_append, ag, endA, isAct, ag_append, and_assoc]
/-- the bodies of a deed -/
def isSub (d : Dd) (b : List Dd) : Prop :=
  match d with
  | .choose _ y n => b = y ∨ b = n
  | .block c => b = c
  | .loop c => b = c
  | _ => False
theorem wt_sub {d : Dd} {b : List Dd} (h : isSub d b) : wt b + 3 ≤ wd d := by
  cases d with
  | choose r y n => rcases h with rfl | rfl <;> simp only [wd] <;> omega
  | block c => obtain rfl : b = c := h; simp only [wd]; omega
  | loop c => obtain rfl : b = c := h; simp only [wd]; omega
  | act _ => exact h.elim
  | leave _ => exact h.elim
  | again _ => exact h.elim
  | stop => exact h.elim
theorem wt_drop : ∀ (b : List Dd) (i : Nat), wt (b.drop i) ≤ wt b
  | [], i => by simp
  | d :: r, 0 => Nat.le_refl _
  | d :: r, i + 1 => by have := wt_drop r i; simp only [List.drop_succ_cons, wt]; omega
theorem wt_get : ∀ {b : List Dd} {i : Nat} {d : Dd}, b[i]? = some d → wt (b.drop i) = wd d + wt (b.drop (i + 1))
  | [], i, d, h => by simp at h
  | e :: r, 0, d, h => by simp at h; subst h; simp [wt]
  | e :: r, i + 1, d, h => by simp only [List.drop_succ_cons]; exact wt_get (by simpa using h)
theorem wd_pos (d : Dd) : 1 ≤ wd d := by cases d <;> simp only [wd] <;> omega

/-! the pile -/
def isCh : Kd → Bool
  | .choose => true
  | _ => false
def dep : List Fr → Nat
  | [] => 0
  | (k, _, _) :: r => (if isCh k then 0 else 1) + dep r
def rem : List Fr → Nat
  | [] => 0
  | (_, b, i) :: r => wt (b.drop i) + 1 + rem r
/-- what lies under a body -/
def under (b : List Dd) : List Fr → Prop
  | [] => True
  | (_, b', i') :: _ => ∃ j d, i' = j + 1 ∧ b'[j]? = some d ∧ isSub d b
def PInv (W : Nat) : List Fr → Prop
  | [] => True
  | (k, b, i) :: r => okL (dep ((k, b, i) :: r)) b ∧ under b r ∧ (r = [] → wt b ≤ W) ∧ PInv W r
theorem PInv.bound {W : Nat} : ∀ {r : List Fr} {k : Kd} {b : List Dd} {i : Nat}, PInv W ((k, b, i) :: r) → wt b + 1 + rem r ≤ W + 1
  | [], k, b, i, h => by have := h.2.2.1 rfl; simp [rem]; omega
  | (k', b', i') :: r, k, b, i, h => by
    obtain ⟨h1, ⟨j, d, rfl, hd, hs⟩, h3, h4⟩ := h
    have := PInv.bound h4
    have e1 := wt_sub hs
    have e2 := wt_get hd
    have e3 := wt_drop b' j
    simp only [rem]
    omega
theorem PInv.rem {W : Nat} {p : List Fr} (h : PInv W p) : rem p ≤ W + 1 := by
  cases p with
  | nil => simp [Mine.rem]
  | cons f r =>
    obtain ⟨k, b, i⟩ := f
    have := PInv.bound h
    have := wt_drop b i
    simp only [Mine.rem]; omega
/-- going back -/
def gb : Nat → List Fr → List Fr
  | _, [] => []
  | d, (k, b, i) :: r => if isCh k then gb d r else match d with
    | 0 => (k, b, i) :: r
    | d + 1 => gb d r
theorem gb_ok {W : Nat} : ∀ {p : List Fr} {d : Nat}, PInv W p → d < dep p → ∃ k b i r, gb d p = (k, b, i) :: r ∧ PInv W ((k, b, i) :: r) ∧ Mine.rem ((k, b, i) :: r) ≤ Mine.rem p
  | [], d, _, h => by simp [dep] at h
  | (k, b, i) :: r, d, hp, h => by
    unfold gb
    by_cases hk : isCh k = true
    · rw [if_pos hk]
      obtain ⟨k', b', i', r', e, h1, h2⟩ := gb_ok (d := d) hp.2.2.2 (by simp [dep, hk] at h; exact h)
      refine ⟨k', b', i', r', e, h1, Nat.le_trans h2 ?_⟩
      simp only [Mine.rem]; omega
    · rw [if_neg hk]
      cases d with
      | zero => exact ⟨k, b, i, r, rfl, hp, Nat.le_refl _⟩
      | succ d =>
        obtain ⟨k', b', i', r', e, h1, h2⟩ := gb_ok (d := d) hp.2.2.2 (by simp [dep, hk] at h; omega)
        refine ⟨k', b', i', r', e, h1, Nat.le_trans h2 ?_⟩
        simp only [Mine.rem]; omega

def nxA : List Fr → Bool
  | [] => false
  | (_, b, i) :: _ => match b[i]? with
    | some d => isAgain d
    | none => false
theorem isAgain_iff {d : Dd} (h : isAgain d = true) : ∃ k, d = .again k := by
  cases d with
  | again k => exact ⟨k, rfl⟩
  | act _ => cases h
  | choose _ _ _ => cases h
  | block _ => cases h
  | loop _ => cases h
  | leave _ => cases h
  | stop => cases h
theorem nxA_get {k : Kd} {b : List Dd} {i : Nat} {r : List Fr} (h : nxA ((k, b, i) :: r) = true) : ∃ d, b[i]? = some (.again d) := by
  simp only [nxA] at h
  split at h
  · rename_i d hd
    obtain ⟨k, rfl⟩ := isAgain_iff h
    exact ⟨k, hd⟩
  · cases h
theorem nxA_zero {W : Nat} {k : Kd} {b : List Dd} {i : Nat} {r : List Fr} (h : PInv W ((k, b, i) :: r)) : nxA ((k, b, 0) :: r) = false := by
  cases e : nxA ((k, b, 0) :: r) with
  | false => rfl
  | true =>
    obtain ⟨d, hd⟩ := nxA_get e
    rcases ag_get h.1.2 hd with ⟨_, h'⟩ | ⟨j, _, h', _⟩
    · cases h'
    · cases h'
theorem nxA_under {W : Nat} {b : List Dd} {p : List Fr} (hu : under b p) (h : PInv W p) : nxA p = false := by
  cases p with
  | nil => rfl
  | cons f r =>
    obtain ⟨k', b', i'⟩ := f
    obtain ⟨j, d, rfl, hd, hs⟩ := hu
    cases e : nxA ((k', b', j + 1) :: r) with
    | false => rfl
    | true =>
      obtain ⟨x, hx⟩ := nxA_get e
      rcases ag_get h.1.2 hx with ⟨h', _⟩ | ⟨j', d', h', h1, h2⟩
      · cases h'
      · cases h'
        rw [hd] at h1; cases h1
        cases d with
        | act _ => exact hs.elim
        | _ => cases h2

structure Ms where
  bs : List Int
  p : List Fr
  tr : List Int
def rewind : List Fr → List Fr
  | [] => []
  | (k, b, _) :: r => (k, b, 0) :: r
section
variable (fa : Int → List Int → List Int) (fq : Int → List Int → Bool)
def oneD (s : Ms) (q : List Fr) : Dd → Ms
  | .act x => ⟨fa x s.bs, q, s.tr ++ [x]⟩
  | .choose x y n => ⟨s.bs, (.choose, if fq x s.bs then y else n, 0) :: q, s.tr ++ [x]⟩
  | .block c => ⟨s.bs, (.block, c, 0) :: q, s.tr⟩
  | .loop c => ⟨s.bs, (.loop, c, 0) :: q, s.tr⟩
  | .leave d => ⟨s.bs, (gb d q).tail, s.tr⟩
  | .again d => ⟨s.bs, rewind (gb d q), s.tr⟩
  | .stop => ⟨s.bs, [], s.tr⟩
def one (s : Ms) : Ms :=
  match s.p with
  | [] => s
  | (k, b, i) :: r => match b[i]? with
    | none => ⟨s.bs, r, s.tr⟩
    | some d => oneD fa fq s ((k, b, i + 1) :: r) d
def isStep : Dd → Bool
  | .act _ => true
  | .choose _ _ _ => true
  | _ => false
def asks (s : Ms) : Bool :=
  match s.p with
  | [] => false
  | (_, b, i) :: _ => match b[i]? with
    | some d => isStep d
    | none => false
def mu (most W : Nat) (s : Ms) : Nat := (most - s.tr.length) * (2 * (W + 2)) + (if nxA s.p then W + 2 else 0) + Mine.rem s.p
structure MInv (most W : Nat) (s : Ms) : Prop where
  p : PInv W s.p
  tr : s.tr.length ≤ most
variable {fa fq}
theorem mul_step {m t K : Nat} (h : t < m) : (m - t) * K = (m - (t + 1)) * K + K := by
  obtain ⟨x, rfl⟩ : ∃ x, m = t + 1 + x := ⟨m - (t + 1), by omega⟩
  have e1 : t + 1 + x - t = x + 1 := by omega
  have e2 : t + 1 + x - (t + 1) = x := by omega
  rw [e1, e2, Nat.succ_mul]
theorem one_ok {most W : Nat} {s : Ms} (h : MInv most W s) (hne : s.p ≠ []) (ha : asks s = true → s.tr.length < most) : MInv most W (one fa fq s) ∧ mu most W (one fa fq s) < mu most W s := by
  obtain ⟨bs, p, tr⟩ := s
  obtain ⟨hp, ht⟩ := h
  dsimp only at hp ht hne
  cases p with
  | nil => exact absurd rfl hne
  | cons f r =>
    obtain ⟨k, b, i⟩ := f
    cases hb : b[i]? with
    | none =>
      have e : one fa fq ⟨bs, (k, b, i) :: r, tr⟩ = ⟨bs, r, tr⟩ := by simp only [one, hb]
      rw [e]
      refine ⟨⟨hp.2.2.2, ht⟩, ?_⟩
      have h1 := nxA_under hp.2.1 hp.2.2.2
      have h2 : nxA ((k, b, i) :: r) = false := by simp only [nxA, hb]
      simp only [mu, h1, h2, Mine.rem]
      simp only [Bool.false_eq_true, if_false]
      omega
    | some d =>
      have e : one fa fq ⟨bs, (k, b, i) :: r, tr⟩ = oneD fa fq ⟨bs, (k, b, i) :: r, tr⟩ ((k, b, i + 1) :: r) d := by simp only [one, hb]
      rw [e]
      have hq : PInv W ((k, b, i + 1) :: r) := hp
      have hd := okA_get hp.1.1 hb
      have hw := wt_get hb
      have hr := PInv.rem hp
      simp only [Mine.rem] at hr
      have hpush : ∀ (k' : Kd) (c : List Dd), isSub d c → okL (dep ((k', c, 0) :: (k, b, i + 1) :: r)) c → PInv W ((k', c, 0) :: (k, b, i + 1) :: r) := fun k' c h1 h2 => ⟨h2, ⟨i, d, rfl, hb, h1⟩, (fun h => absurd h (List.cons_ne_nil _ _)), hq⟩
      have ho : isAgain d = false → mu most W ⟨bs, (k, b, i) :: r, tr⟩ = (most - tr.length) * (2 * (W + 2)) + (wd d + wt (b.drop (i + 1)) + 1 + Mine.rem r) := fun h => by
        simp only [mu, nxA, hb, h, Mine.rem, hw]; simp
      cases d with
      | act x =>
        have hlt : tr.length < most := ha (by simp only [asks, hb, isStep])
        refine ⟨⟨hq, by simp [oneD]; omega⟩, ?_⟩
        rw [ho rfl, mul_step hlt]
        have hg : (if nxA ((k, b, i + 1) :: r) = true then W + 2 else 0) ≤ W + 2 := by split <;> omega
        show (most - (tr ++ [x]).length) * (2 * (W + 2)) + (if nxA ((k, b, i + 1) :: r) = true then W + 2 else 0) + Mine.rem ((k, b, i + 1) :: r) < _
        revert hg
        generalize (if nxA ((k, b, i + 1) :: r) = true then W + 2 else 0) = g
        intro hg
        simp only [List.length_append, List.length_singleton, Mine.rem, wd]
        omega
      | choose x y n =>
        have hlt : tr.length < most := ha (by simp only [asks, hb, isStep])
        have hP : PInv W ((.choose, if fq x bs then y else n, 0) :: (k, b, i + 1) :: r) := by
          have hd' : (x = 2 ∨ x = 3) ∧ (okA (dep ((k, b, i) :: r)) y ∧ ag false y) ∧ okA (dep ((k, b, i) :: r)) n ∧ ag false n := by simpa only [okD] using hd
          split
          · exact hpush _ _ (.inl rfl) (by rw [show dep ((Kd.choose, y, 0) :: (k, b, i + 1) :: r) = dep ((k, b, i) :: r) from Nat.zero_add _]; exact hd'.2.1)
          · exact hpush _ _ (.inr rfl) (by rw [show dep ((Kd.choose, n, 0) :: (k, b, i + 1) :: r) = dep ((k, b, i) :: r) from Nat.zero_add _]; exact hd'.2.2)
        refine ⟨⟨hP, by simp [oneD]; omega⟩, ?_⟩
        have hz := nxA_zero hP
        have hR := PInv.rem hP
        rw [ho rfl, mul_step hlt]
        simp only [mu, oneD, List.length_append, List.length_singleton, hz]
        simp only [Bool.false_eq_true, if_false]
        omega
      | block c =>
        have hP : PInv W ((.block, c, 0) :: (k, b, i + 1) :: r) := by
          have hd' : okA (dep ((k, b, i) :: r) + 1) c ∧ ag false c := by simpa only [okD] using hd
          exact hpush _ _ rfl (by rw [show dep ((Kd.block, c, 0) :: (k, b, i + 1) :: r) = dep ((k, b, i) :: r) + 1 from Nat.add_comm 1 _]; exact hd')
        refine ⟨⟨hP, ht⟩, ?_⟩
        have hz := nxA_zero hP
        rw [ho rfl]
        simp only [mu, oneD, hz, Mine.rem, wd, List.drop_zero]
        simp only [Bool.false_eq_true, if_false]
        omega
      | loop c =>
        have hP : PInv W ((.loop, c, 0) :: (k, b, i + 1) :: r) := by
          have hd' : okA (dep ((k, b, i) :: r) + 1) c ∧ ag false c := by simpa only [okD] using hd
          exact hpush _ _ rfl (by rw [show dep ((Kd.loop, c, 0) :: (k, b, i + 1) :: r) = dep ((k, b, i) :: r) + 1 from Nat.add_comm 1 _]; exact hd')
        refine ⟨⟨hP, ht⟩, ?_⟩
        have hz := nxA_zero hP
        rw [ho rfl]
        simp only [mu, oneD, hz, Mine.rem, wd, List.drop_zero]
        simp only [Bool.false_eq_true, if_false]
        omega
      | leave x =>
        have hd' : x < dep ((k, b, i) :: r) := by simpa only [okD] using hd
        obtain ⟨k', b', i', r', e1, h1, h2⟩ := gb_ok hq (d := x) hd'
        have hz := nxA_under h1.2.1 h1.2.2.2
        rw [ho rfl]
        simp only [oneD, e1, List.tail_cons]
        refine ⟨⟨h1.2.2.2, ht⟩, ?_⟩
        simp only [mu, hz, wd]
        simp only [Mine.rem] at h2
        simp only [Bool.false_eq_true, if_false]
        omega
      | again x =>
        have hd' : x < dep ((k, b, i) :: r) := by simpa only [okD] using hd
        obtain ⟨k', b', i', r', e1, h1, h2⟩ := gb_ok hq (d := x) hd'
        have hz := nxA_zero h1
        have h3 : PInv W ((k', b', 0) :: r') := h1
        have hR := PInv.rem h3
        simp only [oneD, e1, rewind]
        refine ⟨⟨h3, ht⟩, ?_⟩
        have hf : nxA ((k, b, i) :: r) = true := by simp only [nxA, hb, isAgain]
        show (most - tr.length) * (2 * (W + 2)) + (if nxA ((k', b', 0) :: r') = true then W + 2 else 0) + Mine.rem ((k', b', 0) :: r') < (most - tr.length) * (2 * (W + 2)) + (if nxA ((k, b, i) :: r) = true then W + 2 else 0) + Mine.rem ((k, b, i) :: r)
        rw [hz, hf]
        simp only [Bool.false_eq_true, if_false, if_true]
        omega
      | stop =>
        refine ⟨⟨trivial, ht⟩, ?_⟩
        rw [ho rfl]
        simp only [mu, oneD, nxA, Mine.rem, wd]
        simp only [Bool.false_eq_true, if_false]
        omega
/-- the whole walk -/
inductive Runs (fa : Int → List Int → List Int) (fq : Int → List Int → Bool) (most : Nat) : Ms → Ms → Bool → Prop
  | over {s : Ms} : s.p = [] → Runs fa fq most s s true
  | full {s : Ms} : s.p ≠ [] → s.tr.length = most → asks s = true → Runs fa fq most s s false
  | step {s t : Ms} {o : Bool} : s.p ≠ [] → (asks s = true → s.tr.length ≠ most) → Runs fa fq most (one fa fq s) t o → Runs fa fq most s t o
theorem Runs.det {most : Nat} {s t t' : Ms} {o o' : Bool} (h : Runs fa fq most s t o) (h' : Runs fa fq most s t' o') : t = t' ∧ o = o' := by
  induction h with
  | over e =>
    cases h' with
    | over _ => exact ⟨rfl, rfl⟩
    | full e' => exact absurd e e'
    | step e' => exact absurd e e'
  | full e1 e2 e3 =>
    cases h' with
    | over e => exact absurd e e1
    | full _ _ _ => exact ⟨rfl, rfl⟩
    | step _ e' _ => exact absurd e2 (e' e3)
  | step e1 e2 _ ih =>
    cases h' with
    | over e => exact absurd e e1
    | full _ e3 e4 => exact absurd e3 (e2 e4)
    | step _ _ h'' => exact ih h''
end
/-! the rows in a body -/
mutual
def rowsD : Dd → List Int
  | .act r => [r]
  | .choose r y n => r :: (rowsL y ++ rowsL n)
  | .block b => rowsL b
  | .loop b => rowsL b
  | .leave _ => []
  | .again _ => []
  | .stop => []
def rowsL : List Dd → List Int
  | [] => []
  | d :: r => rowsD d ++ rowsL r
end
theorem rowsL_append : ∀ (a b : List Dd), rowsL (a ++ b) = rowsL a ++ rowsL b
  | [], b => rfl
  | d :: a, b => by simp only [List.cons_append, rowsL, rowsL_append a b, List.append_assoc]
theorem wt_append : ∀ (a b : List Dd), wt (a ++ b) = wt a + wt b
  | [], b => by simp [wt]
  | d :: a, b => by simp only [List.cons_append, wt, wt_append a b, Nat.add_assoc]
end
section
set_option autoImplicit false
set_option linter.unusedVariables false
set_option linter.unusedSimpArgs false
open PySem

def setB (B : MH) (a : Addr) (o : MO) : MH := fun b => if b = a then some o else B b
theorem setB_self {B : MH} {a : Addr} {o : MO} : setB B a o a = some o := by simp [setB]
theorem setB_ne {B : MH} {a b : Addr} {o : MO} (h : b ≠ a) : setB B a o b = B b := by simp [setB, h]
inductive Del : Own → Addr → MO → Own → Prop
  | head {a : Addr} {o : MO} {r : Own} : Del ((a, o) :: r) a o r
  | tail {a : Addr} {o : MO} {p : Addr × MO} {r r' : Own} : Del r a o r' → Del (p :: r) a o (p :: r')
/-- states that follow from a state -/
inductive Cv (md : List Addr) : St → St → Prop
  | refl (σ : St) : Cv md σ σ
  | trans {σ₁ σ₂ σ₃ : St} : Cv md σ₁ σ₂ → Cv md σ₂ σ₃ → Cv md σ₁ σ₃
  | loc {l l' : Loc} {B : MH} {own : Own} : (∀ x v, look l' x = some v → look l x = some v) → Cv md ⟨l, B, own⟩ ⟨l', B, own⟩
  | own {l : Loc} {B : MH} {own own₂ : Own} : own₂.Sublist own → Cv md ⟨l, B, own⟩ ⟨l, B, own₂⟩
  | perm {l : Loc} {B : MH} {own own₂ : Own} : own.Perm own₂ → Cv md ⟨l, B, own⟩ ⟨l, B, own₂⟩
  | frz {l : Loc} {B : MH} {a : Addr} {o : MO} {own : Own} : a ∉ md → Cv md ⟨l, B, (a, o) :: own⟩ ⟨l, setB B a o, own⟩

section
variable {C : Cx} {hb : Heap} {prog : Program} {w : World} {sc cs : Scope} {n : Nat} {md : List Addr} {fl : Bool} {x : Str} {σ : St}

theorem Holds.frz {s : Shared} {l : Loc} {B : MH} {a : Addr} {o : MO} {own : Own} (OK : C.Ok hb) (H : Holds C ⟨l, B, (a, o) :: own⟩ s) (ha : a ∉ C.mod) : Holds C ⟨l, setB B a o, own⟩ s := by
  have nd : (a :: (own.map (·.1) ++ C.fr)).Nodup := H.nodup
  have nd1 := List.nodup_cons.mp nd
  have hBa : B a = none := H.apartB a (.head _)
  have nal : ¬ C.al a := (H.ownNew (a, o) (.head _)).resolve_right ha
  exact {
    kp := H.kp, names := H.names, ns := H.ns, cells := H.cells, alive := H.alive, gens := H.gens, os := H.os, al := H.al
    B := fun b ob h => by
      by_cases hab : b = a
      · subst hab; have h : setB B b o b = some ob := h; rw [setB_self] at h; cases h; exact H.own (b, o) (.head _)
      · have h : setB B a o b = some ob := h; rw [setB_ne hab] at h; exact H.B b ob h
    own := fun p hp => H.own p (.tail _ hp)
    nodup := nd1.2
    apartB := fun b hb' => by
      show setB B a o b = none
      have hne : b ≠ a := fun e => by subst e; exact nd1.1 hb'
      rw [setB_ne hne]; exact H.apartB b (.tail _ hb')
    apartK := fun b hb' => H.apartK b (.tail _ hb')
    B0 := fun b ob h => by
      have := H.B0 b ob h
      show setB B a o b = some ob
      have hne : b ≠ a := fun e => by subst e; rw [show B b = some ob from this] at hBa; cases hBa
      rw [setB_ne hne]; exact this
    Bnew := fun b ob h => by
      by_cases hab : b = a
      · subst hab; exact .inr nal
      · have h : setB B a o b = some ob := h; rw [setB_ne hab] at h; exact H.Bnew b ob h
    ownNew := fun p hp => H.ownNew p (.tail _ hp)
    noB := fun b hb' => by
      show setB B a o b = none
      have hne : b ≠ a := fun e => by subst e; obtain ⟨ob, hob⟩ := OK.noKp b hb'; exact H.apartK b (.head _) ob hob
      rw [setB_ne hne]; exact H.noB b hb' }

theorem Holds.loc {s : Shared} {l l' : Loc} {B : MH} {own : Own} (H : Holds C ⟨l, B, own⟩ s) (h : ∀ x v, look l' x = some v → look l x = some v) : Holds C ⟨l', B, own⟩ s := { H with names := fun x v hx => H.names x v (h x v hx) }
theorem Cv.holds (OK : C.Ok hb) (hm : C.mod = md) {σ σ' : St} (c : Cv md σ σ') : ∀ {s : Shared}, Holds C σ s → Holds C σ' s := by
  induction c with
  | refl => exact id
  | trans _ _ ih1 ih2 => exact fun H => ih2 (ih1 H)
  | loc h => exact fun H => H.loc h
  | own h => exact fun H => H.drop (Sub0.rfl' _) H.B0 h
  | perm h => exact fun H => H.perm h
  | frz h => exact fun H => H.frz OK (hm ▸ h)
theorem Tr.cv {α β : Type} {t : Sem α} {R : β → α → Prop} {σ' : St} {Q : β → St → Prop} (F : Fx C hb prog w sc n md fl) (c : Cv md σ σ') (h : Tr C t R σ' Q) : Tr C t R σ Q := fun s H => h s (c.holds F.ok F.emod H)
theorem Sts_cv {sts : List Stmt} {σ' : St} {Q : MF → St → Prop} (F : Fx C hb prog w sc n md fl) (c : Cv md σ σ') (h : Sts C sts σ' Q) : Sts C sts σ Q := Tr.cv F c h
/-- the end of a function's text -/
def End (md : List Addr) (Q : MV → MH → Own → Prop) (r : MV) (σ : St) : Prop := ∃ σ₂, Cv md σ σ₂ ∧ Q r σ₂.B σ₂.own
theorem Contract.of {f : Addr} {ps : List Str} {body : List Stmt} {scope : Scope} {S : Spec} (F : FnIs hb f ps body scope) (hlim : hb.NoLimit)
    (hS : ∀ args B own Q, S args B own Q → args.length = ps.length)
    (h : ∀ (C : Cx) args B own Q, Fx C hb prog w scope n (own.map (·.1)) true → S args B own Q → Sts C body ⟨ps.zip args, B, own⟩ (fun fl σ' => End (own.map (·.1)) Q (retOf fl) σ')) : Contract prog w hb (.ref f) (n + 1) S := by
  refine Contract.intro F hlim hS fun C OK h1 h2 h3 h4 h5 h6 args B own Q hm hB0 hs => ?_
  intro s H
  have F' : Fx C hb prog w scope n (own.map (·.1)) true := ⟨OK, h1, h2, h3, h4, hm, fun x hx => hx.elim (h6 x) fun e => absurd e (F.noFree x), fun _ x hx => let ⟨c, hc⟩ := h6 x hx; ⟨c, hc, h5 x c hc⟩⟩
  refine wpAny_mono (h C args B own Q F' hs s H) (fun fl s' hpat => ?_) fun _ _ x => x
  obtain ⟨b, σ', hf, H', σ₂, cv, hq⟩ := hpat
  exact ⟨b, σ₂, hf, cv.holds OK hm H', hq⟩

theorem if_dec {p : Prop} [Decidable p] {A B : Prop} (h1 : p → A) (h2 : ¬ p → B) : if decide p = true then A else B := by
  by_cases h : p
  · rw [if_pos (by simpa using h)]; exact h1 h
  · rw [if_neg (by simpa using h)]; exact h2 h
theorem if_tt {A B : Prop} (h : A) : if true = true then A else B := h
theorem if_ff {A B : Prop} (h : B) : if false = true then A else B := h
theorem if_ntt {A B : Prop} (h : B) : if (!true) = true then A else B := h
theorem if_pos' {p : Prop} [Decidable p] {A B : Prop} (hp : p) (h : A) : if decide p = true then A else B := by rw [if_pos (by simpa using hp)]; exact h
theorem if_neg' {p : Prop} [Decidable p] {A B : Prop} (hp : ¬ p) (h : B) : if decide p = true then A else B := by rw [if_neg (by simpa using hp)]; exact h
end

section
variable {C : Cx} {hb : Heap} {prog : Program} {w : World} {sc cs : Scope} {n : Nat} {md : List Addr} {fl : Bool} {x : Str} {σ : St}
theorem Ex_ListF {elts : List Expr} {pos : Pos} {Q : MV → St → Prop} (F : Fx C hb prog w sc n md fl) (h : Exs C pos elts σ (fun vs σ' => vs.length ≤ lim ∧ ∀ a, Fsh md σ' a → Q (.ref a) { σ' with own := (a, .list vs) :: σ'.own })) : Ex C (.List elts pos) σ Q :=
  Ex_List F.ok (by rw [F.emod]; exact h)
theorem Ex_TupleF {elts : List Expr} {k : Nat} {pos : Pos} {Q : MV → St → Prop} (F : Fx C hb prog w sc n md fl) (h : Exs C pos elts σ (fun vs σ' => vs.length ≤ lim ∧ ∀ a, Fsh md σ' a → Q (.ref a) { σ' with own := (a, .tup vs) :: σ'.own })) : Ex C (.Tuple elts k pos) σ Q :=
  Ex_Tuple F.ok (by rw [F.emod]; exact h)
theorem Call_listF {a : Addr} {xs : List MV} {Q : MV → St → Prop} (F : Fx C hb prog w sc n md fl) (hh : Has σ a (.list xs)) (h : ∀ b, Fsh md σ b → Q (.ref b) { σ with own := (b, .list xs) :: σ.own }) : CallV C (.type "list") [.ref a] σ Q :=
  Call_list_list F.ok hh (by rw [F.emod]; exact h)
theorem and_lim {vs : List MV} {P : Prop} (h : vs.length ≤ lim) (h' : P) : vs.length ≤ lim ∧ P := ⟨h, h'⟩
theorem put_capt {l l₁ l₂ : Loc} {m : MV} (h1 : capt cs l = l₁) (h2 : put l₁ x m = l₂) : put (capt cs l) x m = l₂ := by rw [h1]; exact h2
theorem Ex_le {e : Expr} {l l' : Loc} {B : MH} {own : Own} {Q : MV → St → Prop} (h : l = l') (h' : Ex C e ⟨l', B, own⟩ Q) : Ex C e ⟨l, B, own⟩ Q := h ▸ h'
theorem Ts_le {e : Expr} {l l' : Loc} {B : MH} {own : Own} {Q : Bool → St → Prop} (h : l = l') (h' : Ts C e ⟨l', B, own⟩ Q) : Ts C e ⟨l, B, own⟩ Q := h ▸ h'
theorem CTs_nil {Q : Bool → St → Prop} (h : Q true σ) : CTs C [] σ Q := h
theorem CTs_cons {c : Expr} {r : List Expr} {Q : Bool → St → Prop} (h : Ts C c σ (fun b σ' => if b then CTs C r σ' Q else Q false σ')) : CTs C (c :: r) σ Q := h
def SetG (C : Cx) (v o i : MV) (σ : St) (Q : MF → St → Prop) : Prop := ∀ s, Holds C σ s → ∀ vv vo vi, VR v vv → VR o vo → VR i vi → wpAny (model C.prog C.w) C.A (setItem vo vi vv) (fun _ s' => ∃ σ', Holds C σ' s' ∧ Q .next σ') (fun _ _ => False) s
theorem Stm_SetI {o i e : Expr} {p' pos : Pos} {Q : MF → St → Prop} (hs : swapsWith e (some (.Subscript o i p')) pos.line C.env = pure false)
    (h : Ex C e σ (fun v σ₁ => Ex C o σ₁ (fun ov σ₂ => Ex C i σ₂ (fun iv σ₃ => SetG C v ov iv σ₃ Q)))) : Stm C (.Assign [.Subscript o i p'] e pos) σ Q := Stm_SetItem hs h
theorem SetG_list {a : Addr} {xs : List MV} {k : Int} {m : MV} {own' : Own} {Q : MF → St → Prop} (F : Fx C hb prog w sc n md fl) (u : Upd σ.own a (.list xs) (.list (xs.set k.toNat m)) own') (h0 : 0 ≤ k) (h1 : k < xs.length) (h : Q .next { σ with own := own' }) :
    SetG C m (.ref a) (.int k) σ Q := SetItem_list F.ok u h0 h1 h
theorem mem_hd {p : Addr × MO} {l : Own} : p ∈ p :: l := List.mem_cons_self
theorem mem_tl {p q : Addr × MO} {l : Own} (h : p ∈ l) : p ∈ q :: l := List.mem_cons_of_mem _ h
structure FnO (prog : Program) (w : World) (hb : Heap) (f : Str) (n : Nat) (S : Spec) : Prop where
  c : FnC prog w hb f n S
theorem Ex_CallO {f : Str} {p pos : Pos} {e : Expr} {rest : List Expr} {k : Nat} {S : Spec} {Q : MV → St → Prop} (F : Fx C hb prog w sc n md fl) (hf : FnO prog w hb f k S) (hk : sc.names.lookup f = some .globalImplicit) (hn : k ≤ n)
    (he : starEach (e :: rest) C.env = (false, eval e C.env) :: starEach rest C.env)
    (h : Exs C pos (e :: rest) σ (fun vs σ₁ => ∃ own₁ rest', σ₁.own.Perm (own₁ ++ rest') ∧ S vs σ₁.B own₁ (fun m B' own' => Q m { σ₁ with B := B', own := own' ++ rest' }))) : Ex C (.Call (.Name f p) (e :: rest) [] pos) σ Q := Ex_CallCo F hf.c hk hn he h
theorem gStm {es : Stmt} {Q : MF → St → Prop} (h : Stm C es σ Q) : Stm C es σ Q := h
theorem interactive_false (F : Fx C hb prog w sc n md fl) : interactive C.env = false := by unfold interactive; rw [F.ok.kind]; rfl
theorem mul_small {a b : Int} (h : b.natAbs < 1000000) : IntMulOk a b := IntMulOk.of_right (PyProof.Rows.intBits_le (by omega))
theorem log2_small {b : Int} (h : b.natAbs < 1073741824) : b.natAbs.log2 < 9000 := by
  by_cases h0 : b.natAbs = 0
  · rw [h0]; decide
  · have := (Nat.log2_lt h0 (k := 30)).mpr (by omega); omega
end
end
section
set_option autoImplicit false
set_option linter.unusedVariables false
set_option linter.unusedSimpArgs false
open PySem

section
variable {C : Cx} {hb : Heap} {prog : Program} {w : World} {sc cs : Scope} {n : Nat} {md : List Addr} {fl : Bool} {x : Str} {σ : St}

theorem look_append {l r : Loc} {y : Str} {v : MV} (h : look l y = some v) : look (l ++ r) y = some v := by
  induction l with
  | nil => simp [look] at h
  | cons p l ih =>
    obtain ⟨z, u⟩ := p
    simp only [List.cons_append, look] at h ⊢
    split
    · rename_i e; rw [if_pos e] at h; exact h
    · rename_i e; rw [if_neg e] at h; exact ih h
theorem Cv.pre {l₀ l : Loc} (r : Loc) {B : MH} {own : Own} (h : l₀ = l ++ r) : Cv md ⟨l₀, B, own⟩ ⟨l, B, own⟩ := .loc fun y v hy => h ▸ look_append hy
theorem Cv.none {l : Loc} {B : MH} {own : Own} : Cv md ⟨l, B, own⟩ ⟨l, B, []⟩ := .own (List.nil_sublist _)
theorem Cv.tl {l : Loc} {B : MH} {own : Own} {p : Addr × MO} : Cv md ⟨l, B, p :: own⟩ ⟨l, B, own⟩ := .own (List.sublist_cons_self ..)
theorem Store_cv {y : Str} {m : MV} {σ' : St} {Q : St → Prop} (F : Fx C hb prog w sc n md fl) (c : Cv md σ σ') (h : Store C y m σ' Q) : Store C y m σ Q := fun v hv => Tr.cv F c (h v hv)
theorem Ts_cv {e : Expr} {σ' : St} {Q : Bool → St → Prop} (F : Fx C hb prog w sc n md fl) (c : Cv md σ σ') (h : Ts C e σ' Q) : Ts C e σ Q := Tr.cv F c h

/-- a turn's end -/
def Tn (md : List Addr) (J : St → Prop) (σ : St) : Prop := ∃ σ₀, Cv md σ σ₀ ∧ J σ₀

theorem Stm_ForC {px pos : Pos} {iter : Expr} {body orelse : List Stmt} {Q : MF → St → Prop} (F : Fx C hb prog w sc n md fl) (hs : ∀ v, foldedSetIterable iter C.env v = pure v)
    (h : Ex C iter σ (fun v σ₁ => ∃ (items : List MV) (J : Nat → St → Prop), Itr σ₁ v items ∧ Tn md (J 0) σ₁ ∧
      (∀ C', Fx C' hb prog w sc n md fl → ∀ i σ' m, J i σ' → items[i]? = some m → Store C' x m σ' (fun σ₂ => Sts C' body σ₂ (fun f σ₃ => match f with | .next => Tn md (J (i + 1)) σ₃ | .ret v => Q (.ret v) σ₃))) ∧
      (∀ C', Fx C' hb prog w sc n md fl → ∀ σ', J items.length σ' → Sts C' orelse σ' Q))) : Stm C (.For (.Name x px) iter body orelse pos) σ Q := by
  refine Stm_For F hs (Tr.mono h fun v σ₁ ⟨items, J, it, J0, turn, fin⟩ => ⟨items, fun i => Tn md (J i), it, J0, ?_, ?_⟩)
  · intro C' F' i σ' m ⟨σ₀, c, hJ⟩ hm
    exact Store_cv F' c (turn C' F' i σ₀ m hJ hm)
  · intro C' F' σ' ⟨σ₀, c, hJ⟩
    exact Sts_cv F' c (fin C' F' σ₀ hJ)

theorem Stm_WhileC {test : Expr} {body orelse : List Stmt} {pos : Pos} {Q : MF → St → Prop} (F : Fx C hb prog w sc n md fl) (I : Nat → St → Prop)
    (turn : ∀ k σ', I k σ' → Ts C test σ' (fun b σ₁ => if b then Sts C body σ₁ (fun f σ₂ => match f with | .next => Tn md (fun σ₃ => ∃ m, m < k ∧ I m σ₃) σ₂ | .ret v => Q (.ret v) σ₂) else Sts C orelse σ₁ Q))
    (k : Nat) (h : Tn md (I k) σ) : Stm C (.While test body orelse pos) σ Q := by
  refine Stm_While (fun k => Tn md (I k)) ?_ k h
  rintro k σ' ⟨σ₀, c, hI⟩
  refine Ts_cv F c (Tr.mono (turn k σ₀ hI) fun b σ₁ hb' => ?_)
  cases b with
  | false => exact hb'
  | true =>
    refine Tr.mono (show Sts C body σ₁ _ from hb') fun f σ₂ h₂ => ?_
    cases f with
    | next => obtain ⟨σ₃, c', m, hm, hI'⟩ := h₂; exact ⟨m, hm, σ₃, c', hI'⟩
    | ret v => exact h₂

def TurnsC (hb : Heap) (prog : Program) (w : World) (sc cs : Scope) (n : Nat) (md : List Addr) (x : Str) (ifs : List Expr) (elt : Expr) (items : List MV) (l : Loc) (J : Nat → List MV → MH → Own → Prop) : Prop :=
  ∀ C', Fx C' hb prog w (relab cs sc) n md false → ∀ i ys B own m, J i ys B own → items[i]? = some m →
      CTs C' ifs ⟨put (capt cs l) x m, B, own⟩ (fun ok σ₁ => if ok then Ex C' elt σ₁ (fun y σ₂ => ∃ σ₃, Cv md σ₂ σ₃ ∧ J (i + 1) (ys ++ [y]) σ₃.B σ₃.own) else ∃ σ₃, Cv md σ₁ σ₃ ∧ J (i + 1) ys σ₃.B σ₃.own)

theorem Tr.post {α β : Type} {t : Sem α} {R : β → α → Prop} {Q : β → St → Prop} (F : Fx C hb prog w sc n md fl) (h : Tr C t R σ (fun b σ' => ∃ σ'', Cv md σ' σ'' ∧ Q b σ'')) : Tr C t R σ Q := fun s H =>
  wpAny_mono (h s H) (fun a s' ⟨b, σ', hr, H', σ'', c, hq⟩ => ⟨b, σ'', hr, c.holds F.ok F.emod H', hq⟩) fun _ _ x => x
theorem turns_of {ifs : List Expr} {elt : Expr} {items : List MV} {l : Loc} {J : Nat → List MV → MH → Own → Prop} (h : TurnsC hb prog w sc cs n md x ifs elt items l J) :
    CompTurns hb prog w sc cs n md x ifs elt items (fun i ys σ => σ.loc = l ∧ J i ys σ.B σ.own) := by
  intro C' F' i ys σ' m ⟨hl, hJ⟩ hm
  have key := h C' F' i ys σ'.B σ'.own m hJ hm
  subst hl
  have : ∀ (ifs : List Expr) (σ₁ : St), CTs C' ifs σ₁ (fun ok σ₁ => if ok then Ex C' elt σ₁ (fun y σ₂ => ∃ σ₃, Cv md σ₂ σ₃ ∧ J (i + 1) (ys ++ [y]) σ₃.B σ₃.own) else ∃ σ₃, Cv md σ₁ σ₃ ∧ J (i + 1) ys σ₃.B σ₃.own) →
      CTs C' ifs σ₁ (fun ok σ₁ => if ok then Ex C' elt σ₁ (fun y σ₂ => σ'.loc = σ'.loc ∧ J (i + 1) (ys ++ [y]) σ₂.B σ₂.own) else σ'.loc = σ'.loc ∧ J (i + 1) ys σ₁.B σ₁.own) := by
    intro ifs
    induction ifs with
    | nil =>
      intro σ₁ h
      have h' : Ex C' elt σ₁ (fun y σ₂ => ∃ σ₃, Cv md σ₂ σ₃ ∧ J (i + 1) (ys ++ [y]) σ₃.B σ₃.own) := h
      have h2 : Ex C' elt σ₁ (fun y σ₂ => σ'.loc = σ'.loc ∧ J (i + 1) (ys ++ [y]) σ₂.B σ₂.own) := Tr.post F' (Tr.mono h' fun y σ₄ ⟨σ₃, c3, hj⟩ => ⟨σ₃, c3, rfl, hj⟩)
      exact h2
    | cons t r ih =>
      intro σ₁ h
      refine Tr.post F' (Tr.mono (show Ts C' t σ₁ _ from h) fun b σ₄ h₄ => ?_)
      cases b with
      | true => exact ⟨σ₄, .refl _, ih σ₄ h₄⟩
      | false => obtain ⟨σ₃, c3, hj⟩ := (h₄ : ∃ σ₃, Cv md σ₄ σ₃ ∧ _); exact ⟨σ₃, c3, rfl, hj⟩
  exact this ifs _ key

def CompPost (hb : Heap) (prog : Program) (w : World) (sc cs : Scope) (n : Nat) (md : List Addr) (x : Str) (ifs : List Expr) (elt : Expr) (R : List MV → MH → Own → Loc → Prop) (v : MV) (σ₁ : St) : Prop :=
  ∃ (items : List MV) (J : Nat → List MV → MH → Own → Prop), Itr σ₁ v items ∧ items.length ≤ lim ∧ J 0 [] σ₁.B σ₁.own ∧ TurnsC hb prog w sc cs n md x ifs elt items σ₁.loc J ∧ ∀ ys B own, J items.length ys B own → R ys B own σ₁.loc

theorem Stm_Comp {elt iter : Expr} {y : Str} {py px pos spos : Pos} {ifs : List Expr} {Q : MF → St → Prop} (F : Fx C hb prog w sc n md fl) (K : CompOk cs sc x) (hs : ∀ v, foldedSetIterable iter C.env v = pure v)
    (hsw : swapsWith (.ListComp elt [⟨.Name x px, iter, ifs, 0⟩] cs pos) (some (.Name y py)) spos.line C.env = pure true)
    (h : Ex C iter σ (CompPost hb prog w sc cs n md x ifs elt (fun ys B own l => ∀ C', Fx C' hb prog w sc n md fl → ∀ a, Fsh md ⟨l, B, own⟩ a → Store C' y (.ref a) ⟨l, B, (a, .list ys) :: own⟩ (fun σ'' => Q .next σ'')))) :
    Stm C (.Assign [.Name y py] (.ListComp elt [⟨.Name x px, iter, ifs, 0⟩] cs pos) spos) σ Q := by
  refine Stm_AssignComp F K hs hsw (Tr.mono h fun v σ₁ ⟨items, J, it, hl, J0, turn, fin⟩ => ⟨items, _, it, hl, ⟨rfl, J0⟩, turns_of turn, ?_⟩)
  rintro C' F' ys ⟨l, B, own⟩ ⟨hl', hJ⟩ a ha
  dsimp only at hl' hJ
  subst hl'
  exact fin ys B own hJ C' F' a ha
theorem if_ntrue {p : Prop} [Decidable p] {A B : Prop} (hp : p) (h : B) : if (!decide p) = true then A else B := by rw [if_neg (by simp [hp])]; exact h
theorem if_nfalse {p : Prop} [Decidable p] {A B : Prop} (hp : ¬ p) (h : A) : if (!decide p) = true then A else B := by rw [if_pos (by simp [hp])]; exact h
def App2 (C : Cx) (a : Addr) (v : MV) (σ : St) (Q : MV → St → Prop) : Prop := ∃ ys own', Upd σ.own a (.list ys) (.list (ys ++ [v])) own' ∧ ys.length + 1 ≤ lim ∧ Q .none { σ with own := own' }
def AppG (C : Cx) (ov : MV) (e : Expr) (σ : St) (Q : MV → St → Prop) : Prop := ∃ a xs, ov = .ref a ∧ Has σ a (.list xs) ∧ Ex C e σ (fun v σ₂ => App2 C a v σ₂ Q)
theorem Ex_appG {o e : Expr} {apos pos : Pos} {Q : MV → St → Prop} (F : Fx C hb prog w sc n md fl) (hbase : attributeBase o "append" C.env (eval o C.env) = eval o C.env) (hline : (apos.endLine == pos.line) = true)
    (he : backTo pos (starEach [e] C.env) = [(false, eval e C.env)]) (h : Ex C o σ (fun ov σ₁ => AppG C ov e σ₁ Q)) : Ex C (.Call (.Attribute o "append" apos) [e] [] pos) σ Q := Ex_append F.ok hbase hline he h
theorem AppG_i {a : Addr} {xs : List MV} {e : Expr} {Q : MV → St → Prop} (hh : Has σ a (.list xs)) (h : Ex C e σ (fun v σ₂ => App2 C a v σ₂ Q)) : AppG C (.ref a) e σ Q := ⟨a, xs, rfl, hh, h⟩
theorem App2_i {a : Addr} {v : MV} {ys : List MV} {own' : Own} {Q : MV → St → Prop} (u : Upd σ.own a (.list ys) (.list (ys ++ [v])) own') (hl : ys.length + 1 ≤ lim) (h : Q .none { σ with own := own' }) : App2 C a v σ Q := ⟨ys, own', u, hl, h⟩
theorem Cmp_eqBool {a b : Bool} {Q : MV → St → Prop} (h : Q (.bool (a == b)) σ) : Cmp C .Eq (.bool a) (.bool b) σ Q := fun va vb ha hb s H => by
  obtain rfl : va = _ := ha; obtain rfl : vb = _ := hb
  exact PyProof.Rows.eq_bool ⟨.bool (a == b), σ, rfl, H, h⟩
theorem SubG_ro {a : Addr} {xs : List MV} {k : Int} {m : MV} {Q : MV → St → Prop} (hh : Has σ a (.ro xs)) (h0 : 0 ≤ k) (hm : xs[k.toNat]? = some m) (h : Q m σ) : SubG C (.ref a) (.int k) σ Q := fun s H vo vi ho hi => by
  obtain rfl : vo = .ref a := ho
  obtain ⟨t, rfl⟩ := hi
  obtain ⟨vs, hl, hr, hlim⟩ := H.has hh
  obtain ⟨v, hv, hvr⟩ := hr.get hm
  have hlt : k.toNat < xs.length := (List.getElem?_eq_some_iff.mp hm).1
  refine ⟨"list", _, hl.typeIs, list_getitem_lookup, wpAny_getItem_list hl h0 ?_ (by rw [← Array.getElem?_toList]; exact hv) ⟨m, σ, hvr, H, h⟩⟩
  unfold lim at hlim; omega
theorem Call_len_ro {a : Addr} {xs : List MV} {Q : MV → St → Prop} (hh : Has σ a (.ro xs)) (h : Q (.int xs.length) σ) : CallV C (.builtin "len") [.ref a] σ Q := fun vs hvs s H => by
  obtain ⟨v, rfl, hv⟩ := hvs.one
  obtain rfl : v = .ref a := hv
  obtain ⟨vs, hl, hr, hlim⟩ := H.has hh
  have hsz : vs.size = xs.length := by have := hr.length; simp at this; exact this.symm
  refine Calls.call_len_list hl (by rw [hsz]; exact lim_lt63 hlim) ⟨.int xs.length, σ, ?_, H.toks _, h⟩
  rw [hsz]; exact ⟨_, rfl⟩
end
end
section
set_option autoImplicit false
set_option linter.unusedVariables false
set_option linter.unusedSimpArgs false
open PySem PySem.SeqAt

/-! dictionaries -/
def mvOf : Value → MV
  | .none => .none
  | .bool b => .bool b
  | .int i _ => .int i
  | .str x _ => .str x
  | .ref a => .ref a
  | v => .oth v
theorem mvOf_of {m : MV} {v : Value} (h : VR m v) (hm : ∀ u, m ≠ .oth u) : mvOf v = m := by
  cases m with
  | none => obtain rfl : v = _ := h; rfl
  | bool b => obtain rfl : v = _ := h; rfl
  | int i => obtain ⟨t, rfl⟩ := h; rfl
  | str x => obtain ⟨t, rfl⟩ := h; rfl
  | ref a => obtain rfl : v = _ := h; rfl
  | oth u => exact absurd rfl (hm u)
theorem vsR_any {xs : List MV} {vs : List Value} (h : VsR xs vs) (e : MV → Bool) (hx : ∀ y ∈ xs, ∀ u, y ≠ .oth u) : (∀ v ∈ vs, VR (mvOf v) v ∧ mvOf v ∈ xs) ∧ vs.any (fun v => e (mvOf v)) = xs.any e := by
  induction h with
  | nil => exact ⟨fun v hv => (nomatch hv), rfl⟩
  | @cons m v ms vs' hv hvs ih =>
    have e1 := mvOf_of hv (hx m List.mem_cons_self)
    obtain ⟨i1, i2⟩ := ih fun y hy => hx y (List.mem_cons_of_mem _ hy)
    refine ⟨fun u hu => ?_, by simp only [List.any_cons, e1, i2]⟩
    rcases List.mem_cons.mp hu with rfl | hu
    · rw [e1]; exact ⟨hv, List.mem_cons_self⟩
    · exact ⟨(i1 u hu).1, List.mem_cons_of_mem _ (i1 u hu).2⟩

section
variable {C : Cx} {hb : Heap} {prog : Program} {w : World} {sc cs : Scope} {n : Nat} {md : List Addr} {fl : Bool} {x : Str} {σ : St}

/-! lists -/
theorem Ex_pop {o : Expr} {apos pos : Pos} {Q : MV → St → Prop} (F : Fx C hb prog w sc n md fl) (hbase : attributeBase o "pop" C.env (eval o C.env) = eval o C.env) (hline : (apos.endLine == pos.line) = true)
    (h : Ex C o σ (fun ov σ₁ => ∃ a xs m own', ov = .ref a ∧ Upd σ₁.own a (.list (xs ++ [m])) (.list xs) own' ∧ Q m { σ₁ with own := own' })) :
    Ex C (.Call (.Attribute o "pop" apos) [] [] pos) σ Q := fun s H => by
  refine wpAny_Call_method0_late hbase hline (wpAny_mono (h s H) (fun vo s₁ hpat => ?_) fun _ _ x => x)
  obtain ⟨ov, σ₁, ho, H₁, a, xs, m, own', e1, u, hq⟩ := hpat
  subst e1
  obtain rfl : vo = .ref a := ho
  obtain ⟨vs, nn, hob, hr, hlim⟩ := H₁.own _ u.mem
  have hsz : vs.size = xs.length + 1 := by have := hr.length; simp at this; exact this.symm
  obtain ⟨v, hv, hvr⟩ := hr.get (i := xs.length) (m := m) (by simp)
  refine ⟨"list", _, PySem.F.plainAttrs_list, PySem.F.slot_list_pop, PySem.F.type_list_pop, ⟨_, hob, rfl⟩, fun b e' => by cases e'; exact ⟨_, hob, rfl⟩, ?_⟩
  refine P.pop_list hob (y := v) (by rw [hsz, ← Array.getElem?_toList]; simpa using hv) ⟨m, _, hvr, H₁.upd F.ok u (fun b ob hb' e' => by rw [Heap.get?_update_other _ _ (Ne.symm hb')]; exact e') ?_ rfl rfl, hq⟩ (by rw [hsz]; simp at hlim; exact Nat.le_trans hlim lim_le)
  refine ⟨vs.eraseIdxIfInBounds (vs.size - 1), _, IsL.update hob fun xs => xs.eraseIdxIfInBounds (vs.size - 1), ?_, by simp at hlim; omega⟩
  have e : (vs.eraseIdxIfInBounds (vs.size - 1)).toList = vs.toList.take xs.length := by
    unfold Array.eraseIdxIfInBounds
    rw [dif_pos (by omega)]
    rw [Array.toList_eraseIdx, hsz, List.eraseIdx_eq_take_drop_succ]
    simp [hsz]
  rw [e]
  have := hr.take xs.length
  simpa using this
theorem EqM.noOth {m m' : MV} {b : Bool} (h : EqM σ m m' b) : ∀ u, m ≠ .oth u := fun u e => by subst e; cases h
theorem Holds.thaw {s : Shared} {a : Addr} {o : MO} (OK : C.Ok hb) (H : Holds C σ s) (ha : σ.B a = some o) (h0 : C.B0 a = none) (hK : ∀ o', ¬ C.kp a o') : Holds C ⟨σ.loc, fun b => if b = a then none else σ.B b, (a, o) :: σ.own⟩ s := by
  have hno : a ∉ σ.own.map (·.1) ++ C.fr := fun hm => by rw [H.apartB a hm] at ha; cases ha
  have hal : ¬ C.al a := by
    rcases H.Bnew a o ha with h | h
    · rw [h0] at h; cases h
    · exact h
  have hsub : ∀ b o', (if b = a then none else σ.B b) = some o' → σ.B b = some o' := fun b o' hb' => by
    split at hb'
    · cases hb'
    · exact hb'
  exact {
    kp := H.kp, names := H.names, ns := H.ns, cells := H.cells, alive := H.alive, gens := H.gens, os := H.os, al := H.al
    B := fun b o' hb' => H.B b o' (hsub b o' hb')
    own := fun p hp => by
      rcases List.mem_cons.mp hp with rfl | hp
      · exact H.B a o ha
      · exact H.own p hp
    nodup := List.nodup_cons.mpr ⟨hno, H.nodup⟩
    apartB := fun b hb' => by
      show (if b = a then none else σ.B b) = none
      rcases List.mem_cons.mp hb' with rfl | hb'
      · exact if_pos rfl
      · split
        · rfl
        · exact H.apartB b hb'
    apartK := fun b hb' o' hk => by
      rcases List.mem_cons.mp hb' with rfl | hb'
      · exact hK o' hk
      · exact H.apartK b hb' o' hk
    B0 := fun b o' hb' => by
      show (if b = a then none else σ.B b) = some o'
      rw [if_neg (fun e => by subst e; rw [h0] at hb'; cases hb')]; exact H.B0 b o' hb'
    Bnew := fun b o' hb' => H.Bnew b o' (hsub b o' hb')
    ownNew := fun p hp => by
      rcases List.mem_cons.mp hp with rfl | hp
      · exact .inl hal
      · exact H.ownNew p hp
    noB := fun b hb' => by
      show (if b = a then none else σ.B b) = none
      split
      · rfl
      · exact H.noB b hb' }
end
end
section
set_option autoImplicit false
set_option linter.unusedVariables false
set_option linter.unusedSimpArgs false
open PySem

def unB (B : MH) (a : Addr) : MH := fun b => if b = a then none else B b
theorem unB_ne {B : MH} {a b : Addr} (h : b ≠ a) : unB B a b = B b := by simp [unB, h]

section
variable {C : Cx} {hb : Heap} {prog : Program} {w : World} {sc cs : Scope} {n : Nat} {md : List Addr} {fl : Bool} {x : Str} {σ : St}

theorem Call_intBool {b : Bool} {Q : MV → St → Prop} (h : Q (.int (if b then 1 else 0)) σ) : CallV C (.type "int") [.bool b] σ Q := fun vs hvs s H => by
  obtain ⟨v, rfl, hv⟩ := hvs.one
  obtain rfl : v = .bool b := hv
  exact call_int_bool ⟨.int _, σ, ⟨_, rfl⟩, H.toks _, h⟩

/-- an owned object is lent as a frozen one -/
theorem Tr.borrow {α β : Type} {t : Sem α} {R : β → α → Prop} {l : Loc} {B : MH} {a : Addr} {o : MO} {own : Own} {Q : β → St → Prop} (F : Fx C hb prog w sc n md fl) (ha : a ∉ md)
    (h : Tr C t R ⟨l, setB B a o, own⟩ (fun r σ' => σ'.B a = some o ∧ Q r ⟨σ'.loc, unB σ'.B a, (a, o) :: σ'.own⟩)) : Tr C t R ⟨l, B, (a, o) :: own⟩ Q := fun s H => by
  have H1 := H.frz F.ok (by rw [F.emod]; exact ha)
  have hB0 : C.B0 a = none := by
    cases e : C.B0 a with
    | none => rfl
    | some o' =>
      have h1 := H.B0 a o' e
      have h2 := H.apartB a (List.mem_append_left _ List.mem_cons_self)
      rw [h2] at h1; cases h1
  refine wpAny_mono (h s H1) (fun v s' ⟨b, σ', hr, H', hba, hq⟩ => ⟨b, _, hr, ?_, hq⟩) fun _ _ x => x
  exact H'.thaw F.ok hba hB0 (H.apartK a (List.mem_append_left _ List.mem_cons_self))

/-- what every state keeps: owned objects are not frozen, and are apart -/
theorem Tr.facts {α β : Type} {t : Sem α} {R : β → α → Prop} {Q : β → St → Prop} (h : (∀ a ∈ σ.own.map (·.1), σ.B a = none) → (σ.own.map (·.1)).Nodup → Tr C t R σ Q) : Tr C t R σ Q := fun s H =>
  h (fun a ha => H.apartB a (List.mem_append_left _ ha)) (List.nodup_append.mp H.nodup).1 s H
theorem Sts_facts {b : List Stmt} {Q : MF → St → Prop} (h : (∀ a ∈ σ.own.map (·.1), σ.B a = none) → (σ.own.map (·.1)).Nodup → Sts C b σ Q) : Sts C b σ Q := Tr.facts h
theorem Stm_facts {b : Stmt} {Q : MF → St → Prop} (h : (∀ a ∈ σ.own.map (·.1), σ.B a = none) → (σ.own.map (·.1)).Nodup → Stm C b σ Q) : Stm C b σ Q := Tr.facts h
end
end
section
set_option autoImplicit false
set_option linter.unusedVariables false
set_option linter.unusedSimpArgs false
open PySem

/-! sets of ints as dictionaries -/
/-! small sums -/
theorem lim_ok {a n : Nat} (h : a ≤ n) (hn : n ≤ 1000) : a + 1 ≤ lim := Nat.le_trans (Nat.succ_le_succ (Nat.le_trans h hn)) (by unfold lim; decide)
theorem lim_map {α : Type} {g : α → MV} {l : List α} (h : l.length + 1 ≤ lim) : (l.map g).length + 1 ≤ lim := by rw [List.length_map]; exact h

/-! reaching -/
inductive Rch (E : Int → Int → Prop) (ok : Int → Prop) (s : Int) : Int → Prop
  | refl : Rch E ok s s
  | step {a b : Int} : Rch E ok s a → E a b → ok b → Rch E ok s b
structure DInv (E : Int → Int → Prop) (ok : Int → Prop) (s : Int) (n : Nat) (found W : List Int) (c : Int) (rest : List (Option Int)) : Prop where
  start : s ∈ found
  sound : ∀ a ∈ found, Rch E ok s a
  rng : ∀ a ∈ found, 0 ≤ a ∧ a < n
  nd : found.Nodup
  sub : ∀ a ∈ W, a ∈ found
  clo : ∀ a ∈ found, ∀ b, E a b → ok b → b ∈ found ∨ a ∈ W ∨ (a = c ∧ some b ∈ rest)
  cf : c ∈ found
  cE : ∀ b, some b ∈ rest → E c b
section
variable {E : Int → Int → Prop} {ok : Int → Prop} {s : Int} {n : Nat} {found W : List Int} {c : Int} {rest : List (Option Int)}
end

open PySem
end
section
set_option autoImplicit false
set_option linter.unusedVariables false
set_option linter.unusedSimpArgs false
open PySem
section
variable {C : Cx} {hb : Heap} {prog : Program} {w : World} {sc cs : Scope} {n : Nat} {md : List Addr} {fl : Bool} {x : Str} {σ : St}

theorem Exs_cv {pos : Pos} {es : List Expr} {σ' : St} {Q : List MV → St → Prop} (F : Fx C hb prog w sc n md fl) (c : Cv md σ σ') (h : Exs C pos es σ' Q) : Exs C pos es σ Q := Tr.cv F c h
theorem swaps_yes {elt : Expr} {gens : List Comprehension} {y : Str} {py pos : Pos} {ln : Nat} (F : Fx C hb prog w sc n md fl) (hk : sc.names.lookup y = some .local) (hl : (py.line == pos.line) = true) (hn : (cs.names.any fun p => p.1 == y && (p.2 == .local || p.2 == .cell)) = false) :
    swapsWith (.ListComp elt gens cs pos) (some (.Name y py)) ln C.env = pure true := by
  have hb : (C.env.blockKind == ScopeKind.function) = true := by unfold Env.blockKind; rw [F.ok.kind]; rfl
  have hv : (C.env.kindOf y == some NameKind.local) = true := by rw [F.kind hk]; rfl
  show (pure (C.env.blockKind == .function && C.env.kindOf y == some .local && py.line == pos.line && !(cs.names.any fun p => p.1 == y && (p.2 == .local || p.2 == .cell))) : Sem Bool) = pure true
  rw [hb, hv, hl, hn]; rfl
theorem Ts_mono {e : Expr} {Q Q' : Bool → St → Prop} (h : Ts C e σ Q) (h' : ∀ b σ', Q b σ' → Q' b σ') : Ts C e σ Q' := Tr.mono h h'
theorem Stm_mono {e : Stmt} {Q Q' : MF → St → Prop} (h : Stm C e σ Q) (h' : ∀ b σ', Q b σ' → Q' b σ') : Stm C e σ Q' := Tr.mono h h'
end
end
set_option autoImplicit false
set_option linter.unusedVariables false
set_option linter.unusedSimpArgs false
set_option compiler.extract_closed false
open PySem
theorem Ex_CallB' {C : Cx} {hb : Heap} {σ : St} {prog : Program} {w : World} {sc : Scope} {n : Nat} {md : List Addr} {fl : Bool} {f : Str} {p pos : Pos} {e : Expr} {rest : List Expr} {T : String} {Q : MV → St → Prop} (F : Fx C hb prog w sc n md fl) (g : Gl hb f (.oth (.builtin T))) (hk : sc.names.lookup f = some .globalImplicit)
    (he : starEach (e :: rest) C.env = (false, eval e C.env) :: starEach rest C.env) (hplain : (backTo pos (starEach rest C.env)).any (·.1) = false)
    (h : Exs C pos (e :: rest) σ (fun vs σ₁ => CallV C (.builtin T) vs σ₁ Q)) : Ex C (.Call (.Name f p) (e :: rest) [] pos) σ Q := Ex_CallB F.ok g (F.kind hk) he hplain h
theorem Ex_CallT' {C : Cx} {hb : Heap} {σ : St} {prog : Program} {w : World} {sc : Scope} {n : Nat} {md : List Addr} {fl : Bool} {f : Str} {p pos : Pos} {e : Expr} {rest : List Expr} {T : String} {Q : MV → St → Prop} (F : Fx C hb prog w sc n md fl) (g : Gl hb f (.oth (.type T))) (hk : sc.names.lookup f = some .globalImplicit)
    (he : starEach (e :: rest) C.env = (false, eval e C.env) :: starEach rest C.env) (hplain : (backTo pos (starEach (e :: rest) C.env)).any (·.1) = false)
    (h : Exs C pos (e :: rest) σ (fun vs σ₁ => CallV C (.type T) vs σ₁ Q)) : Ex C (.Call (.Name f p) (e :: rest) [] pos) σ Q := Ex_CallT F.ok g (F.kind hk) he hplain h
local macro_rules | `(tactic| walk_at "m ne") => `(tactic| exact ofString_ne (by decide))
local macro_rules | `(tactic| walk_at "m look") => `(tactic| first | with_reducible exact look_hd | (refine' look_tl ?a ?b; (case a => walk_at "m ne"); (case b => walk_at "m look")))
local macro_rules | `(tactic| walk_at "m put") => `(tactic| first | with_reducible exact put_nil | with_reducible exact put_hd | (refine' put_tl ?a ?b; (case a => walk_at "m ne"); (case b => walk_at "m put")))
local macro_rules | `(tactic| walk_at "m capt") => `(tactic| first | with_reducible exact capt_nil | (refine' capt_keep ?a ?b; (case a => rfl); (case b => walk_at "m capt")) | (refine' capt_skip ?a ?b; (case a => decide); (case b => walk_at "m capt")))
local macro_rules | `(tactic| walk_at "m cex") => `(tactic| ((first | with_reducible refine' Ex_le ?a ?_ | with_reducible refine' Ts_le ?a ?_); (case a => refine' put_capt ?a ?b; (case a => walk_at "m capt"); (case b => walk_at "m put"))))
local macro_rules | `(tactic| walk_at "m compok") => `(tactic| exact ⟨rfl, by decide, by decide, by decide, rfl⟩)
local macro_rules | `(tactic| walk_at "m mem") => `(tactic| first | with_reducible exact mem_hd | ((with_reducible refine mem_tl ?_); walk_at "m mem"))
local macro_rules | `(tactic| walk_at "m upd") => `(tactic| first | with_reducible exact Upd.head | ((with_reducible refine' Upd.tail ?a); (case a => walk_at "m upd")))
local macro_rules | `(tactic| walk_at "m has") => `(tactic| first | with_reducible assumption | (refine Or.inr ?_; with_reducible assumption) | (refine Or.inl ?_; (try dsimp only); walk_at "m mem") | fail "x")
local macro_rules | `(tactic| walk_at "s") => `(tactic| first
  | with_reducible assumption
  | (guard_target = look _ _ = _; walk_at "m look")
  | (guard_target = put _ _ _ = _; walk_at "m put")
  | (guard_target = Has _ _ _; walk_at "m has")
  | (guard_target = Upd _ _ _ _ _; (try dsimp only); walk_at "m upd")
  | rfl
  | exact interactive_false (by assumption)
  | decide
  | omega
  | (refine log2_small ?_; omega)
  | decide +kernel
  | exact IntMulOk.of_right (by decide +kernel) | exact IntMulOk.of_left (by decide +kernel) | exact mul_small (by omega)
  | (simp only [List.length_map, List.length_append, List.length_cons, List.length_nil, lim]; omega)
  | fail "s")
local macro_rules | `(tactic| walk_at "m set") => `(tactic| ((with_reducible refine' SetG_list ?a ?b ?c ?d ?_); (case a | b | c => walk_at "s"); (case d => first | assumption | (simp; first | done | omega) | omega)))
local macro_rules | `(tactic| walk_at "m stm") => `(tactic| first
  | ((with_reducible refine' Stm_Assign ?a ?_); case a => walk_at "s")
  | ((with_reducible refine' Stm_Expr ?a ?b ?_); case a | b => walk_at "s")
  | ((with_reducible refine' Stm_SetI ?a ?_); case a => walk_at "s")
  | (with_reducible first | refine Stm_If ?_ | refine Stm_Return ?_ | fail "x")
  | fail "x")
local macro_rules | `(tactic| walk_at "m ex") => `(tactic| first
  | ((with_reducible refine' Ex_loc ?a ?b ?c ?_); case a | b | c => walk_at "s")
  | ((with_reducible refine' Ex_CallC ?a ?b ?c ?d ?e ?_); case a | b | c | d | e => walk_at "s")
  | ((with_reducible refine' Ex_CallO ?a ?b ?c ?d ?e ?_); case a | b | c | d | e => walk_at "s")
  | ((with_reducible refine' Ex_CallB' ?a ?b ?c ?d ?e ?_); case a | b | c | d | e => walk_at "s")
  | ((with_reducible refine' Ex_CallT' ?a ?b ?c ?d ?e ?_); case a | b | c | d | e => walk_at "s")
  | ((with_reducible refine' Ex_Subscript ?a ?_); case a => walk_at "s")
  | ((with_reducible refine' Ex_Compare ?a ?_); case a => walk_at "s")
  | ((with_reducible refine' Ex_glb ?a ?b ?c ?_); case a | b | c => walk_at "s")
  | ((with_reducible refine' Ex_ListF ?a ?_); case a => walk_at "s")
  | ((with_reducible refine' Ex_TupleF ?a ?_); case a => walk_at "s")
  | ((with_reducible refine' Ex_chain2 ?a ?_); case a => walk_at "s")
  | ((with_reducible refine' Ex_appG ?a ?b ?c ?d ?_); case a | b | c | d => walk_at "s")
  | (with_reducible first | refine Ex_int ?_ | refine Ex_str ?_ | refine Ex_BinOp ?_ | refine Ex_bool ?_ | refine Ex_And2 ?_ | refine Ex_Or2 ?_ | refine Ex_UnaryOp ?_ | fail "x")
  | fail "x")
local macro_rules | `(tactic| walk_at "m ts") => `(tactic| first
  | ((with_reducible refine' Ts_Compare ?a ?_); case a => walk_at "s")
  | ((with_reducible refine' Ts_chain2 ?a ?_); case a => walk_at "s")
  | ((with_reducible refine' Ts_val ?a ?_); case a => walk_at "s")
  | (with_reducible first | refine Ts_Not ?_ | refine Ts_And ?_ | refine Ts_And_nil ?_ | refine Ts_Or ?_ | refine Ts_Or_nil ?_ | fail "x")
  | fail "x")
local macro_rules | `(tactic| walk_at "m bin") => `(tactic| first
  | ((with_reducible refine' Bin_mod ?a ?b ?_); case a | b => walk_at "s")
  | ((with_reducible refine' Bin_div ?a ?b ?_); case a | b => walk_at "s")
  | ((with_reducible refine' Bin_pow ?a ?b ?c ?_); case a | b | c => walk_at "s")
  | ((with_reducible refine' Bin_mul ?a ?_); case a => walk_at "s")
  | (with_reducible first | refine Bin_add ?_ | refine Bin_sub ?_ | fail "x")
  | fail "x")
local macro_rules | `(tactic| walk_at "m cmp") => `(tactic| first
  | (with_reducible first | refine Cmp_lt ?_ | refine Cmp_eq ?_ | refine Cmp_le ?_ | refine Cmp_gt ?_ | refine Cmp_ne ?_ | refine Cmp_eqStr ?_ | refine Cmp_eqBool ?_ | fail "x")
  | fail "x")
local macro_rules | `(tactic| walk_at "m store") => `(tactic| first
  | ((with_reducible refine' Store_loc ?a ?b ?c ?_); case a | b | c => walk_at "s")
  | fail "x")
local macro_rules | `(tactic| walk_at "m call") => `(tactic| first
  | ((with_reducible refine' Call_len_list ?a ?_); case a => walk_at "s")
  | ((with_reducible refine' Call_len_tup ?a ?_); case a => walk_at "s")
  | ((with_reducible refine' isi_list_list ?a ?_); case a => walk_at "s")
  | ((with_reducible refine' isi_tup_tup ?a ?_); case a => walk_at "s")
  | ((with_reducible refine' Call_listF ?a ?b ?_); case a | b => walk_at "s")
  | ((with_reducible refine' Call_len_ro ?a ?_); case a => walk_at "s")
  | (with_reducible first | refine isi_int_int ?_ | refine isi_int_bool ?_ | refine isi_bool_bool ?_ | refine Call_intBool ?_ | fail "x")
  | fail "x")
local macro_rules | `(tactic| walk_at "m ite") => `(tactic| first
  | ((with_reducible refine' and_lim ?a ?_); (case a => exact Nat.le_of_ble_eq_true rfl))
  | (with_reducible first | refine if_tt ?_ | refine if_ff ?_ | refine if_ntt ?_ | fail "x")
  | fail "x")
local macro_rules | `(tactic| walk_at "m1") => `(tactic| first
  | (guard_target = Ex _ _ _ _; walk_at "m ex")
  | (guard_target = Exs _ _ _ _ _; first | ((with_reducible refine' Exs_cons ?a ?_); (case a => rfl)) | with_reducible refine Exs_nil ?_)
  | (guard_target = Sts _ _ _ _; (with_reducible first | refine Sts_cons ?_ | refine Sts_nil ?_ | fail "x"))
  | (guard_target = Stm _ _ _ _; walk_at "m stm")
  | (guard_target = Ts _ _ _ _; walk_at "m ts")
  | (guard_target = Bin _ _ _ _ _ _; walk_at "m bin")
  | (guard_target = Cmp _ _ _ _ _ _; walk_at "m cmp")
  | (guard_target = Trt _ _ _ _; (with_reducible first | refine Trt_bool ?_ | fail "x"))
  | (guard_target = Store _ _ _ _ _; walk_at "m store")
  | (guard_target = CallV _ _ _ _ _; walk_at "m call")
  | (guard_target = SubG _ _ _ _ _; first | ((with_reducible refine' SubG_tup ?a ?b ?c ?_); (case a => walk_at "m has"); (case b => decide); (case c => rfl)) | ((with_reducible refine' SubG_list ?a ?b ?c ?_); (case a => walk_at "m has"); (case b => decide); (case c => rfl)))
  | (guard_target = Una _ _ _ _ _; (with_reducible first | refine Una_Not ?_ | refine Una_neg ?_ | fail "x"))
  | ((with_reducible refine' AppG_i ?a ?_); case a => walk_at "s")
  | ((with_reducible refine' App2_i ?a ?b ?_); case a | b => walk_at "s")
  | walk_at "m ite" | fail "x")
local macro_rules | `(tactic| walk_at "m") => `(tactic| repeat' (walk_at "m1"; (try dsimp only [List.nil_append, List.cons_append])))
section
set_option autoImplicit false
set_option linter.unusedVariables false
set_option linter.unusedSimpArgs false
open PySem PySem.SeqAt
section
variable {C : Cx} {hb : Heap} {prog : Program} {w : World} {sc cs : Scope} {n : Nat} {md : List Addr} {fl : Bool} {x : Str} {σ : St}

/-- an owned object is given up -/
theorem Holds.lose {s s' : Shared} {l : Loc} {B : MH} {a : Addr} {mo : MO} {own : Own} (OK : C.Ok hb) (H : Holds C ⟨l, B, (a, mo) :: own⟩ s) (ha : a ∉ C.mod)
    (e : ∀ b ob, b ≠ a → s.heap.get? b = some ob → s'.heap.get? b = some ob) (hg : s'.gens = s.gens) (hos : s'.os = s.os) : Holds C ⟨l, B, own⟩ s' := by
  have nd : (a :: (own.map (·.1) ++ C.fr)).Nodup := H.nodup
  have nd1 := List.nodup_cons.mp nd
  have ma' : a ∈ (((a, mo) :: own).map (·.1)) ++ C.fr := List.mem_append_left _ List.mem_cons_self
  have nal : ¬ C.al a := (H.ownNew (a, mo) (.head _)).resolve_right ha
  have nfr : ∀ b ∈ C.fr, b ≠ a := fun b hb' e' => by subst e'; exact nd1.1 (List.mem_append_right _ hb')
  have cne : ∀ x c, C.env.cells.lookup x = some c → c ≠ a := fun x c hc => by
    rcases OK.cellsIn x c hc with h | ⟨ob, h⟩
    · exact nfr c h
    · exact fun e' => H.apartK a ma' ob (e' ▸ h)
  have lne : C.env.locals ≠ a := nfr _ OK.locals
  exact {
    kp := fun b ob h => e _ _ (fun e' => H.apartK a ma' ob (e' ▸ h)) (H.kp _ _ h)
    names := fun x v h => (H.names x v h).extBut e lne (cne x)
    ns := let ⟨m, h⟩ := H.ns; ⟨m, h.extBut e lne⟩
    cells := fun x c h => let ⟨v, ob, h1, h2⟩ := H.cells x c h; ⟨v, ob, e _ _ (cne x c h) h1, h2⟩
    alive := fun b hb' => let ⟨ob, h⟩ := H.alive b hb'; ⟨ob, e _ _ (nfr b hb') h⟩
    B := fun b ob h => (H.B b ob h).at fun oo ho' => e _ _ (fun e' => by have h : B b = some ob := h; rw [e', show B a = none from H.apartB a ma'] at h; cases h) ho'
    own := fun p hp => (H.own p (.tail _ hp)).at fun oo ho' => e _ _ (fun e' => nd1.1 (List.mem_append_left _ (e' ▸ List.mem_map_of_mem (f := (·.1)) hp))) ho'
    nodup := nd1.2
    apartB := fun b hb' => H.apartB b (.tail _ hb')
    apartK := fun b hb' => H.apartK b (.tail _ hb')
    gens := hg.trans H.gens
    os := hos.trans H.os
    al := fun b hb' => let ⟨ob, hob⟩ := H.al b hb'; ⟨ob, e _ _ (fun e' => nal (e' ▸ hb')) hob⟩
    B0 := H.B0
    Bnew := H.Bnew
    noB := H.noB
    ownNew := fun p hp => H.ownNew p (.tail _ hp) }

theorem Holds.newAt {s s' : Shared} {a : Addr} {mo : MO} (H : Holds C σ s) (ha : s.heap.objs.size ≤ a) (e : ∀ b o, s.heap.get? b = some o → s'.heap.get? b = some o) (hg : s'.gens = s.gens) (hos : s'.os = s.os) (ho : OR s'.heap a mo) :
    Holds C { σ with own := (a, mo) :: σ.own } s' := (H.ext e hg hos).addO (H.far ha) ho
theorem Cmp_neList {a b : Addr} {xs ys : List MV} {e : Nat → Bool} {Q : MV → St → Prop} (OK : C.Ok hb) (ha : Has σ a (.list xs)) (hb' : Has σ b (.list ys)) (hlen : xs.length = ys.length)
    (he : ∀ i m m', xs[i]? = some m → ys[i]? = some m' → EqM σ m m' (e i)) (h : Q (.bool (!(List.range xs.length).all e)) σ) : Cmp C .NotEq (.ref a) (.ref b) σ Q := fun va vb hva hvb s H => by
  obtain rfl : va = _ := hva
  obtain rfl : vb = _ := hvb
  obtain ⟨vs, nn, hob, hr, hlim⟩ := H.has ha
  obtain ⟨us, nn', hob', hr', hlim'⟩ := H.has hb'
  have hsz : vs.size = xs.length := by have := hr.length; simp at this; exact this.symm
  have hsz' : us.size = ys.length := by have := hr'.length; simp at this; exact this.symm
  refine PySem.W.cmp_ofNotEq (RcNeAt.lists (items := vs) (items2 := us) (e := e) ⟨_, hob, rfl, nn, rfl⟩ ⟨_, hob', rfl, nn', rfl⟩ (by omega) (by have := OK.units; omega) (fun j h1 h2 => ?_) _ _ _ _ ?_)
  · obtain ⟨m, hm, hmr⟩ := hr.getv (i := j) (v := vs[j]) (by simp [h1])
    obtain ⟨m', hm', hmr'⟩ := hr'.getv (i := j) (v := us[j]) (by simp [h2])
    exact (he j m m' hm hm').at H hmr hmr' _
  · rw [hsz]; exact ⟨.bool _, σ, rfl, H, h⟩
theorem Cmp_neSame {a b : Addr} {xs : List MV} {Q : MV → St → Prop} (OK : C.Ok hb) (ha : Has σ a (.list xs)) (hb' : Has σ b (.list xs)) (hx : ∀ m ∈ xs, (∃ i, m = .int i) ∨ ∃ c, m = .ref c) (h : Q (.bool false) σ) : Cmp C .NotEq (.ref a) (.ref b) σ Q := by
  refine Cmp_neList OK ha hb' (e := fun _ => true) rfl (fun i m m' h1 h2 => ?_) (by rw [show (List.range xs.length).all (fun _ => true) = true from by simp]; exact h)
  rw [h1] at h2; cases h2
  rcases hx m (List.mem_of_getElem? h1) with ⟨j, rfl⟩ | ⟨c, rfl⟩
  · simpa using EqM.int (σ := σ) j j
  · exact .same c
theorem mv_ints (l : List Int) : ∀ m ∈ l.map MV.int, (∃ i, m = .int i) ∨ ∃ c, m = .ref c := fun m hm => by obtain ⟨j, _, rfl⟩ := List.mem_map.mp hm; exact .inl ⟨j, rfl⟩
theorem mv_refs (l : List Addr) : ∀ m ∈ l.map MV.ref, (∃ i, m = .int i) ∨ ∃ c, m = .ref c := fun m hm => by obtain ⟨j, _, rfl⟩ := List.mem_map.mp hm; exact .inr ⟨j, rfl⟩

/-! sorted -/
/-! list(dict) -/
theorem vsR_of : ∀ (ms : List MV) (vs : List Value), vs.length = ms.length → (∀ (i : Nat) (v : Value), vs[i]? = some v → ∃ m, ms[i]? = some m ∧ VR m v) → VsR ms vs
  | [], [], _, _ => .nil
  | m :: ms, v :: vs, hl, h => by
    obtain ⟨m', e, hv⟩ := h 0 v rfl
    cases e
    exact .cons hv (vsR_of ms vs (by simpa using hl) fun i u hu => h (i + 1) u hu)
/-! list(reversed(list)) -/
end
end
section
set_option autoImplicit false
set_option linter.unusedVariables false
set_option linter.unusedSimpArgs false
open PySem
section
/-- a walk of so many steps -/
inductive Wk (E : Int → Int → Prop) (ok : Int → Prop) (st : Prop) (s : Int) : Nat → Int → Prop
  | zero : st → Wk E ok st s 0 s
  | succ {k : Nat} {a b : Int} : Wk E ok st s k a → E a b → ok b → Wk E ok st s (k + 1) b
variable {E : Int → Int → Prop} {ok : Int → Prop} {st : Prop} {s : Int} {n : Nat}
/-! breadth first: node, node before, level -/
abbrev BL := List (Int × Option Int × Nat)
structure BInv (E : Int → Int → Prop) (ok : Int → Prop) (s : Int) (n : Nat) (L : BL) (pr : Nat) (rest : List (Option Int)) : Prop where
  hd : L[0]? = some (s, none, 1)
  nd : (L.map (·.1)).Nodup
  rng : ∀ x : Int, x ∈ L.map (·.1) → 0 ≤ x ∧ x < n
  par : ∀ (j : Nat) (x p : Int) (l : Nat), L[j]? = some (x, some p, l) → ∃ (i : Nat) (q : Option Int) (l' : Nat), i < j ∧ i < pr ∧ L[i]? = some (p, q, l') ∧ l = l' + 1 ∧ E p x ∧ ok x
  root : ∀ (j : Nat) (x : Int) (l : Nat), L[j]? = some (x, none, l) → j = 0
  mono : ∀ (i j : Nat) (t u : Int × Option Int × Nat), i ≤ j → L[i]? = some t → L[j]? = some u → t.2.2 ≤ u.2.2
  top : ∀ (i j : Nat) (t u : Int × Option Int × Nat), i + 1 = pr → L[i]? = some t → L[j]? = some u → u.2.2 ≤ t.2.2 + 1
  fst : pr = 0 → L.length = 1
  ple : pr ≤ L.length
  clo : ∀ (i : Nat) (t : Int × Option Int × Nat), i < pr → L[i]? = some t → ∀ b, E t.1 b → ok b → (∃ (j : Nat) (u : Int × Option Int × Nat), L[j]? = some u ∧ u.1 = b ∧ u.2.2 ≤ t.2.2 + 1) ∨ (i + 1 = pr ∧ some b ∈ rest)
variable {L : BL} {pr : Nat} {rest : List (Option Int)}
/-! the way back -/
structure Back (E : Int → Int → Prop) (ok : Int → Prop) (g : Int) (found : List Int) : Prop where
  hd : ∀ x, found[0]? = some x → x = g
  lk : ∀ (i : Nat) (a b : Int), found[i]? = some a → found[i + 1]? = some b → E b a ∧ ok a
/-! rounds -/
structure RInv (E : Int → Int → Prop) (ok : Int → Prop) (st : Prop) (s : Int) (n t : Nat) (K : List (Int × Nat)) : Prop where
  nd : (K.map (·.1)).Nodup
  rng : ∀ x : Int, x ∈ K.map (·.1) → 0 ≤ x ∧ x < n
  sound : ∀ x v, (x, v) ∈ K → ∃ k, v = k + 1 ∧ k ≤ t ∧ Wk E ok st s k x ∧ ∀ j, Wk E ok st s j x → k ≤ j
  full : ∀ k x, Wk E ok st s k x → k ≤ t → x ∈ K.map (·.1)
  size : (∀ a ∈ K.map (·.1), ∀ b, E a b → ok b → b ∈ K.map (·.1)) ∨ t + 1 ≤ K.length
/-- one turn: fresh ones -/
structure FInv (E : Int → Int → Prop) (ok : Int → Prop) (st : Prop) (s : Int) (n t : Nat) (K : List (Int × Nat)) (fr : List Int) (pr : Nat) (rest : List Int) : Prop where
  nd : fr.Nodup
  new : ∀ x ∈ fr, x ∉ K.map (·.1) ∧ 0 ≤ x ∧ x < n ∧ Wk E ok st s (t + 1) x ∧ ∃ a ∈ K.map (·.1), E a x ∧ ok x
  clo : ∀ (i : Nat) (a : Int × Nat), i < pr → K[i]? = some a → ∀ b, E a.1 b → ok b → b ∈ K.map (·.1) ∨ b ∈ fr ∨ (i + 1 = pr ∧ b ∈ rest)
variable {t : Nat} {K : List (Int × Nat)} {fr : List Int} {rs : List Int}
end
end
section
set_option autoImplicit false
set_option linter.unusedVariables false
set_option linter.unusedSimpArgs false
open PySem
section
variable {C : Cx} {hb : Heap} {prog : Program} {w : World} {sc cs : Scope} {n : Nat} {md : List Addr} {fl : Bool} {x : Str} {σ : St}
theorem Bin_addList {a b : Addr} {xs ys : List MV} {Q : MV → St → Prop} (F : Fx C hb prog w sc n md fl) (ha : Has σ a (.list xs)) (hb' : Has σ b (.list ys)) (hl : xs.length + ys.length ≤ lim)
    (h : ∀ c, Fsh md σ c → Q (.ref c) { σ with own := (c, .list (xs ++ ys)) :: σ.own }) : Bin C .Add (.ref a) (.ref b) σ Q := fun va vb hva hvb s H => by
  obtain rfl : va = _ := hva
  obtain rfl : vb = _ := hvb
  obtain ⟨vs, nn, hob, hr, hlim⟩ := H.has ha
  obtain ⟨us, nn', hob', hr', hlim'⟩ := H.has hb'
  have hsz : vs.size = xs.length := by have := hr.length; simp at this; exact this.symm
  have hsz' : us.size = ys.length := by have := hr'.length; simp at this; exact this.symm
  refine PySem.P.add_list (items := vs) (items2 := us) hob hob' ⟨.ref _, _, rfl, H.new (mo := .list (xs ++ ys)) ⟨_, _, Heap.get?_push_size _ rfl, ?_, by simpa using hl⟩, h _ (F.emod ▸ H.fsh F.ok)⟩ (by have := lim_le; omega)
  rw [Array.toList_append]; exact hr.append hr'
end
end
section
set_option autoImplicit false
set_option linter.unusedVariables false
set_option linter.unusedSimpArgs false
open PySem PySem.SeqAt
section
variable {C : Cx} {hb : Heap} {prog : Program} {w : World} {sc cs : Scope} {n : Nat} {md : List Addr} {fl : Bool} {x : Str} {σ : St}
theorem Cmp_neStr {a b : Str} {Q : MV → St → Prop} (h : Q (.bool (!decide (a = b))) σ) : Cmp C .NotEq (.str a) (.str b) σ Q := fun va vb ha hb s H => by
  obtain ⟨t, rfl⟩ := ha; obtain ⟨u, rfl⟩ := hb
  refine P.ne_str ⟨.bool (!decide (a = b)), σ, ?_, H, h⟩
  show Value.bool _ = _
  congr 1
  by_cases hab : a = b
  · subst hab; simp
  · have : a.cps.toList ≠ b.cps.toList := fun e => hab (by cases a; cases b; simp at e; simp [e])
    simp [hab, this]
theorem Cmp_inT {a : Addr} {xs : List MV} {m : MV} (e : MV → Bool) {Q : MV → St → Prop} (hh : Has σ a (.tup xs)) (he : ∀ y ∈ xs, EqM σ y m (e y)) (h : Q (.bool (xs.any e)) σ) : Cmp C .In m (.ref a) σ Q := fun va vb ha hb' s H => by
  obtain rfl : vb = .ref a := hb'
  obtain ⟨vs, nn, hob, hr, hlim⟩ := H.has hh
  obtain ⟨h1, h2⟩ := vsR_any hr e fun y hy => (he y hy).noOth
  refine in_tupleAt (fun v => e (mvOf v)) ⟨_, hob, rfl, nn, rfl⟩ (fun y hy => ?_) ⟨.bool _, σ, rfl, H, by rw [← Array.any_toList, h2]; exact h⟩
  obtain ⟨g1, g2⟩ := h1 y (by simpa using hy)
  exact (he _ g2).at H g1 ha _
theorem Cmp_inS2 {a : Addr} {p q y : Str} {Q : MV → St → Prop} (hh : Has σ a (.tup [.str p, .str q])) (h : Q (.bool (decide (p = y) || decide (q = y))) σ) : Cmp C .In (.str y) (.ref a) σ Q := by
  refine Cmp_inT (fun m => match m with | .str z => decide (z = y) | _ => false) hh (fun m hm => ?_) ?_
  · simp only [List.mem_cons, List.not_mem_nil, or_false] at hm
    rcases hm with rfl | rfl
    · exact .str p y
    · exact .str q y
  · simpa using h
theorem Bin_addTup {a b : Addr} {xs ys : List MV} {Q : MV → St → Prop} (F : Fx C hb prog w sc n md fl) (ha : Has σ a (.tup xs)) (hb' : Has σ b (.tup ys)) (hl : xs.length + ys.length ≤ lim)
    (h0 : xs = [] → Q (.ref b) σ) (h1 : xs ≠ [] → ys = [] → Q (.ref a) σ) (h2 : xs ≠ [] → ys ≠ [] → ∀ c, Fsh md σ c → Q (.ref c) { σ with own := (c, .tup (xs ++ ys)) :: σ.own }) : Bin C .Add (.ref a) (.ref b) σ Q := fun va vb hva hvb s H => by
  obtain rfl : va = _ := hva
  obtain rfl : vb = _ := hvb
  obtain ⟨vs, nn, hob, hr, hlim⟩ := H.has ha
  obtain ⟨us, nn', hob', hr', hlim'⟩ := H.has hb'
  have hsz : vs.size = xs.length := by have := hr.length; simp at this; exact this.symm
  have hsz' : us.size = ys.length := by have := hr'.length; simp at this; exact this.symm
  by_cases hx : xs = []
  · subst hx
    exact concat_meets ⟨_, hob, rfl⟩ ⟨_, hob', rfl⟩ noFill_tuple_add seq_tuple_add PySem.F.slot_tuple_add PySem.F.entry_tuple_add (PySem.F.args_tuple_add_2 _ _) (AutoSeq1.tuple___add___tuple_tuple_0 a vs nn b us nn' (by simpa [Array.isEmpty_iff_size_eq_zero] using hsz)) ⟨hob, hob', .ref b, σ, rfl, H, h0 rfl⟩
  have hx' : ¬ vs.isEmpty = true := by rw [Array.isEmpty_iff_size_eq_zero, hsz]; simpa using hx
  by_cases hy : ys = []
  · subst hy
    exact concat_meets ⟨_, hob, rfl⟩ ⟨_, hob', rfl⟩ noFill_tuple_add seq_tuple_add PySem.F.slot_tuple_add PySem.F.entry_tuple_add (PySem.F.args_tuple_add_2 _ _) (AutoSeq1.tuple___add___tuple_tuple_1 a vs nn b us nn' hx' (by simpa [Array.isEmpty_iff_size_eq_zero] using hsz')) ⟨hob, hob', .ref a, σ, rfl, H, h1 hx rfl⟩
  have hy' : ¬ us.isEmpty = true := by rw [Array.isEmpty_iff_size_eq_zero, hsz']; simpa using hy
  refine PySem.P.add_tuple (items := vs) (items2 := us) hob hob' hx' hy' ⟨.ref _, _, rfl, H.new (mo := .tup (xs ++ ys)) ⟨_, _, Heap.get?_push_size _ rfl, ?_, by simpa using hl⟩, h2 hx hy _ (F.emod ▸ H.fsh F.ok)⟩ (by have := lim_le; omega)
  rw [Array.toList_append]; exact hr.append hr'
theorem clear_meets (l : Addr) (items : Array Value) (k : Nat) (hz : items.size ≤ sizeLine) : Meets (Builtin.«list.clear» ⟨[.ref l], []⟩)
    (fun A R s => s.heap.get? l = some { cls := .type "list", dict := none, data := .seq items k, slots := #[] } ∧ R (.ok (.ret .none)) { s with heap := s.heap.update l (Obj.mapSeq fun _ => #[]) }) := by
  intro prog w A R s ⟨hl, h⟩
  show wpAny _ _ (do let old ← Builtin.List.listItems (.ref l); Builtin.List.listUpdate (.ref l) (fun _ => #[]); letGo old.toList.reverse; ret .none) _ _ s
  refine wpAny_bind ?_
  unfold Builtin.List.listItems
  refine wpAny_bind (wpAny_seqItems hl rfl (wpAny_pure ?_))
  show wpAny _ _ (updateSeq l (fun _ => #[]) >>= fun _ => letGo items.toList.reverse >>= fun _ => ret .none) _ _ s
  refine wpAny_bind (wpAny_updateSeq (hz := hz) hl rfl ?_)
  refine wpAny_bind (wpAny_letGo ?_)
  exact wpAny_pure h
theorem Ex_clear {o : Expr} {apos pos : Pos} {Q : MV → St → Prop} (F : Fx C hb prog w sc n md fl) (hbase : attributeBase o "clear" C.env (eval o C.env) = eval o C.env) (hline : (apos.endLine == pos.line) = true)
    (h : Ex C o σ (fun ov σ₁ => ∃ a xs own', ov = .ref a ∧ Upd σ₁.own a (.list xs) (.list []) own' ∧ Q .none { σ₁ with own := own' })) :
    Ex C (.Call (.Attribute o "clear" apos) [] [] pos) σ Q := fun s H => by
  refine wpAny_Call_method0_late hbase hline (wpAny_mono (h s H) (fun vo s₁ hpat => ?_) fun _ _ x => x)
  obtain ⟨ov, σ₁, ho, H₁, a, xs, own', e1, u, hq⟩ := hpat
  subst e1
  obtain rfl : vo = .ref a := ho
  obtain ⟨vs, nn, hob, hr, hlim⟩ := H₁.own _ u.mem
  refine ⟨"list", _, PySem.F.plainAttrs_list, PySem.F.slot_list_clear, PySem.F.type_list_clear, ⟨_, hob, rfl⟩, fun b e' => by cases e'; exact ⟨_, hob, rfl⟩, ?_⟩
  refine seqMethod0_meets PySem.F.slot_list_clear PySem.F.entry_list_clear ⟨_, hob, rfl⟩ (PySem.F.args_list_clear_1 _) (clear_meets a vs nn (by have := hr.length; simp at this; rw [← this]; exact Nat.le_trans hlim lim_le)) ⟨hob, .none, _, rfl, H₁.upd F.ok u (fun b ob hb' e' => by rw [Heap.get?_update_other _ _ (Ne.symm hb')]; exact e') ?_ rfl rfl, hq⟩
  exact ⟨#[], _, IsL.update hob fun _ => #[], .nil, Nat.zero_le _⟩
theorem vsR_pick {ns : List Int} {vs : List Value} (h : VsR (ns.map MV.int) vs) : ∀ (l : List Nat), ∃ zs : List Int, VsR (zs.map MV.int) (l.filterMap (vs[·]?)) ∧ (∀ z ∈ zs, z ∈ ns) ∧ zs.length ≤ l.length
  | [] => ⟨[], .nil, by simp, by simp⟩
  | i :: l => by
    obtain ⟨zs, h1, h2, h3⟩ := vsR_pick h l
    cases e : vs[i]? with
    | none => exact ⟨zs, by rw [List.filterMap_cons, e]; exact h1, h2, Nat.le_succ_of_le h3⟩
    | some v =>
      obtain ⟨m, hm, hv⟩ := h.getv e
      rw [List.getElem?_map] at hm
      obtain ⟨z, hz, rfl⟩ := Option.map_eq_some_iff.mp hm
      refine ⟨z :: zs, by rw [List.filterMap_cons, e]; exact .cons hv h1, fun y hy => ?_, Nat.succ_le_succ h3⟩
      rcases List.mem_cons.mp hy with rfl | hy
      · exact List.mem_of_getElem? hz
      · exact h2 y hy
theorem Ex_slice {value lo hi : Expr} {p pos : Pos} {Q : MV → St → Prop} (F : Fx C hb prog w sc n md fl) (ht : ∀ o r, letTemporaryGo value o r = pure ())
    (h : Ex C value σ (fun ov σ₁ => Ex C lo σ₁ (fun vl σ₂ => Ex C hi σ₂ (fun vu σ₃ => ∃ (a : Addr) (ns : List Int) (i j : Int), ov = .ref a ∧ vl = .int i ∧ vu = .int j ∧ Has σ₃ a (.ro (ns.map MV.int)) ∧ (sliceRange (sliceBounds (some i) (some j) none ns.length).1 (sliceBounds (some i) (some j) none ns.length).2.1 (sliceBounds (some i) (some j) none ns.length).2.2).length ≤ 100 ∧
      ∀ (zs : List Int) (d : Addr), (∀ z ∈ zs, z ∈ ns) → zs.length ≤ 100 → Fsh md σ₃ d → Q (.ref d) { σ₃ with own := (d, .list (zs.map MV.int)) :: σ₃.own })))) : Ex C (.Subscript value (.Slice (some lo) (some hi) none p) pos) σ Q := fun s H => by
  refine wpAny_Subscript_list_slice (wpAny_mono (h s H) (fun vo s₁ hpat => ?_) fun _ _ x => x) ht
  obtain ⟨ov, σ₁, ho, H₁, h₁⟩ := hpat
  refine wpAny_mono (h₁ s₁ H₁) (fun vl s₂ hpat => ?_) fun _ _ x => x
  obtain ⟨vl', σ₂, hl, H₂, h₂⟩ := hpat
  refine wpAny_mono (h₂ s₂ H₂) (fun vu s₃ hpat => ?_) fun _ _ x => x
  obtain ⟨vu', σ₃, hu, H₃, a, ns, i, j, e1, e2, e3, hh, h100, hq⟩ := hpat
  subst e1 e2 e3
  obtain rfl : vo = .ref a := ho
  obtain ⟨t, rfl⟩ := hl
  obtain ⟨t', rfl⟩ := hu
  obtain ⟨vs, hls, hr, hlim⟩ := H₃.has hh
  have hsz : vs.size = ns.length := by have := hr.length; simp at this; exact this.symm
  obtain ⟨zs, z1, z2, z3⟩ := vsR_pick hr (sliceRange (sliceBounds (some i) (some j) none ns.length).1 (sliceBounds (some i) (some j) none ns.length).2.1 (sliceBounds (some i) (some j) none ns.length).2.2)
  have z4 : zs.length ≤ 100 := Nat.le_trans z3 h100
  refine ⟨a, vs, some i, some j, rfl, hls, by rw [hsz]; simp at hlim; exact Nat.le_trans hlim lim_le, .int i t, .int j t', .ref _, _, rfl, H₃.newAt (a := s₃.heap.objs.size + 1) (mo := .list (zs.map MV.int)) (Nat.le_succ _) (fun b o e => Heap.get?_push_of_some _ (Heap.get?_push_of_some _ e)) rfl rfl ⟨slicePick vs (some i) (some j) none, 0, ?_, ?_, ?_⟩, hq zs _ z2 z4 (F.emod ▸ H₃.fshAt F.ok (Nat.le_succ _))⟩
  · have e1 := Heap.get?_push_size (s₃.heap.push { cls := .type "slice", data := .fields #[.int i t, .int j t', .none] }) (o := { cls := .type "list", data := .seq (slicePick vs (some i) (some j) none) }) rfl
    rw [Heap.size_push] at e1
    exact e1
  · unfold slicePick
    rw [hsz]
    simpa using z1
  · rw [List.length_map]; exact Nat.le_trans z4 (by unfold lim; decide)
end
end
section
set_option autoImplicit false
set_option linter.unusedVariables false
set_option linter.unusedSimpArgs false
set_option maxRecDepth 100000
open PySem PySem.SeqAt
theorem noFill_tuple_mul : fillsNumberSlot (.type "tuple") "mul" = pure false :=
  fillsNumberSlot_seq (id := "tuple.__mul__") (r := some (.builtin "tuple.__rmul__")) PySem.F.slot_tuple_mul.lookup (by decide +kernel) PySem.F.slot_tuple_rmul.lookup (by decide +kernel)
theorem repeat_tuple : seqRepeat? (.type "tuple") = pure (some (.builtin "tuple.__mul__")) := by
  unfold seqRepeat?
  rw [seqSlot_of (T := "tuple") (name := "__mul__") (id := "tuple.__mul__") PySem.F.slot_tuple_mul.lookup (by decide +kernel), seqSlot_of (T := "tuple") (name := "__rmul__") (id := "tuple.__rmul__") PySem.F.slot_tuple_rmul.lookup (by decide +kernel)]
  rfl
theorem rmul_tuple (a : Int) (t : Tok) (l : Addr) (items : Array Value) (n : Nat) :
    Meets (Builtin.«int.__rmul__» ⟨[.int a t, .ref l], []⟩) (fun _ R s => s.heap.get? l = some { cls := .type "tuple", dict := none, data := .seq items n, slots := #[] } ∧ R (.ok (.ret Value.notImplemented)) s) :=
  .of_wp fun prog w A R s h => by obtain ⟨hp, g, d, tk, os⟩ := s; obtain ⟨hl, h⟩ := h; wp_walk; exact ⟨_, rfl, h⟩
theorem tuple_mul1 (t : Tok) (l : Addr) (items : Array Value) (n : Nat) :
    Meets (Builtin.«tuple.__mul__» ⟨[.ref l, .int 1 t], []⟩) (fun _ R s => s.heap.get? l = some { cls := .type "tuple", dict := none, data := .seq items n, slots := #[] } ∧ R (.ok (.ret (.ref l))) s) :=
  .of_wp fun prog w A R s h => by obtain ⟨hp, g, d, tk, os⟩ := s; obtain ⟨hl, h⟩ := h; wp_walk; exact ⟨_, rfl, h⟩
theorem tuple_mul0 (t : Tok) (l : Addr) (items : Array Value) (n : Nat) (hi : ¬ items.isEmpty = true) :
    Meets (Builtin.«tuple.__mul__» ⟨[.ref l, .int 0 t], []⟩) (fun _ R s => s.heap.get? l = some { cls := .type "tuple", dict := none, data := .seq items n, slots := #[] } ∧ R (.ok (.ret (.ref s.heap.objs.size))) { s with heap := s.heap.push { cls := .type "tuple", data := .seq #[] } }) :=
  .of_wp fun prog w A R s h => by obtain ⟨hp, g, d, tk, os⟩ := s; obtain ⟨hl, h⟩ := h; wp_walk; exact ⟨_, rfl, h⟩
section
variable {C : Cx} {hb : Heap} {prog : Program} {w : World} {sc cs : Scope} {n : Nat} {md : List Addr} {fl : Bool} {x : Str} {σ : St}
theorem Bin_mulTup {a : Addr} {xs : List MV} {k : Int} {Q : MV → St → Prop} (F : Fx C hb prog w sc n md fl) (ha : Has σ a (.tup xs)) (hx : xs ≠ []) (hk : k = 0 ∨ k = 1)
    (h0 : k = 0 → ∀ c, Fsh md σ c → Q (.ref c) { σ with own := (c, .tup []) :: σ.own }) (h1 : k = 1 → Q (.ref a) σ) : Bin C .Mult (.ref a) (.int k) σ Q := fun va vb hva hvb s H => by
  obtain rfl : va = _ := hva
  obtain ⟨u, rfl⟩ := hvb
  obtain ⟨vs, nn, hob, hr, hlim⟩ := H.has ha
  have hsz : vs.size = xs.length := by have := hr.length; simp at this; exact this.symm
  have hx' : ¬ vs.isEmpty = true := by rw [Array.isEmpty_iff_size_eq_zero, hsz]; simpa using hx
  refine wpAny_binaryOp_repeat_ref (T := "tuple") (U := "int") (by decide) ⟨_, hob, rfl⟩ (fun s' => PySem.typeIs_int s' k u) noFill_tuple_mul PySem.F.fills_int_mul PySem.F.slot_int_rmul repeat_tuple PySem.F.slot_int_index.lookup ?_
  refine call_meets PySem.F.slot_int_rmul (PySem.typeIs_int s k u) PySem.F.entry_int_rmul (PySem.F.args_int_rmul_2 _ _) (rmul_tuple k u a vs nn) ⟨hob, rfl, ⟨_, hob, rfl⟩, ?_⟩
  rcases hk with rfl | rfl
  · exact call_meets PySem.F.slot_tuple_mul ⟨_, hob, rfl⟩ PySem.F.entry_tuple_mul (PySem.F.args_tuple_mul_2 _ _) (tuple_mul0 u a vs nn hx') ⟨hob, .ref _, _, rfl, H.new (mo := .tup []) ⟨_, _, Heap.get?_push_size _ rfl, .nil, Nat.zero_le _⟩, h0 rfl _ (F.emod ▸ H.fsh F.ok)⟩
  · exact call_meets PySem.F.slot_tuple_mul ⟨_, hob, rfl⟩ PySem.F.entry_tuple_mul (PySem.F.args_tuple_mul_2 _ _) (tuple_mul1 u a vs nn) ⟨hob, .ref a, σ, rfl, H, h1 rfl⟩
end
end
section
set_option autoImplicit false
set_option linter.unusedVariables false
set_option linter.unusedSimpArgs false
set_option maxRecDepth 100000
open PySem PySem.SeqAt
theorem tuple_no_reversed : typeLookup (.type "tuple") "__reversed__" = pure none := by rw [typeLookup_type, builtinLookup_eq_fast]; kernel_rfl
def revT (l : Addr) (i : Int) : Obj := { cls := .type "reversed", data := .fields #[.ref l, rawInt i] }
section
variable {prog : Program} {w : World} {A : Around} {E : Value → Shared → Prop} {s : Shared}
theorem new_revT {l : Addr} {items : Array Value} {k : Nat} {Q₁ : Value → Shared → Prop} (hl : s.heap.get? l = some { cls := .type "tuple", dict := none, data := .seq items k, slots := #[] }) (h63 : (items.size : Int) < 2 ^ 63)
    (h : ∀ tk, Q₁ (.ref s.heap.objs.size) { s with heap := s.heap.push (revT l ((items.size : Int) - 1)), toks := tk }) :
    codeAny (model prog w) A (.call (.builtin "reversed.__new__") ⟨[.type "reversed", .ref l], []⟩) (wants Q₁ E) s := by
  refine codeAny_of_tree ?_
  show wpAny _ A.in1 (do checkBuiltinCall "reversed.__new__" ⟨[.type "reversed", .ref l], []⟩; again (.builtin "reversed.__new__" ⟨[.type "reversed", .ref l], []⟩)) _ _ s
  refine wpAny_bind (wpAny_of_eq (PySem.F.newCall_reversed_1 _) (wpAny_pure ⟨plainId_quiet PySem.F.plain_reversed_new _, codeAny_builtin PySem.F.entry_reversed_new ?_⟩))
  rw [Around.under_plainId PySem.F.plain_reversed_new _]
  unfold Builtin.«reversed.__new__»
  refine wpAny_bind (wpAny_of_eq (newClass_reversed _) ?_)
  try dsimp only
  refine wpAny_bind (wpAny_of_eq (a := ()) (by first | rfl | kernel_rfl) ?_)
  refine wpAny_bind (wpAny_of_eq (a := ()) (by first | rfl | kernel_rfl) ?_)
  try dsimp only
  refine wpAny_bind (wpAny_specialOf (T := "tuple") ⟨_, hl, rfl⟩ tuple_no_reversed ?_)
  try dsimp only
  refine wpAny_bind ?_
  wp_delta
  refine wpAny_bind (wpAny_isInstance (T := "tuple") (b := false) ⟨_, hl, rfl⟩ (by rw [isSubtype_type]; kernel_rfl) ?_)
  try dsimp only
  refine wpAny_ite_split (fun hab => absurd hab (by decide)) (fun _ => ?_)
  refine wpAny_bind (wpAny_specialOf (T := "tuple") (name := Str.ofString "__getitem__") ⟨_, hl, rfl⟩ PySem.F.slot_tuple_getitem.lookup ?_)
  try dsimp only
  refine wpAny_ite_split (fun _ => ?_) (fun hab => absurd (by decide +kernel) hab)
  refine wpAny_pure ?_
  refine wpAny_ite_split (fun hab => absurd hab (by decide)) (fun _ => ?_)
  refine wpAny_bind (PySem.P.len_tuple (items := items) (n := k) hl (Int.not_le.mpr h63) ?_)
  refine wpAny_bind (wpAny_of_eq (a := some (items.size : Int)) rfl ?_)
  try dsimp only
  refine wpAny_bind ?_
  show wpAny _ _ (newObj (.type "reversed") (.fields #[.ref l, rawInt ((items.size : Int) - 1)])) _ _ _
  refine wpAny_newObj_type ?_
  exact wpAny_pure (h _)
theorem slot_rev_init : Slot "reversed" "__init__" "object.__init__" :=
  .of (owner := "object") (n := "__init__") (by rw [typeLookup_type, builtinLookup_eq_fast]; kernel_rfl) (by decide +kernel) (by decide +kernel) (by decide +kernel)
    (by first | exact .inl (by decide +kernel) | exact .inr (by decide +kernel)) (by rw [isSubtype_type]; kernel_rfl)
theorem called_rev : TypeCalled "reversed" "reversed.__new__" "object.__init__" :=
  ⟨by decide +kernel, PySem.F.create_reversed, ⟨_, _, PySem.F.mro_reversed⟩, PySem.F.made_reversed, by decide +kernel, PySem.F.sub_reversed_self, slot_rev_init⟩
theorem call_revT {l : Addr} {items : Array Value} {k : Nat} {Q : Value → Shared → Prop} (hl : s.heap.get? l = some { cls := .type "tuple", dict := none, data := .seq items k, slots := #[] }) (h63 : (items.size : Int) < 2 ^ 63)
    (h : ∀ tk, Q (.ref s.heap.objs.size) { s with heap := s.heap.push (revT l ((items.size : Int) - 1)), toks := tk }) : wpAny (model prog w) A (call (.type "reversed") [.ref l]) Q E s := by
  refine callType_codes (Q₁ := fun obj s₁ => ∃ tk, obj = .ref s.heap.objs.size ∧ s₁ = { s with heap := s.heap.push (revT l ((items.size : Int) - 1)), toks := tk }) called_rev (PySem.F.typeCall_reversed_1 _) PySem.F.entry_object_init (new_revT hl h63 fun tk => ⟨tk, rfl, rfl⟩) ?_
  rintro obj s₁ ⟨tk, rfl, rfl⟩
  have hT : Shared.TypeIs { s with heap := s.heap.push (revT l ((items.size : Int) - 1)), toks := tk } (.ref s.heap.objs.size) "reversed" := ⟨_, Heap.get?_push_size _ rfl, rfl⟩
  exact ⟨hT, PySem.F.args_object_init_2 _ _, object_init_meets called_rev.init.lookup called_rev.made (by decide) prog w A.in1 _ _ ⟨hT, rfl, h tk⟩⟩
end
end
section
set_option autoImplicit false
set_option linter.unusedVariables false
set_option linter.unusedSimpArgs false
set_option maxRecDepth 100000
open PySem PySem.SeqAt
theorem owner_rev : Manifest.owners.lookup (String.ofList ['d', 'e', 's', 'r', 'e', 'v', 'e', 'r'].reverse) = some Manifest.sig_reversed := by kernel_rfl
theorem slot_rev_next : Slot "reversed" "__next__" "reversed.__next__" :=
  .of (owner := "reversed") (n := "__next__") (by rw [typeLookup_type, builtinLookup_eq_fast]; kernel_rfl) (by decide +kernel) (by decide +kernel) (by decide +kernel)
    (by first | exact .inl (by decide +kernel) | exact .inr (by decide +kernel)) (by rw [isSubtype_type]; kernel_rfl)
theorem entry_rev_next : entryFor table "reversed.__next__" = some Builtin.«reversed.__next__» := entryFor_of_tree (by kernel_rfl)
theorem args_rev_next (a : Value) : argsOk "reversed.__next__" ⟨[a], []⟩ := by
  unfold argsOk; rw [signature?_of (id := "reversed.__next__") (n := ['_', '_', 't', 'x', 'e', 'n', '_', '_']) (o := ['d', 'e', 's', 'r', 'e', 'v', 'e', 'r']) (by kernel_rfl) owner_rev]; kernel_rfl
theorem slot_rev_iter : Slot "reversed" "__iter__" "reversed.__iter__" :=
  .of (owner := "reversed") (n := "__iter__") (by rw [typeLookup_type, builtinLookup_eq_fast]; kernel_rfl) (by decide +kernel) (by decide +kernel) (by decide +kernel)
    (by first | exact .inl (by decide +kernel) | exact .inr (by decide +kernel)) (by rw [isSubtype_type]; kernel_rfl)
theorem args_rev_iter (a : Value) : argsOk "reversed.__iter__" ⟨[a], []⟩ := by
  unfold argsOk; rw [signature?_of (id := "reversed.__iter__") (n := ['_', '_', 'r', 'e', 't', 'i', '_', '_']) (o := ['d', 'e', 's', 'r', 'e', 'v', 'e', 'r']) (by kernel_rfl) owner_rev]; kernel_rfl
theorem entry_rev_iter : entryFor table "reversed.__iter__" = some Builtin.«dict_keyiterator.__iter__» :=
  entryFor_alias (id' := "dict_keyiterator.__iter__") (by kernel_rfl) (by first | rfl | decide +kernel | (unfold String.splitOn; simp +decide [String.splitOnAux])) (by decide +kernel) (by kernel_rfl)
def IsRT (h : Heap) (a l : Addr) (i : Int) : Prop := ∃ o, h.get? a = some o ∧ o.cls = .type "reversed" ∧ o.data = .fields #[.ref l, rawInt i]
def IsTp (h : Heap) (l : Addr) (items : Array Value) : Prop := ∃ k, h.get? l = some { cls := .type "tuple", dict := none, data := .seq items k, slots := #[] }
section
variable {prog : Program} {w : World} {A : Around} {E : Value → Shared → Prop} {s : Shared}
theorem IsRT.typeIs {a l : Addr} {i : Int} (x : IsRT s.heap a l i) : s.TypeIs (.ref a) "reversed" := let ⟨o, ho, hc, _⟩ := x; ⟨o, ho, hc⟩
theorem iter_rt {it l : Addr} {i : Int} {Q : Value → Shared → Prop} (hit : IsRT s.heap it l i) (h : Q (.ref it) s) : wpAny (model prog w) A (pyIter (.ref it)) Q E s := by
  refine wpAny_pyIter_slot hit.typeIs slot_rev_iter (wpAny_call_entry slot_rev_iter hit.typeIs entry_rev_iter ?_ (args_rev_iter _))
  show wpAny _ _ (ret (.ref it)) _ _ s
  exact wpAny_pure ⟨_, rfl, "reversed", _, hit.typeIs, slot_rev_next.lookup, h⟩
theorem next_rt {it l : Addr} {i : Nat} {items : Array Value} {x : Value} {Q : Option Value → Shared → Prop} (hit : IsRT s.heap it l (i : Int)) (hl : IsTp s.heap l items) (hx : items[i]? = some x) (hi : (i : Int) < 2 ^ 63)
    (hQ : ∀ h' tk, IsRT h' it l ((i : Int) - 1) → Heap.SameBut it s.heap h' → Q (some x) { s with heap := h', toks := tk }) : wpAny (model prog w) A (pyNext (.ref it)) Q E s := by
  obtain ⟨o, ho, hc, hd⟩ := id hit
  obtain ⟨nl, hol⟩ := id hl
  unfold pyNext
  refine wpAny_bind (wpAny_attempt (wpAny_callSpecial?_slot (name := Str.ofString "__next__") hit.typeIs slot_rev_next
    (wpAny_call_entry slot_rev_next hit.typeIs entry_rev_next ?_ (args_rev_next _))))
  unfold Builtin.«reversed.__next__»
  refine wpAny_bind (wpAny_of_eq (a := (Value.ref it, [])) rfl ?_)
  try dsimp only
  refine wpAny_bind (wpAny_field ho hd (x := .ref l) rfl ?_)
  try dsimp only
  refine wpAny_bind (wpAny_field ho hd (x := rawInt (i : Int)) rfl ?_)
  show wpAny _ _ (if (i : Int) < 0 then _ else _) _ _ s
  rw [if_neg (by omega)]
  refine wpAny_bind (wpAny_specialOf (T := "tuple") (name := Str.ofString "__getitem__") ⟨_, hol, rfl⟩ PySem.F.slot_tuple_getitem.lookup ?_)
  try dsimp only
  refine wpAny_ite_split (fun hab => absurd hab (by decide)) (fun _ => ?_)
  refine wpAny_bind (wpAny_mkInt ?_)
  refine wpAny_bind (wpAny_attempt (PySem.P.getItem_tuple (n := nl) (y := x) (k := i) hol (by omega) hi (idx_of (by omega) rfl (by have := (Array.getElem?_eq_some_iff.mp hx).1; omega)) hx ?_))
  try dsimp only
  refine wpAny_bind (wpAny_field (s := { s with toks := s.toks + 1 }) ho hd (x := rawInt (i : Int)) rfl ?_)
  show wpAny _ _ (setField (.ref it) 1 (rawInt ((i : Int) - 1)) >>= _) _ _ _
  refine wpAny_bind (wpAny_setField ho hd (by simp) ?_)
  refine wpAny_pure ⟨x, rfl, wpAny_pure (hQ _ _ ?_ (Heap.SameBut.update ..))⟩
  exact ⟨_, Heap.get?_update_self _ ho (Obj.isFreed_of_fields (Obj.data_mapFields hd _)), (Obj.cls_mapFields ..).trans hc, by rw [Obj.data_mapFields hd]; simp⟩
theorem end_rt {it l : Addr} {Q : Option Value → Shared → Prop} (hh : A.handled = none) (hit : IsRT s.heap it l (-1))
    (hQ : ∀ h', Heap.ExtBut it s.heap h' → Q none { s with heap := h' }) : wpAny (model prog w) A (pyNext (.ref it)) Q E s := by
  obtain ⟨o, ho, hc, hd⟩ := id hit
  unfold pyNext
  refine wpAny_bind (wpAny_attempt (wpAny_callSpecial?_slot (name := Str.ofString "__next__") hit.typeIs slot_rev_next
    (wpAny_call_entry slot_rev_next hit.typeIs entry_rev_next ?_ (args_rev_next _))))
  unfold Builtin.«reversed.__next__»
  refine wpAny_bind (wpAny_of_eq (a := (Value.ref it, [])) rfl ?_)
  try dsimp only
  refine wpAny_bind (wpAny_field ho hd (x := .ref l) rfl ?_)
  try dsimp only
  refine wpAny_bind (wpAny_field ho hd (x := rawInt (-1)) rfl ?_)
  show wpAny _ _ (if (-1 : Int) < 0 then _ else _) _ _ s
  rw [if_pos (by decide)]
  refine wpAny_bind (wpAny_rule ?_)
  refine wpAny_bind ?_
  wp_delta
  refine wpAny_bind (wpAny_setField ho hd (by simp) ?_)
  have ho1 := Heap.get?_update_self (h := s.heap) (Obj.mapFields (·.setIfInBounds 1 (rawInt (-1)))) ho (Obj.isFreed_of_fields (Obj.data_mapFields hd _))
  refine wpAny_setField ho1 (Obj.data_mapFields hd _) (by simp) ?_
  refine wpAny_bind ?_
  unfold Builtin.SmallTypes.stopIteration
  show wpAny _ _ (newExc (.type "StopIteration") [] >>= _) _ _ _
  refine wpAny_bind ?_
  simp only [newExc, newTuple]
  refine wpAny_bind (wpAny_newObj_type ?_ (by size_fits))
  refine wpAny_bind (m := firstArgMember _ _) (wpAny_of_eq (a := Value.none) (by first | rfl | (simp only [firstArgMember]; rfl)) ?_)
  refine wpAny_newObj_type ?_ (by size_fits)
  simp only [raiseNew]
  refine wpAny_bind (wpAny_handled ?_)
  first | rw [show A.in1.handled = none from hh] | rw [hh]
  refine wpAny_bind (wpAny_pure (wpAny_throw ?_))
  refine wpAny_bind (wpAny_isInstance (T := "StopIteration") (b := true) ⟨_, Heap.get?_push_size _ rfl, rfl⟩ isSubtype_stop ?_)
  exact wpAny_pure (hQ _ fun b o hb e => Heap.get?_push_of_some _ (Heap.get?_push_of_some _ ((Heap.get?_update_other _ _ (Ne.symm hb)).trans ((Heap.get?_update_other _ _ (Ne.symm hb)).trans e))))
end
theorem IsRT.at {h h' : Heap} {a l : Addr} {i : Int} (x : IsRT h a l i) (e : ∀ o, h.get? a = some o → h'.get? a = some o) : IsRT h' a l i := let ⟨o, ho, r⟩ := x; ⟨o, e _ ho, r⟩
theorem IsTp.at {h h' : Heap} {l : Addr} {items : Array Value} (x : IsTp h l items) (e : ∀ o, h.get? l = some o → h'.get? l = some o) : IsTp h' l items := let ⟨k, ho⟩ := x; ⟨k, e _ ho⟩
theorem walks_rt {prog : Program} {w : World} {A : Around} (hh : A.handled = none) (I l : Addr) (hne : l ≠ I) (items : Array Value) (h63 : (items.size : Int) < 2 ^ 63) :
    Walks prog w A I [I, l] [I] items.size (fun i v => items[items.size - 1 - i]? = some v) (fun i h => i ≤ items.size ∧ IsRT h I l ((items.size : Int) - 1 - (i : Int)) ∧ IsTp h l items) where
  sub := fun b hb => by simp at hb; simp [hb]
  frame := fun _ _ _ x hk => ⟨x.1, x.2.1.at fun o e => hk I (by simp) o e, x.2.2.at fun o e => hk l (by simp) o e⟩
  item := fun i s Q E hi x hQ => by
    have e : (items.size : Int) - 1 - (i : Int) = ((items.size - 1 - i : Nat) : Int) := by omega
    have hit := x.2.1
    rw [e] at hit
    have hx : items[items.size - 1 - i]? = some (items[items.size - 1 - i]'(by omega)) := Array.getElem?_eq_getElem (by omega)
    refine next_rt hit x.2.2 hx (by omega) fun h' tk hit' hs' => ?_
    have e2 : ((items.size - 1 - i : Nat) : Int) - 1 = (items.size : Int) - 1 - ((i + 1 : Nat) : Int) := by omega
    rw [e2] at hit'
    exact hQ _ h' tk hx ⟨hi, hit', x.2.2.at fun o eo => (hs'.2 l hne).trans eo⟩ fun b o hb eo => hs'.extBut b o (fun h => hb (by simp [h])) eo
  done := fun s Q E x hQ => by
    have e : (items.size : Int) - 1 - (items.size : Int) = -1 := by omega
    have hit := x.2.1
    rw [e] at hit
    exact end_rt hh hit fun h' he' => hQ h' s.toks fun b o hb eo => he' b o (fun h => hb (by simp [h])) eo
  self := fun _ _ _ _ x hQ => iter_rt x.2.1 hQ
end
section
set_option autoImplicit false
set_option linter.unusedVariables false
set_option linter.unusedSimpArgs false
set_option maxRecDepth 100000
open PySem PySem.SeqAt
theorem rev_no_len : typeLookup (.type "reversed") "__len__" = pure none := by rw [typeLookup_type, builtinLookup_eq_fast]; kernel_rfl
theorem slot_rev_hint : Slot "reversed" "__length_hint__" "reversed.__length_hint__" :=
  .of (owner := "reversed") (n := "__length_hint__") (by rw [typeLookup_type, builtinLookup_eq_fast]; kernel_rfl) (by decide +kernel) (by decide +kernel) (by decide +kernel)
    (by first | exact .inl (by decide +kernel) | exact .inr (by decide +kernel)) (by rw [isSubtype_type]; kernel_rfl)
theorem entry_rev_hint : entryFor table "reversed.__length_hint__" = some Builtin.«reversed.__length_hint__» := entryFor_of_tree (by kernel_rfl)
theorem args_rev_hint (a : Value) : argsOk "reversed.__length_hint__" ⟨[a], []⟩ := by
  unfold argsOk; rw [signature?_of (id := "reversed.__length_hint__") (n := "__length_hint__".toList.reverse) (o := ['d', 'e', 's', 'r', 'e', 'v', 'e', 'r']) (by kernel_rfl) owner_rev]; kernel_rfl
section
variable {prog : Program} {w : World} {A : Around} {E : Value → Shared → Prop} {s : Shared}
theorem hint_rt {it l : Addr} {items : Array Value} {Q : Bool → Shared → Prop} (hit : IsRT s.heap it l ((items.size : Int) - 1)) (hl : IsTp s.heap l items) (hsz : items.size ≤ lim)
    (h : ∀ b tk, Q b { s with toks := tk }) : wpAny (model prog w) A (Builtin.List.listLengthHint (.ref it)) Q E s := by
  obtain ⟨o, ho, hc, hd⟩ := id hit
  obtain ⟨nl, hol⟩ := id hl
  unfold Builtin.List.listLengthHint
  refine wpAny_bind (wpAny_specialOf hit.typeIs rev_no_len ?_)
  refine wpAny_bind (wpAny_specialOf (name := Str.ofString "__length_hint__") hit.typeIs slot_rev_hint.lookup ?_)
  generalize hid : ("reversed.__length_hint__" : String) = id0
  wp_delta
  rw [show splitId id0 = some ("reversed", "__length_hint__") from by subst hid; decide +kernel]
  subst hid
  refine wpAny_bind (wpAny_isInstance (T := "reversed") (b := true) hit.typeIs (by rw [isSubtype_type]; kernel_rfl) ?_)
  refine wpAny_ite_split (fun hab => absurd hab (by decide)) (fun _ => ?_)
  refine wpAny_ite_split (fun hab => absurd hab (by decide +kernel)) (fun _ => ?_)
  refine wpAny_bind (wpAny_rule ?_)
  refine wpAny_bind (wpAny_of_eq (slot_rev_hint.bind _) ?_)
  try dsimp only
  refine wpAny_bind (wpAny_attempt (wpAny_call_entry slot_rev_hint hit.typeIs entry_rev_hint ?_ (args_rev_hint _)))
  unfold Builtin.«reversed.__length_hint__»
  refine wpAny_bind (wpAny_of_eq (a := Value.ref it) rfl ?_)
  refine wpAny_bind (wpAny_field ho hd (x := .ref l) rfl ?_)
  refine wpAny_ite_split (fun hab => absurd hab Bool.false_ne_true) (fun _ => ?_)
  refine wpAny_bind (PySem.P.len_tuple (items := items) (n := nl) hol (Int.not_le.mpr (lim_lt63 hsz)) ?_)
  refine wpAny_bind (wpAny_of_eq (a := some (items.size : Int)) rfl ?_)
  try dsimp only
  refine wpAny_bind (wpAny_field (s := { s with toks := s.toks + 1 + 1 }) ho hd (x := rawInt ((items.size : Int) - 1)) rfl ?_)
  show wpAny _ _ (if (items.size : Int) < (items.size : Int) - 1 + 1 then _ else retInt ((items.size : Int) - 1 + 1)) _ _ _
  rw [if_neg (by omega), show (items.size : Int) - 1 + 1 = items.size from by omega]
  unfold retInt
  refine wpAny_bind (wpAny_mkInt ?_)
  refine wpAny_pure ⟨_, rfl, ?_⟩
  dsimp only
  rw [show asInt? (Value.int (items.size : Int) (s.toks + 1 + 1)) = pure (some (items.size : Int)) from rfl, pure_bind]
  dsimp only
  rw [if_neg (by rw [fitsIndex_of (Int.natCast_nonneg _) (lim_lt63 hsz)]; decide), if_neg (by omega), if_neg (by unfold Builtin.List.listTooLong; rw [Int.toNat_natCast, decide_eq_true_iff]; exact Nat.not_lt.mpr (Nat.le_trans hsz lim_le))]
  exact wpAny_pure (h _ _)
theorem rt_extend {R : Result → Shared → Prop} {I l S : Addr} {items : Array Value} (hh : A.handled = none) (hit : IsRT s.heap I l ((items.size : Int) - 1)) (hl : IsTp s.heap l items) (hSI : S ≠ I) (hSl : S ≠ l) (hlI : l ≠ I) (res : Value) (c₀ : Nat)
    (hS : s.heap.get? S = some { cls := .type "list", data := .seq #[] c₀ }) (hn : items.size ≤ lim)
    (hR : ∀ h' tk acc' c', (∀ b o, b ≠ S → b ≠ I → s.heap.get? b = some o → h'.get? b = some o) → h'.get? S = some { cls := .type "list", dict := none, data := .seq acc' c', slots := #[] } → ItemsOf (fun i v => items[items.size - 1 - i]? = some v) acc' items.size → R (.ok (.ret res)) { s with heap := h', toks := tk }) :
    wpAny (model prog w) A.in1 (Builtin.List.listExtendWith (.ref S) (.ref I) res)
      (fun fin s' => match fin with | .done f => R (.ok f) s' | .again c' => c'.quiet = true ∧ codeAny (model prog w) A c' R s') (fun e s' => R (.error e) s') s := by
  have W := walks_rt (prog := prog) (w := w) (A := A.in1) hh I l hlI items (lim_lt63 hn)
  have hSf : S ∉ [I, l] := by simp [hSI, hSl]
  have hn' : items.size ≤ sizeLine := Nat.le_trans hn lim_le
  have key : ∀ (h : Heap) (c₁ tk : Nat), (∀ b o, b ≠ S → s.heap.get? b = some o → h.get? b = some o) → h.get? S = some { cls := .type "list", data := .seq #[] c₁ } →
      codeAny (model prog w) A (.builtin "list.extend.loop" ⟨[.ref S, .ref I, res], []⟩) R { s with heap := h, toks := tk } := by
    intro h c₁ tk hk hS₁
    refine codeAny_extend_loopS W.toS hn' S hSf res items.size 0 _ #[] c₁ rfl (Nat.zero_le _) ⟨Nat.zero_le _, by simpa using hit.at fun o e => hk I o (Ne.symm hSI) e, hl.at fun o e => hk l o (Ne.symm hSl) e⟩ hS₁ (ItemsOf.nil _) fun s' acc' c' hm hS' hacc => ?_
    rw [Moved.eq_with hm]
    refine hR s'.heap s'.toks acc' c' (fun b o hb hbI e => hm.heap b o (fun hmem => ?_) (hk b o hb e)) hS' hacc
    rcases List.mem_cons.mp hmem with e' | hmem
    · exact hb e'
    · exact hbI (List.mem_singleton.mp hmem)
  unfold Builtin.List.listExtendWith
  refine wpAny_bind (wpAny_typeOf (T := "reversed") hit.typeIs ?_)
  have h1 : Builtin.List.listSameRef (.ref S) (.ref I) = false := by simp [Builtin.List.listSameRef, hSI]
  have h2 : (Value.type "reversed" == Value.type "list") = false := by decide
  have h3 : (Value.type "reversed" == Value.type "tuple") = false := by decide
  simp only [h1, h2, h3, Bool.or_false, Bool.false_eq_true, if_false]
  refine wpAny_bind (iter_rt hit ?_)
  refine wpAny_bind (wpAny_holding (hint_rt hit hl hn fun b tk => ?_))
  refine wpAny_ite_split (fun _ => ?_) (fun _ => wpAny_pure ⟨plainId_quiet PySem.F.plain_extend_loop _, key _ c₀ _ (fun b o _ e => e) hS⟩)
  refine wpAny_bind (wpAny_rule ?_)
  refine wpAny_bind ?_
  show wpAny _ _ (updateSeq S (·.push .none) >>= fun _ => updateSeq S (·.pop)) _ _ _
  refine wpAny_bind (wpAny_updateSeq hS rfl ?_)
  have hS₂ := Heap.get?_update_self (Obj.mapSeq (·.push Value.none)) hS rfl
  refine wpAny_updateSeq (hz := by seq_fits) hS₂ rfl ?_
  have hS₃ := Heap.get?_update_self (Obj.mapSeq (·.pop)) hS₂ rfl
  exact wpAny_pure ⟨plainId_quiet PySem.F.plain_extend_loop _, key _ _ _ (fun b o hb e => (Heap.get?_update_other _ _ (Ne.symm hb)).trans ((Heap.get?_update_other _ _ (Ne.symm hb)).trans e)) hS₃⟩
theorem rt_call {Q : Value → Shared → Prop} {I l : Addr} {items : Array Value} (hh : A.handled = none) (hit : IsRT s.heap I l ((items.size : Int) - 1)) (hl : IsTp s.heap l items) (hlI : l ≠ I) (hn : items.size ≤ lim)
    (hQ : ∀ h' tk acc' c', (∀ b o, b ≠ I → s.heap.get? b = some o → h'.get? b = some o) → h'.get? s.heap.objs.size = some { cls := .type "list", dict := none, data := .seq acc' c', slots := #[] } → ItemsOf (fun i v => items[items.size - 1 - i]? = some v) acc' items.size → Q (.ref s.heap.objs.size) { s with heap := h', toks := tk }) :
    wpAny (model prog w) A (call (.type "list") [.ref I]) Q E s := by
  refine callType_codes (Q₁ := fun obj s₁ => obj = .ref s.heap.objs.size ∧ s₁ = { s with heap := s.heap.push { cls := .type "list", data := .seq #[] } }) PySem.F.called_list (PySem.F.typeCall_list_1 _) PySem.F.entry_list_init
    (code_list_new _ ⟨rfl, rfl⟩) fun obj s₁ h₁ => ?_
  obtain ⟨rfl, rfl⟩ := h₁
  have hS : (s.heap.push { cls := .type "list", data := .seq #[] }).get? s.heap.objs.size = some { cls := .type "list", data := .seq #[] } := Heap.get?_push_size _ rfl
  obtain ⟨oI, hoI, hI2⟩ := id hit
  obtain ⟨kl, hol⟩ := id hl
  have hSI : s.heap.objs.size ≠ I := Nat.ne_of_gt (Heap.lt_size hoI)
  have hSl : s.heap.objs.size ≠ l := Nat.ne_of_gt (Heap.lt_size hol)
  refine ⟨⟨_, hS, rfl⟩, PySem.F.args_list_init_2 _ _, ?_⟩
  show wpAny _ _ (do let old ← Builtin.List.listItems (.ref s.heap.objs.size); Builtin.List.listUpdate (.ref s.heap.objs.size) (fun _ => #[]); letGo old.toList.reverse; Builtin.List.listExtendWith (.ref s.heap.objs.size) (.ref I) .none) _ _ _
  refine wpAny_bind ?_
  unfold Builtin.List.listItems
  refine wpAny_bind (wpAny_seqItems hS rfl (wpAny_pure ?_))
  show wpAny _ _ (updateSeq s.heap.objs.size (fun _ => #[]) >>= fun _ => letGo (#[] : Array Value).toList.reverse >>= fun _ => Builtin.List.listExtendWith (.ref s.heap.objs.size) (.ref I) .none) _ _ _
  refine wpAny_bind (wpAny_updateSeq hS rfl ?_)
  have hS₂ := Heap.get?_update_self (Obj.mapSeq (fun _ => (#[] : Array Value))) hS rfl
  have oth : ∀ b o, b ≠ s.heap.objs.size → s.heap.get? b = some o → ((s.heap.push { cls := .type "list", data := .seq #[] }).update s.heap.objs.size (Obj.mapSeq (fun _ => (#[] : Array Value)))).get? b = some o :=
    fun b o hb e => (Heap.get?_update_other _ _ (Ne.symm hb)).trans (Heap.get?_push_of_some _ e)
  refine wpAny_bind (wpAny_letGo ?_)
  refine rt_extend (A := A.in1) (l := l) hh ⟨oI, oth _ _ hSI.symm hoI, hI2⟩ ⟨kl, oth _ _ hSl.symm hol⟩ hSI hSl hlI .none _ hS₂ hn (fun h' tk acc' c' hk hS' hacc => ?_)
  exact ⟨rfl, hQ h' tk acc' c' (fun b o hb e => hk b o (Nat.ne_of_lt (Heap.lt_size e)) hb (oth b o (Nat.ne_of_lt (Heap.lt_size e)) e)) hS' hacc⟩
end
section
variable {C : Cx} {hb : Heap} {prog : Program} {w : World} {sc cs : Scope} {n : Nat} {md : List Addr} {fl : Bool} {x : Str} {σ : St}
theorem Call_revT {a : Addr} {xs : List MV} {Q : MV → St → Prop} (F : Fx C hb prog w sc n md fl) (hh : Has σ a (.tup xs))
    (h : ∀ b, Fsh md σ b → Q (.ref b) { σ with own := (b, .raw (revT a ((xs.length : Int) - 1))) :: σ.own }) : CallV C (.type "reversed") [.ref a] σ Q := fun vs hvs s H => by
  obtain ⟨v, rfl, hv⟩ := hvs.one
  obtain rfl : v = .ref a := hv
  obtain ⟨vs, nn, hob, hr, hlim⟩ := H.has hh
  have hsz : vs.size = xs.length := by have := hr.length; simp at this; exact this.symm
  refine call_revT (items := vs) hob (by rw [hsz]; exact lim_lt63 hlim) fun tk => ?_
  rw [hsz]
  exact ⟨.ref _, _, rfl, (H.new (mo := .raw _) (Heap.get?_push_size _ rfl)).toks tk, h _ (F.emod ▸ H.fsh F.ok)⟩
theorem Call_listRevT {a b : Addr} {xs : List MV} {l : Loc} {B : MH} {own : Own} {Q : MV → St → Prop} (F : Fx C hb prog w sc n md fl) (hm : b ∉ md) (hh : Has ⟨l, B, own⟩ a (.tup xs))
    (h : ∀ d, Fsh md ⟨l, B, own⟩ d → Q (.ref d) ⟨l, B, (d, .list xs.reverse) :: own⟩) : CallV C (.type "list") [.ref b] ⟨l, B, (b, .raw (revT a ((xs.length : Int) - 1))) :: own⟩ Q := fun vs hvs s H => by
  obtain ⟨v, rfl, hv⟩ := hvs.one
  obtain rfl : v = .ref b := hv
  have hrev : s.heap.get? b = some (revT a ((xs.length : Int) - 1)) := H.own (b, _) (.head _)
  have hh' : Has ⟨l, B, (b, .raw (revT a ((xs.length : Int) - 1))) :: own⟩ a (.tup xs) := hh.imp (fun h => .tail _ h) id
  obtain ⟨vs, nn, hob, hr, hlim⟩ := H.has hh'
  have hsz : vs.size = xs.length := by have := hr.length; simp at this; exact this.symm
  have hab : a ≠ b := fun e => by subst e; rw [hob] at hrev; have := congrArg (Option.map (·.cls)) hrev; simp [revT] at this
  refine rt_call (l := a) (items := vs) F.ok.handled ⟨_, hrev, rfl, by rw [hsz]; rfl⟩ ⟨nn, hob⟩ hab (by rw [hsz]; exact hlim) fun h' tk acc c' hk hD hacc => ?_
  have H0 : Holds C ⟨l, B, own⟩ { s with heap := h', toks := tk } := H.lose F.ok (by rw [F.emod]; exact hm) hk rfl rfl
  have H1 : Holds C ⟨l, B, own⟩ s := H.drop (Sub0.rfl' _) H.B0 (List.sublist_cons_self ..)
  have hf := H1.fshAt F.ok (Nat.le_refl s.heap.objs.size)
  refine ⟨.ref _, ⟨l, B, (s.heap.objs.size, .list xs.reverse) :: own⟩, rfl, ?_, h _ (F.emod ▸ hf)⟩
  refine H0.addO (fresh_facts H1) ⟨acc, c', hD, vsR_of _ _ (by rw [Array.length_toList, hacc.1, List.length_reverse, hsz]) fun i v hv => ?_, by simpa using hlim⟩
  have hi := (List.getElem?_eq_some_iff.mp hv).1
  rw [Array.length_toList, hacc.1] at hi
  have hx := hacc.2 i v (by rw [← Array.getElem?_toList]; exact hv)
  have hi' : i < xs.length := by omega
  replace hx : vs[vs.size - 1 - i]? = some v := hx
  rw [← Array.getElem?_toList] at hx
  refine ⟨xs.reverse[i]'(by simpa using hi'), by simp [hi'], ?_⟩
  obtain ⟨u, hu, hur⟩ := hr.get (i := vs.size - 1 - i) (m := xs[xs.length - 1 - i]'(by omega)) (by rw [hsz]; exact List.getElem?_eq_getElem (by omega))
  rw [hx] at hu
  cases hu
  rw [List.getElem_reverse]
  exact hur
end
end
section
set_option autoImplicit false
set_option linter.unusedVariables false
set_option linter.unusedSimpArgs false
set_option maxRecDepth 100000
open PySem
abbrev P := PySem.Challenge.pw_uf010028_08
abbrev i_is_number : Nat := 6
abbrev i_is_within : Nat := 7
abbrev i_is_row : Nat := 8
abbrev i_need_rows : Nat := 9
abbrev i_done : Nat := 10
abbrev i_gone_back : Nat := 12
abbrev i_moved_on : Nat := 13
abbrev i_walk : Nat := 14
abbrev i_told : Nat := 15
abbrev i_cell_at : Nat := 17
abbrev i_number_by : Nat := 18
abbrev i_law_ints : Nat := 19
abbrev i_law_ended : Nat := 20
abbrev i_law_out : Nat := 21
abbrev i_law_step : Nat := 22
abbrev i_law_asks : Nat := 23
abbrev i_law_walk : Nat := 24
abbrev i_law_side : Nat := 25
abbrev i_law_bare : Nat := 26
abbrev i_law_closed : Nat := 27
abbrev i_law_body_by : Nat := 28
abbrev i_law_rows_in : Nat := 29
abbrev i_law : Nat := 30
abbrev FnAt (hb : Heap) (f : Addr) (i : Nat) : Prop := FnIs hb f (paramsAt P i) (bodyAt P i) (scopeAt P i)
variable {hb : Heap} {w : World} {f : Addr} {n : Nat}
def cellZ (ns : List Int) (k : Int) : Int := ns.getD k.toNat 0
def S_cell : Spec := fun args B own Q => own = [] ∧ ∃ a ns k, args = [.ref a, .int k] ∧ B a = some (.ro (ns.map MV.int)) ∧ 0 ≤ k ∧ Q (.int (cellZ ns k)) B []
theorem ct_cell (F : FnAt hb f i_cell_at) (hlim : hb.NoLimit) (glen : Gl hb "len" (.oth (.builtin "len"))) : Contract P w hb (.ref f) (n + 1) S_cell := by
  refine Contract.of F hlim (by rintro args B own Q ⟨_, a, ns, k, e, _⟩; subst e; rfl) ?_
  rintro C args B own Q F' ⟨rfl, a, ns, k, rfl, hB, hk, hQ⟩
  show Sts C (bodyAt P i_cell_at) ⟨[(Str.ofString "_law_script", _), (Str.ofString "_law_k", _)], B, []⟩ _
  refine Sts_cons ?_
  walk_at "m"
  refine if_dec (fun hc => ?_) (fun hc => ?_)
  · walk_at "m"
    simp at hc
    have hlt : k.toNat < ns.length := by omega
    refine SubG_ro (by walk_at "m has") hk (m := .int (cellZ ns k)) (by simp [cellZ, hlt]) ?_
    exact ⟨_, .refl _, hQ⟩
  · walk_at "m"
    simp at hc
    have hge : ns.length ≤ k.toNat := by omega
    refine ⟨_, .refl _, ?_⟩
    have : cellZ ns k = 0 := by simp [cellZ, List.getElem?_eq_none hge]
    rw [this] at hQ; exact hQ
theorem fmod_bounds (a : Int) {b : Int} (h : 0 < b) : 0 ≤ a.fmod b ∧ a.fmod b < b := ⟨Int.fmod_nonneg_of_pos a h, Int.fmod_lt_of_pos a h⟩
def Bits (c : Int) : Prop := Builtin.Int.intBits c ≤ 2000000
def S_number : Spec := fun args B own Q => own = [] ∧ ∃ c, args = [.int c] ∧ Bits c ∧ ∀ z, Q (.int z) B []
theorem mul_ok {c : Int} (h : Bits c) : IntMulOk c (10 ^ (59 : Int).toNat + 7) := by
  unfold IntMulOk
  intro h'
  simp only [Bool.and_eq_true] at h'
  have h2 := h'.2
  unfold Bits at h
  have hb : Builtin.Int.intBits (10 ^ (59 : Int).toNat + 7) ≤ 200 := by decide +kernel
  unfold Builtin.Int.intTooBig at h2
  have h3 := of_decide_eq_true h2
  unfold bitsLine at h3
  omega
theorem ct_number (F : FnAt hb f i_number_by) (hlim : hb.NoLimit) : Contract P w hb (.ref f) (n + 1) S_number := by
  refine Contract.of F hlim (by rintro args B own Q ⟨_, a, e, _⟩; subst e; rfl) ?_
  rintro C args B own Q F' ⟨rfl, c, rfl, hb, hQ⟩
  show Sts C (bodyAt P i_number_by) ⟨[(Str.ofString "_law_cell", _)], B, []⟩ _
  have hm := mul_ok hb
  have b2 := fmod_bounds (c.fdiv 9) (b := 2) (by decide)
  refine Sts_cons ?_
  walk_at "m"
  refine if_dec (fun hc => ?_) (fun hc => ?_)
  · walk_at "m"
    exact ⟨_, .refl _, hQ _⟩
  · walk_at "m"
    exact ⟨_, .refl _, hQ _⟩
structure Rw where
  add : Bool
  box : Int
  z : Int
  y : Int
def Rw.word (r : Rw) : Str := if r.add then Str.ofString "add" else Str.ofString "more"
def Rw.mv (r : Rw) : List MV := [.str r.word, .int r.box, .int r.z, .int r.y]
def Rw.Ok (many : Int) (r : Rw) : Prop := 0 ≤ r.box ∧ r.box < 4 ∧ 0 ≤ r.y ∧ r.y ≤ many ∧ (r.add = false → 0 ≤ r.z ∧ r.z ≤ many)
def TupsAt (B : MH) (as : List Addr) (rs : List Rw) : Prop := as.length = rs.length ∧ ∀ (i : Nat) (c : Addr) (r : Rw), as[i]? = some c → rs[i]? = some r → B c = some (.tup (Rw.mv r))
def RowsAt (B : MH) (b : Addr) (rs : List Rw) : Prop := ∃ as : List Addr, B b = some (.list (as.map MV.ref)) ∧ TupsAt B as rs
def RowsOk (rs : List Rw) : Prop := 1 ≤ rs.length ∧ rs.length ≤ 20 ∧ ∀ r ∈ rs, Rw.Ok rs.length r
theorem TupsAt.mono {B B' : MH} {as : List Addr} {rs : List Rw} (h : TupsAt B as rs) (s : Sub0 B B') : TupsAt B' as rs := ⟨h.1, fun i c r h1 h2 => s _ _ (h.2 i c r h1 h2)⟩
theorem Sub0.set {B : MH} {a : Addr} {o : MO} (h : B a = none) : Sub0 B (setB B a o) := fun b o' hb' => by
  rw [setB_ne fun e => by subst e; rw [h] at hb'; cases hb']; exact hb'
theorem Sub0.trans {B B' B'' : MH} (h : Sub0 B B') (h' : Sub0 B' B'') : Sub0 B B'' := fun a o x => h' a o (h a o x)
theorem range_item {k i : Nat} {m : MV} (h : ((List.range k).map fun (j : Nat) => MV.int (j : Int))[i]? = some m) : i < k ∧ m = .int i := by
  rw [List.getElem?_map] at h
  by_cases hi : i < k
  · rw [List.getElem?_range hi] at h; simp at h; exact ⟨hi, h.symm⟩
  · rw [List.getElem?_eq_none (by simp; omega)] at h; cases h
theorem bits_cell {ns : List Int} (h : ∀ z ∈ ns, Bits z) (k : Int) : Bits (cellZ ns k) := by
  unfold cellZ
  rw [List.getD_eq_getElem?_getD]
  cases e : ns[k.toNat]? with
  | none => show Bits 0; unfold Bits; decide +kernel
  | some z => exact h z (List.mem_of_getElem? e)
def S_is_number : Spec := fun args B own Q => own = [] ∧ ∃ i : Int, args = [.int i] ∧ Q (.bool true) B []
theorem ct_is_number (F : FnAt hb f i_is_number) (hlim : hb.NoLimit) (g1 : Gl hb "isinstance" (.oth (.builtin "isinstance"))) (g2 : Gl hb "int" (.oth (.type "int"))) (g3 : Gl hb "bool" (.oth (.type "bool"))) : Contract P w hb (.ref f) (n + 1) S_is_number := by
  refine Contract.of F hlim (by rintro args B own Q ⟨_, a, e, _⟩; subst e; rfl) ?_
  rintro C args B own Q F' ⟨rfl, i, rfl, hQ⟩
  show Sts C (bodyAt P i_is_number) ⟨[(Str.ofString "thing", _)], B, []⟩ _
  refine Sts_cons ?_
  walk_at "m"
  exact ⟨_, .refl _, hQ⟩
def S_is_within : Spec := fun args B own Q => own = [] ∧ ∃ i a b : Int, args = [.int i, .int a, .int b] ∧ Q (.bool (decide (a ≤ i ∧ i ≤ b))) B []
theorem ct_is_within (F : FnAt hb f i_is_within) (hlim : hb.NoLimit) (h1 : FnC P w hb "is_number" 1 S_is_number) : Contract P w hb (.ref f) 2 S_is_within := by
  refine Contract.of F hlim (by rintro args B own Q ⟨_, a, b, c, e, _⟩; subst e; rfl) ?_
  rintro C args B own Q F' ⟨rfl, i, a, b, rfl, hQ⟩
  show Sts C (bodyAt P i_is_within) ⟨[(Str.ofString "thing", _), (Str.ofString "least", _), (Str.ofString "most", _)], B, []⟩ _
  refine Sts_cons ?_
  walk_at "m"
  refine ⟨rfl, _, rfl, ?_⟩
  walk_at "m"
  refine if_dec (fun hc => ?_) (fun hc => ?_)
  · walk_at "m"
    refine ⟨_, .refl _, ?_⟩
    have e : decide (a ≤ i ∧ i ≤ b) = decide (i ≤ b) := by simp [hc]
    rw [e] at hQ; exact hQ
  · refine ⟨_, .refl _, ?_⟩
    have e : decide (a ≤ i ∧ i ≤ b) = decide (a ≤ i) := by simp [hc]
    rw [e] at hQ; exact hQ
def S_is_row : Spec := fun args B own Q => own = [] ∧ ∃ (c : Addr) (many : Int) (r : Rw), args = [.ref c, .int many] ∧ B c = some (.tup (Rw.mv r)) ∧ Rw.Ok many r ∧ Q (.bool true) B []
theorem word_add {r : Rw} (h : r.add = true) : r.word = Str.ofString "add" := by simp [Rw.word, h]
theorem word_more {r : Rw} (h : r.add = false) : r.word = Str.ofString "more" := by simp [Rw.word, h]
theorem ct_is_row (F : FnAt hb f i_is_row) (hlim : hb.NoLimit) (h1 : FnC P w hb "is_number" 1 S_is_number) (h2 : FnC P w hb "is_within" 2 S_is_within) (glen : Gl hb "len" (.oth (.builtin "len"))) (gb : Gl hb "BOXES" (.int 4)) : Contract P w hb (.ref f) 3 S_is_row := by
  refine Contract.of F hlim (by rintro args B own Q ⟨_, a, b, c, e, _⟩; subst e; rfl) ?_
  rintro C args B own Q F' ⟨rfl, c, many, r, rfl, hB, ⟨o1, o2, o3, o4, o5⟩, hQ⟩
  show Sts C (bodyAt P i_is_row) ⟨[(Str.ofString "row", _), (Str.ofString "size", _)], B, []⟩ _
  refine Sts_cons ?_
  walk_at "m"
  refine if_ntrue (by rfl) ?_
  walk_at "m"
  refine ⟨rfl, _, _, _, rfl, ?_⟩
  walk_at "m"
  refine if_ntrue ⟨by omega, by omega⟩ ?_
  walk_at "m"
  refine ⟨rfl, _, _, _, rfl, ?_⟩
  walk_at "m"
  refine if_ntrue ⟨o3, o4⟩ ?_
  walk_at "m"
  cases hr : r.add with
  | true =>
    refine if_pos' (word_add hr) ?_
    walk_at "m"
    refine ⟨rfl, _, rfl, ?_⟩
    exact ⟨_, .refl _, hQ⟩
  | false =>
    refine if_neg' (by rw [word_more hr]; exact ofString_ne (by decide)) ?_
    walk_at "m"
    refine if_pos' (word_more hr) ?_
    walk_at "m"
    refine ⟨rfl, _, _, _, rfl, ⟨_, .refl _, ?_⟩⟩
    have e : decide (0 ≤ r.z ∧ r.z ≤ many) = true := by simpa using o5 hr
    rw [e]; exact hQ
theorem TupsAt.get {B : MH} {as : List Addr} {rs : List Rw} (h : TupsAt B as rs) {i : Nat} {r : Rw} (hr : rs[i]? = some r) : ∃ c, as[i]? = some c ∧ B c = some (.tup (Rw.mv r)) := by
  have hi : i < rs.length := (List.getElem?_eq_some_iff.mp hr).1
  have hi' : i < as.length := by rw [h.1]; exact hi
  have : as[i]? = some as[i] := List.getElem?_eq_getElem hi'
  exact ⟨_, this, h.2 i _ r this hr⟩
theorem TupsAt.geta {B : MH} {as : List Addr} {rs : List Rw} (h : TupsAt B as rs) {i : Nat} {c : Addr} (hr : as[i]? = some c) : ∃ r, rs[i]? = some r ∧ B c = some (.tup (Rw.mv r)) := by
  have hi : i < as.length := (List.getElem?_eq_some_iff.mp hr).1
  have hi' : i < rs.length := by rw [← h.1]; exact hi
  have : rs[i]? = some rs[i] := List.getElem?_eq_getElem hi'
  exact ⟨_, this, h.2 i c _ hr this⟩
def S_need_rows : Spec := fun args B own Q => own = [] ∧ ∃ (b : Addr) (rs : List Rw), args = [.ref b] ∧ RowsAt B b rs ∧ RowsOk rs ∧ Q .none B []
theorem ct_need_rows (F : FnAt hb f i_need_rows) (hlim : hb.NoLimit) (h1 : FnC P w hb "is_row" 3 S_is_row) (glen : Gl hb "len" (.oth (.builtin "len"))) (gm : Gl hb "MOST_ROWS" (.int 20)) : Contract P w hb (.ref f) 4 S_need_rows := by
  refine Contract.of F hlim (by rintro args B own Q ⟨_, a, b, e, _⟩; subst e; rfl) ?_
  rintro C args B own Q F' ⟨rfl, b, rs, rfl, ⟨as, hB, ht⟩, ⟨k1, k2, k3⟩, hQ⟩
  show Sts C (bodyAt P i_need_rows) ⟨[(Str.ofString "rows", _)], B, []⟩ _
  refine Sts_cons ?_
  have hl := ht.1
  walk_at "m"
  refine if_pos' (by simp; omega) ?_
  walk_at "m"
  refine if_ntrue (by simp; omega) ?_
  walk_at "m"
  refine Stm_ForC F' (fun _ => rfl) ?_
  walk_at "m"
  refine ⟨_, fun _ σ' => σ' = ⟨[(Str.ofString "rows", .ref b)], B, []⟩, ⟨b, rfl, .inl hB⟩, ⟨_, .refl _, rfl⟩, ?_, ?_⟩
  · rintro C' F1 i σ' m rfl hm
    rw [List.getElem?_map] at hm
    cases e : as[i]? with
    | none => rw [e] at hm; cases hm
    | some c =>
      rw [e] at hm; simp at hm; subst hm
      obtain ⟨r, hr, hc⟩ := ht.geta e
      walk_at "m"
      refine ⟨rfl, _, _, r, rfl, hc, by rw [List.length_map, hl]; exact k3 r (List.mem_of_getElem? hr), ?_⟩
      walk_at "m"
      exact ⟨_, .pre [(Str.ofString "row", .ref c)] rfl, rfl⟩
  · rintro C' F1 σ' rfl
    walk_at "m"
    exact ⟨_, .refl _, hQ⟩
def boxZ (bs : List Int) (k : Int) : Int := bs.getD k.toNat 0
def doRow (r : Rw) (bs : List Int) : List Int × Int :=
  if r.add then (bs.set r.box.toNat (boxZ bs r.box + r.z), r.y) else (bs, if 0 < boxZ bs r.box then r.z else r.y)
theorem box_get {bs : List Int} {k : Int} (h0 : 0 ≤ k) (h1 : k < bs.length) : (bs.map MV.int)[k.toNat]? = some (.int (boxZ bs k)) := by
  have : k.toNat < bs.length := by omega
  simp [boxZ, this]
def S_done : Spec := fun args B own Q => ∃ (c x : Addr) (r : Rw) (bs : List Int), args = [.ref c, .ref x] ∧ own = [(x, .list (bs.map MV.int))] ∧ B c = some (.tup (Rw.mv r)) ∧ 0 ≤ r.box ∧ r.box < bs.length ∧
  Q (.int (doRow r bs).2) B [(x, .list ((doRow r bs).1.map MV.int))]
theorem ct_done (F : FnAt hb f i_done) (hlim : hb.NoLimit) : Contract P w hb (.ref f) (n + 1) S_done := by
  refine Contract.of F hlim (by rintro args B own Q ⟨_, _, a, b, e, _⟩; subst e; rfl) ?_
  rintro C args B own Q F' ⟨c, x, r, bs, rfl, rfl, hB, b0, b1, hQ⟩
  show Sts C (bodyAt P i_done) ⟨[(Str.ofString "row", _), (Str.ofString "boxes", _)], B, _⟩ _
  refine Sts_cons ?_
  walk_at "m"
  cases hr : r.add with
  | true =>
    refine if_pos' (word_add hr) ?_
    have e : doRow r bs = (bs.set r.box.toNat (boxZ bs r.box + r.z), r.y) := by simp [doRow, hr]
    rw [e] at hQ
    walk_at "m"
    refine SubG_list (by walk_at "m has") b0 (box_get b0 b1) ?_
    walk_at "m"
    walk_at "m set"
    walk_at "m"
    refine ⟨_, .refl _, ?_⟩
    rw [← List.map_set] 
    exact hQ
  | false =>
    refine if_neg' (by rw [word_more hr]; exact ofString_ne (by decide)) ?_
    have e : doRow r bs = (bs, if 0 < boxZ bs r.box then r.z else r.y) := by simp [doRow, hr]
    rw [e] at hQ
    walk_at "m"
    refine SubG_list (by walk_at "m has") b0 (box_get b0 b1) ?_
    walk_at "m"
    refine if_dec (fun hc => ?_) (fun hc => ?_)
    · rw [if_pos hc] at hQ
      walk_at "m"
      exact ⟨_, .refl _, hQ⟩
    · rw [if_neg hc] at hQ
      walk_at "m"
      exact ⟨_, .refl _, hQ⟩
def dfRw : Rw := ⟨true, 0, 0, 0⟩
def rowZ (rs : List Rw) (k : Int) : Rw := rs.getD k.toNat dfRw
theorem row_get {rs : List Rw} {k : Int} (h0 : 0 ≤ k) (h1 : k < rs.length) : rs[k.toNat]? = some (rowZ rs k) := by
  have : k.toNat < rs.length := by omega
  simp [rowZ, this]
theorem doRow_len {r : Rw} {bs : List Int} : (doRow r bs).1.length = bs.length := by
  unfold doRow; split <;> simp
theorem rowZ_ok {rs : List Rw} (h : RowsOk rs) {k : Int} (h0 : 0 ≤ k) (h1 : k < rs.length) : Rw.Ok rs.length (rowZ rs k) := h.2.2 _ (List.mem_of_getElem? (row_get h0 h1))
def S_law_ints : Spec := fun args B own Q => ∃ (a b : Addr) (xs : List Int), args = [.ref a, .ref b] ∧ Has ⟨[], B, own⟩ a (.list (xs.map MV.int)) ∧ Has ⟨[], B, own⟩ b (.list (xs.map MV.int)) ∧ xs.length ≤ 1000 ∧ Q (.bool true) B own
theorem ct_law_ints (F : FnAt hb f i_law_ints) (hlim : hb.NoLimit) (glen : Gl hb "len" (.oth (.builtin "len"))) (gr : Gl hb "range" (.oth (.type "range"))) (g1 : Gl hb "isinstance" (.oth (.builtin "isinstance"))) (g2 : Gl hb "int" (.oth (.type "int"))) (g3 : Gl hb "bool" (.oth (.type "bool"))) (g4 : Gl hb "list" (.oth (.type "list"))) :
    Contract P w hb (.ref f) (n + 1) S_law_ints := by
  refine Contract.of F hlim (by rintro args B own Q ⟨_, _, _, e, _⟩; subst e; rfl) ?_
  rintro C args B own Q F' ⟨a, b, xs, rfl, ha, hb', hlen, hQ⟩
  show Sts C (bodyAt P i_law_ints) ⟨[(Str.ofString "_law_found", _), (Str.ofString "_law_due", _)], B, own⟩ _
  have ha2 : ∀ l o, Has ⟨l, B, o ++ own⟩ a (.list (xs.map MV.int)) := fun l o => ha.imp (fun h => List.mem_append_right _ h) id
  have hb2 : ∀ l o, Has ⟨l, B, o ++ own⟩ b (.list (xs.map MV.int)) := fun l o => hb'.imp (fun h => List.mem_append_right _ h) id
  have ha3 : ∀ l, Has ⟨l, B, own⟩ a (.list (xs.map MV.int)) := fun l => ha2 l []
  have hb3 : ∀ l, Has ⟨l, B, own⟩ b (.list (xs.map MV.int)) := fun l => hb2 l []
  refine Sts_cons ?_
  walk_at "m"
  refine isi_list_list (ha3 _) ?_
  walk_at "m"
  refine Call_len_list (ha3 _) ?_
  walk_at "m"
  refine Call_len_list (hb3 _) ?_
  walk_at "m"
  refine if_ntrue rfl ?_
  walk_at "m"
  refine Stm_ForC F' (fun _ => rfl) ?_
  walk_at "m"
  refine Call_len_list (hb3 _) ?_
  walk_at "m"
  refine Call_range (Int.natCast_nonneg _) (by rw [List.length_map]; exact Nat.le_of_succ_le (lim_ok (Nat.le_refl _) hlen)) fun ra => ?_
  refine ⟨_, fun _ σ' => σ' = ⟨[(Str.ofString "_law_found", .ref a), (Str.ofString "_law_due", .ref b)], B, own⟩, ⟨ra, rfl, .inr (.inr ⟨_, .inl (.head _), rfl⟩)⟩, ⟨_, .tl, rfl⟩, ?_, ?_⟩
  · rintro C' F1 i σ' m rfl hm
    obtain ⟨hib, rfl⟩ := range_item hm
    have hi : i < xs.length := by simp at hib; exact hib
    have hx : (xs.map MV.int)[(i : Int).toNat]? = some (.int (xs[i]'hi)) := by simp [hi]
    walk_at "m"
    refine SubG_list (ha3 _) (Int.natCast_nonneg _) hx ?_
    walk_at "m"
    refine SubG_list (ha3 _) (Int.natCast_nonneg _) hx ?_
    walk_at "m"
    refine SubG_list (ha3 _) (Int.natCast_nonneg _) hx ?_
    walk_at "m"
    refine SubG_list (hb3 _) (Int.natCast_nonneg _) hx ?_
    walk_at "m"
    refine if_ntrue rfl ?_
    walk_at "m"
    exact ⟨_, .pre [_] rfl, rfl⟩
  · rintro C' F1 σ' rfl
    walk_at "m"
    exact ⟨_, .refl _, hQ⟩
def S_law_ended : Spec := fun args B own Q => ∃ (t d x y tr : Addr) (s : Int) (o : Bool) (xs : List Int), args = [.ref t, .ref d] ∧ own = [(x, .list (xs.map MV.int))] ∧ B t = some (.tup [.ref x, .int s, .bool o]) ∧ B d = some (.list [.ref y, .int s, .bool o, .ref tr]) ∧ B y = some (.list (xs.map MV.int)) ∧ xs.length ≤ 1000 ∧ Q (.bool true) B own
theorem ct_law_ended (F : FnAt hb f i_law_ended) (hlim : hb.NoLimit) (h1 : FnO P w hb "_law_ints" 1 S_law_ints) (glen : Gl hb "len" (.oth (.builtin "len"))) (g1 : Gl hb "isinstance" (.oth (.builtin "isinstance"))) (g2 : Gl hb "int" (.oth (.type "int"))) (g3 : Gl hb "bool" (.oth (.type "bool"))) (g4 : Gl hb "tuple" (.oth (.type "tuple"))) :
    Contract P w hb (.ref f) 2 S_law_ended := by
  refine Contract.of F hlim (by rintro args B own Q ⟨_, _, _, _, _, _, _, _, e, _⟩; subst e; rfl) ?_
  rintro C args B own Q F' ⟨t, d, x, y, tr, s, o, xs, rfl, rfl, ht, hd, hy, hlen, hQ⟩
  show Sts C (bodyAt P i_law_ended) ⟨[(Str.ofString "_law_found", _), (Str.ofString "_law_due", _)], B, _⟩ _
  refine Sts_cons ?_
  walk_at "m"
  refine if_ntrue rfl ?_
  walk_at "m"
  refine ⟨[(x, .list (xs.map MV.int))], [], .refl _, x, y, xs, rfl, .inl (.head _), .inr hy, hlen, ?_⟩
  walk_at "m"
  refine if_pos' rfl ?_
  walk_at "m"
  refine ⟨_, .refl _, ?_⟩
  rw [show (o == o) = true by simp]
  exact hQ
end
section
set_option autoImplicit false
set_option linter.unusedVariables false
set_option linter.unusedSimpArgs false
set_option maxRecDepth 100000
open PySem
variable {hb : Heap} {w : World} {f : Addr} {n : Nat}

/-! bodies in the heap -/
mutual
inductive DdAt (B : MH) : Addr → Dd → Prop
  | act {a : Addr} {r : Int} : B a = some (.tup [.str (Str.ofString "do"), .int r]) → DdAt B a (.act r)
  | choose {a ya na : Addr} {r : Int} {y no : List Dd} : B a = some (.tup [.str (Str.ofString "choose"), .int r, .ref ya, .ref na]) → BdAt B ya y → BdAt B na no → DdAt B a (.choose r y no)
  | block {a ba : Addr} {b : List Dd} : B a = some (.tup [.str (Str.ofString "block"), .ref ba]) → BdAt B ba b → DdAt B a (.block b)
  | loop {a ba : Addr} {b : List Dd} : B a = some (.tup [.str (Str.ofString "loop"), .ref ba]) → BdAt B ba b → DdAt B a (.loop b)
  | leave {a : Addr} {d : Nat} : B a = some (.tup [.str (Str.ofString "leave"), .int d]) → DdAt B a (.leave d)
  | again {a : Addr} {d : Nat} : B a = some (.tup [.str (Str.ofString "again"), .int d]) → DdAt B a (.again d)
  | stop {a : Addr} : B a = some (.tup [.str (Str.ofString "stop")]) → DdAt B a .stop
inductive BdAt (B : MH) : Addr → List Dd → Prop
  | mk {a : Addr} {as : List Addr} {ds : List Dd} : B a = some (.tup (as.map MV.ref)) → DsAt B as ds → BdAt B a ds
inductive DsAt (B : MH) : List Addr → List Dd → Prop
  | nil : DsAt B [] []
  | cons {a : Addr} {d : Dd} {as : List Addr} {ds : List Dd} : DdAt B a d → DsAt B as ds → DsAt B (a :: as) (d :: ds)
end
mutual
theorem DdAt.mono {B B' : MH} (s : Sub0 B B') : ∀ {a : Addr} {d : Dd}, DdAt B a d → DdAt B' a d
  | _, _, .act h => .act (s _ _ h)
  | _, _, .choose h h1 h2 => .choose (s _ _ h) (h1.mono s) (h2.mono s)
  | _, _, .block h h1 => .block (s _ _ h) (h1.mono s)
  | _, _, .loop h h1 => .loop (s _ _ h) (h1.mono s)
  | _, _, .leave h => .leave (s _ _ h)
  | _, _, .again h => .again (s _ _ h)
  | _, _, .stop h => .stop (s _ _ h)
theorem BdAt.mono {B B' : MH} (s : Sub0 B B') : ∀ {a : Addr} {d : List Dd}, BdAt B a d → BdAt B' a d
  | _, _, .mk h h1 => .mk (s _ _ h) (h1.mono s)
theorem DsAt.mono {B B' : MH} (s : Sub0 B B') : ∀ {a : List Addr} {d : List Dd}, DsAt B a d → DsAt B' a d
  | _, _, .nil => .nil
  | _, _, .cons h h1 => .cons (h.mono s) (h1.mono s)
end
theorem DsAt.length {B : MH} : ∀ {as : List Addr} {ds : List Dd}, DsAt B as ds → as.length = ds.length
  | _, _, .nil => rfl
  | _, _, .cons _ h => congrArg Nat.succ h.length
theorem DsAt.get {B : MH} : ∀ {as : List Addr} {ds : List Dd}, DsAt B as ds → ∀ {i : Nat} {d : Dd}, ds[i]? = some d → ∃ a, as[i]? = some a ∧ DdAt B a d
  | _, _, .nil, i, d, e => by simp at e
  | _, _, .cons (a := a) h _, 0, d, e => by simp at e; subst e; exact ⟨a, rfl, h⟩
  | _, _, .cons _ h, i + 1, d, e => by simpa using h.get (i := i) (by simpa using e)
theorem DsAt.append {B : MH} : ∀ {as as' : List Addr} {ds ds' : List Dd}, DsAt B as ds → DsAt B as' ds' → DsAt B (as ++ as') (ds ++ ds')
  | _, _, _, _, .nil, h => h
  | _, _, _, _, .cons h h1, h' => .cons h (h1.append h')
/-! piles in the heap: top first, with the frame's place and the body's place -/
def wordK : Kd → Str
  | .choose => Str.ofString "choose"
  | .block => Str.ofString "block"
  | .loop => Str.ofString "loop"
abbrev PL := List (Addr × Addr × Fr)
def frs (E : PL) : List Fr := E.map (·.2.2)
/-- as walk has them -/
def mvW (e : Addr × Addr × Fr) : List MV := [.ref e.2.1, .int e.2.2.2.2, .str (wordK e.2.2.1)]
/-- as the law has them -/
def mvL (e : Addr × Addr × Fr) : List MV := [.str (wordK e.2.2.1), .ref e.2.1, .int e.2.2.2.2]
def ownP (mv : Addr × Addr × Fr → List MV) (E : PL) : Own := E.map fun e => (e.1, .list (mv e))
def refsP (E : PL) : List MV := (E.reverse.map (·.1)).map MV.ref
theorem refsP_cons (e : Addr × Addr × Fr) (E : PL) : refsP (e :: E) = refsP E ++ [.ref e.1] := by simp [refsP]
def BodiesAt (B : MH) (E : PL) : Prop := ∀ e ∈ E, BdAt B e.2.1 e.2.2.2.1
theorem wordK_ch {k : Kd} : (wordK k = Str.ofString "choose") ↔ isCh k = true := by
  cases k with
  | choose => exact ⟨fun _ => rfl, fun _ => rfl⟩
  | block => exact ⟨fun h => absurd h (ofString_ne (by decide)), fun h => nomatch h⟩
  | loop => exact ⟨fun h => absurd h (ofString_ne (by decide)), fun h => nomatch h⟩
end
section
set_option autoImplicit false
set_option linter.unusedVariables false
set_option linter.unusedSimpArgs false
set_option maxRecDepth 100000
open PySem
variable {hb : Heap} {w : World} {f : Addr} {n : Nat}
theorem SubG_last {C : Cx} {σ : St} {a : Addr} {xs : List MV} {m : MV} {Q : MV → St → Prop} (hh : Has σ a (.list (xs ++ [m]))) (h : Q m σ) : SubG C (.ref a) (.int (-1)) σ Q := by
  have e : ((-1 : Int) + ((xs ++ [m]).length : Nat)).toNat = xs.length := by rw [List.length_append, List.length_singleton]; omega
  exact SubG_listNeg hh (by decide) (by rw [List.length_append, List.length_singleton]; omega) (by rw [e]; simp) h
def gbE : Nat → PL → PL
  | _, [] => []
  | d, e :: r => if isCh e.2.2.1 then gbE d r else match d with
    | 0 => e :: r
    | d + 1 => gbE d r
theorem gbE_frs : ∀ (d : Nat) (E : PL), frs (gbE d E) = gb d (frs E)
  | d, [] => rfl
  | d, (fa, ba, k, b, i) :: r => by
    show frs (if isCh k then gbE d r else _) = if isCh k then gb d (frs r) else _
    by_cases hk : isCh k = true
    · rw [if_pos hk, if_pos hk]; exact gbE_frs d r
    · rw [if_neg hk, if_neg hk]
      cases d with
      | zero => rfl
      | succ d => exact gbE_frs d r
theorem gbE_sub : ∀ (d : Nat) (E : PL), (gbE d E).Sublist E
  | d, [] => List.Sublist.refl _
  | d, e :: r => by
    unfold gbE
    split
    · exact (gbE_sub d r).trans (List.sublist_cons_self ..)
    · split
      · exact List.Sublist.refl _
      · exact (gbE_sub _ r).trans (List.sublist_cons_self ..)
def pileW (fr : Addr) (E : PL) : Own := (fr, .list (refsP E)) :: ownP mvW E
def S_gone_back : Spec := fun args B own Q => ∃ (fr : Addr) (d : Nat) (E : PL), args = [.ref fr, .int d] ∧ own = pileW fr E ∧ d < dep (frs E) ∧ Q .none B (pileW fr (gbE d E))
theorem ct_gone_back (F : FnAt hb f i_gone_back) (hlim : hb.NoLimit) : Contract P w hb (.ref f) (n + 1) S_gone_back := by
  refine Contract.of F hlim (by rintro args B own Q ⟨_, _, _, e, _⟩; subst e; rfl) ?_
  rintro C args B own Q F' ⟨fr, d, E, rfl, rfl, hd, hQ⟩
  show Sts C (bodyAt P i_gone_back) ⟨[(Str.ofString "frames", _), (Str.ofString "d", _)], B, _⟩ _
  refine Sts_cons ?_
  refine Stm_WhileC F' (fun k σ' => ∃ (E' : PL) (d' : Nat), k = E'.length ∧ σ' = ⟨[(Str.ofString "frames", .ref fr), (Str.ofString "d", .int d')], B, pileW fr E'⟩ ∧ d' < dep (frs E') ∧ gbE d' E' = gbE d E) ?_ E.length ⟨_, .refl _, E, d, rfl, rfl, hd, rfl⟩
  rintro k σ' ⟨E', d', rfl, rfl, hd', he⟩
  cases E' with
  | nil => simp [frs, dep] at hd'
  | cons e E' =>
    obtain ⟨fa, ba, k, b, i⟩ := e
    have hf : Has ⟨[(Str.ofString "frames", .ref fr), (Str.ofString "d", .int d')], B, pileW fr ((fa, ba, k, b, i) :: E')⟩ fr (.list (refsP E' ++ [.ref fa])) := .inl (by rw [← refsP_cons (fa, ba, k, b, i)]; exact .head _)
    have hg : Has ⟨[(Str.ofString "frames", .ref fr), (Str.ofString "d", .int d')], B, pileW fr ((fa, ba, k, b, i) :: E')⟩ fa (.list [.ref ba, .int i, .str (wordK k)]) := .inl (.tail _ (.head _))
    walk_at "m"
    refine SubG_last hf ?_
    walk_at "m"
    have eP : pileW fr ((fa, ba, k, b, i) :: E') = (fr, .list (refsP E' ++ [.ref fa])) :: ownP mvW ((fa, ba, k, b, i) :: E') := by rw [pileW, refsP_cons]
    refine if_dec (fun hc => ?_) (fun hc => ?_)
    · have hk := wordK_ch.mp hc
      have e1 : gbE d' ((fa, ba, k, b, i) :: E') = gbE d' E' := if_pos hk
      have e2 : dep (frs ((fa, ba, k, b, i) :: E')) = dep (frs E') := by show (if isCh k then 0 else 1) + dep (frs E') = _; rw [if_pos hk, Nat.zero_add]
      walk_at "m"
      refine SubG_last hf ?_
      walk_at "m"
      refine Cmp_neStr ?_
      walk_at "m"
      refine if_ntrue hc ?_
      walk_at "m"
      refine Ex_pop F' rfl rfl ?_
      walk_at "m"
      rw [eP]
      refine ⟨fr, refsP E', .ref fa, _, rfl, .head, ?_⟩
      walk_at "m"
      exact ⟨_, .own (List.Sublist.cons_cons _ (List.sublist_cons_self ..)), E'.length, Nat.lt_succ_self _, E', d', rfl, rfl, e2 ▸ hd', e1 ▸ he⟩
    · have hk : ¬ isCh k = true := fun h => hc (wordK_ch.mpr h)
      have e2 : dep (frs ((fa, ba, k, b, i) :: E')) = dep (frs E') + 1 := by show (if isCh k then 0 else 1) + dep (frs E') = _; rw [if_neg hk, Nat.add_comm]
      walk_at "m"
      cases d' with
      | zero =>
        refine if_neg' (by decide) ?_
        walk_at "m"
        refine ⟨_, .refl _, ?_⟩
        have e1 : gbE 0 ((fa, ba, k, b, i) :: E') = (fa, ba, k, b, i) :: E' := if_neg hk
        rw [e1] at he
        rw [he]
        exact hQ
      | succ d' =>
        have e1 : gbE (d' + 1) ((fa, ba, k, b, i) :: E') = gbE d' E' := if_neg hk
        refine if_pos' (Int.ofNat_lt.mpr (Nat.succ_pos d')) ?_
        walk_at "m"
        refine SubG_last hf ?_
        walk_at "m"
        refine Cmp_neStr ?_
        walk_at "m"
        refine if_nfalse hc ?_
        walk_at "m"
        refine Ex_pop F' rfl rfl ?_
        walk_at "m"
        rw [eP]
        refine ⟨fr, refsP E', .ref fa, _, rfl, .head, ?_⟩
        walk_at "m"
        rw [show (((d' + 1 : Nat) : Int) - 1) = (d' : Int) from Int.add_sub_cancel (d' : Int) 1]
        exact ⟨_, .own (List.Sublist.cons_cons _ (List.sublist_cons_self ..)), E'.length, Nat.lt_succ_self _, E', d', rfl, rfl, Nat.lt_of_succ_lt_succ (Nat.lt_of_lt_of_le hd' (Nat.le_of_eq e2)), e1 ▸ he⟩
end
section
set_option autoImplicit false
set_option linter.unusedVariables false
set_option linter.unusedSimpArgs false
set_option maxRecDepth 100000
open PySem
variable {hb : Heap} {w : World} {f : Addr} {n : Nat}
/-- where a deed that is no step leads -/
def nxP (q : List Fr) : Dd → List Fr
  | .block c => (.block, c, 0) :: q
  | .loop c => (.loop, c, 0) :: q
  | .leave d => (gb d q).tail
  | .again d => rewind (gb d q)
  | .stop => []
  | _ => q
def farOk (q : List Fr) : Dd → Prop
  | .leave d => d < dep q
  | .again d => d < dep q
  | _ => True
theorem sne {a b : String} (h : a ≠ b := by decide) : ¬ Str.ofString a = Str.ofString b := ofString_ne h
def S_moved_on : Spec := fun args B own Q => ∃ (fr da : Addr) (d : Dd) (E : PL), args = [.ref fr, .ref da] ∧ own = pileW fr E ∧ DdAt B da d ∧ isStep d = false ∧ farOk (frs E) d ∧ BodiesAt B E ∧ E.length + 1 ≤ lim ∧
  ∀ E' : PL, frs E' = nxP (frs E) d → BodiesAt B E' → Q .none B (pileW fr E')
theorem gbE_some {d : Nat} {E : PL} (h : d < dep (frs E)) : ∃ e r, gbE d E = e :: r := by
  induction E generalizing d with
  | nil => simp [frs, dep] at h
  | cons e E ih =>
    obtain ⟨fa, ba, k, b, i⟩ := e
    have h' : d < (if isCh k then 0 else 1) + dep (frs E) := h
    by_cases hk : isCh k = true
    · have e1 : gbE d ((fa, ba, k, b, i) :: E) = gbE d E := if_pos hk
      rw [e1]; exact ih (by rw [if_pos hk] at h'; omega)
    · cases d with
      | zero =>
        have e1 : gbE 0 ((fa, ba, k, b, i) :: E) = (fa, ba, k, b, i) :: E := if_neg hk
        exact ⟨_, _, e1⟩
      | succ d =>
        have e1 : gbE (d + 1) ((fa, ba, k, b, i) :: E) = gbE d E := if_neg hk
        rw [e1]; exact ih (by rw [if_neg hk] at h'; omega)
theorem BodiesAt.sub {B : MH} {E E' : PL} (h : BodiesAt B E) (s : E'.Sublist E) : BodiesAt B E' := fun e he => h e (s.subset he)
theorem ct_moved_on (F : FnAt hb f i_moved_on) (hlim : hb.NoLimit) (h1 : FnO P w hb "gone_back" 1 S_gone_back) : Contract P w hb (.ref f) 2 S_moved_on := by
  refine Contract.of F hlim (by rintro args B own Q ⟨_, _, _, _, e, _⟩; subst e; rfl) ?_
  rintro C args B own Q F' ⟨fr, da, d, E, rfl, rfl, hd, hst, hfar, hB, hlen, hQ⟩
  show Sts C (bodyAt P i_moved_on) ⟨[(Str.ofString "frames", _), (Str.ofString "deed", _)], B, (fr, .list (refsP E)) :: ownP mvW E⟩ _
  have hrl : (refsP E).length + 1 ≤ lim := by simpa [refsP] using hlen
  refine Sts_cons ?_
  have push : ∀ (k : Kd) (c : List Dd) (ba fa : Addr) (l : Loc), BdAt B ba c → (∀ E' : PL, frs E' = (k, c, 0) :: frs E → BodiesAt B E' → Q .none B (pileW fr E')) →
      End ((pileW fr E).map (·.1)) Q .none ⟨l, B, (fa, .list [.ref ba, .int 0, .str (wordK k)]) :: (fr, .list (refsP E ++ [.ref fa])) :: ownP mvW E⟩ := by
    intro k c ba fa l hc hQ'
    refine ⟨⟨l, B, pileW fr ((fa, ba, k, c, 0) :: E)⟩, ?_, hQ' ((fa, ba, k, c, 0) :: E) rfl fun e he => ?_⟩
    · show Cv _ _ ⟨l, B, (fr, .list (refsP ((fa, ba, k, c, 0) :: E))) :: (fa, .list [.ref ba, .int 0, .str (wordK k)]) :: ownP mvW E⟩
      rw [refsP_cons]
      exact .perm (List.Perm.swap ..)
    · rcases List.mem_cons.mp he with rfl | he
      · exact hc
      · exact hB e he
  cases hd with
  | act h => cases hst
  | choose h _ _ => cases hst
  | block h hb' =>
    walk_at "m"
    refine if_pos' rfl ?_
    walk_at "m"
    intro fa hfa
    walk_at "m"
    exact push .block _ _ fa _ hb' hQ
  | loop h hb' =>
    walk_at "m"
    refine if_neg' sne ?_
    walk_at "m"
    refine if_pos' rfl ?_
    walk_at "m"
    intro fa hfa
    walk_at "m"
    exact push .loop _ _ fa _ hb' hQ
  | leave h =>
    rename_i d
    obtain ⟨e, r, he⟩ := gbE_some (d := d) (E := E) hfar
    have hs := gbE_sub d E
    have hfr := gbE_frs d E
    rw [he] at hs hfr
    walk_at "m"
    refine if_neg' sne ?_
    walk_at "m"
    refine if_neg' sne ?_
    walk_at "m"
    refine if_pos' rfl ?_
    walk_at "m"
    refine ⟨pileW fr E, [], by rw [List.append_nil]; exact .refl _, fr, d, E, rfl, rfl, hfar, ?_⟩
    dsimp only
    rw [List.append_nil, he, show ∀ e r, pileW fr (e :: r) = (fr, .list (refsP r ++ [.ref e.1])) :: ownP mvW (e :: r) from fun e r => by rw [pileW, refsP_cons]]
    walk_at "m"
    refine Ex_pop F' rfl rfl ?_
    walk_at "m"
    refine ⟨fr, refsP r, .ref e.1, _, rfl, .head, ?_⟩
    walk_at "m"
    refine ⟨_, .own (List.Sublist.cons_cons _ (List.sublist_cons_self ..)), hQ r (by show frs r = (gb d (frs E)).tail; rw [← hfr]; rfl) (hB.sub ((List.sublist_cons_self ..).trans hs))⟩
  | again h =>
    rename_i d
    obtain ⟨⟨fa, ba, k, b, i⟩, r, he⟩ := gbE_some (d := d) (E := E) hfar
    have hs := gbE_sub d E
    have hfr := gbE_frs d E
    rw [he] at hs hfr
    walk_at "m"
    refine if_neg' sne ?_
    walk_at "m"
    refine if_neg' sne ?_
    walk_at "m"
    refine if_neg' sne ?_
    walk_at "m"
    refine if_pos' rfl ?_
    walk_at "m"
    refine ⟨pileW fr E, [], by rw [List.append_nil]; exact .refl _, fr, d, E, rfl, rfl, hfar, ?_⟩
    dsimp only
    rw [List.append_nil, he, show ∀ e r, pileW fr (e :: r) = (fr, .list (refsP r ++ [.ref e.1])) :: ownP mvW (e :: r) from fun e r => by rw [pileW, refsP_cons]]
    walk_at "m"
    refine SubG_last (.inl (.head _)) ?_
    walk_at "m"
    refine SetG_list F' (.tail .head) (by decide) (show (1 : Int) < ((3 : Nat) : Int) from by decide) ?_
    walk_at "m"
    refine ⟨⟨[(Str.ofString "frames", .ref fr), (Str.ofString "deed", .ref da)], B, pileW fr ((fa, ba, k, b, 0) :: r)⟩, ?_, hQ ((fa, ba, k, b, 0) :: r) (by show (k, b, 0) :: frs r = rewind (gb d (frs E)); rw [← hfr]; rfl) fun e' he' => ?_⟩
    · show Cv _ _ ⟨_, B, (fr, .list (refsP ((fa, ba, k, b, 0) :: r))) :: (fa, .list [.ref ba, .int 0, .str (wordK k)]) :: ownP mvW r⟩
      rw [refsP_cons]
      exact .refl _
    · rcases List.mem_cons.mp he' with rfl | he'
      · exact hB (fa, ba, k, b, i) (hs.subset List.mem_cons_self)
      · exact hB e' (hs.subset (List.mem_cons_of_mem _ he'))
  | stop h =>
    walk_at "m"
    refine if_neg' sne ?_
    walk_at "m"
    refine if_neg' sne ?_
    walk_at "m"
    refine if_neg' sne ?_
    walk_at "m"
    refine if_neg' sne ?_
    walk_at "m"
    refine Ex_clear F' rfl rfl ?_
    walk_at "m"
    refine ⟨fr, _, _, rfl, .head, ?_⟩
    walk_at "m"
    refine ⟨_, .own (List.Sublist.cons_cons _ (List.nil_sublist _)), hQ [] rfl fun e he => nomatch he⟩
end
section
set_option autoImplicit false
set_option linter.unusedVariables false
set_option linter.unusedSimpArgs false
set_option maxRecDepth 100000
open PySem
variable {hb : Heap} {w : World} {f : Addr} {n : Nat}
/-! the top frame's place -/
def topOk : List Fr → Prop
  | [] => True
  | (_, b, i) :: _ => i ≤ b.length
theorem under_top {b : List Dd} {p : List Fr} (h : under b p) : topOk p := by
  cases p with
  | nil => exact trivial
  | cons f r =>
    obtain ⟨k', b', i'⟩ := f
    obtain ⟨j, d, rfl, hd, _⟩ := h
    exact (List.getElem?_eq_some_iff.mp hd).1
theorem farOk_of {q : List Fr} {d : Dd} (h : okD (dep q) d) : farOk q d := by
  cases d with
  | leave x => show x < dep q; simpa only [okD] using h
  | again x => show x < dep q; simpa only [okD] using h
  | _ => exact trivial
theorem oneD_nx {fa : Int → List Int → List Int} {fq : Int → List Int → Bool} {s : Ms} {q : List Fr} {d : Dd} (h : isStep d = false) : oneD fa fq s q d = ⟨s.bs, nxP q d, s.tr⟩ := by
  cases d with
  | act x => cases h
  | choose x y n => cases h
  | _ => rfl
theorem one_get {fa : Int → List Int → List Int} {fq : Int → List Int → Bool} {s : Ms} {k : Kd} {b : List Dd} {i : Nat} {r : List Fr} {d : Dd} (h : s.p = (k, b, i) :: r) (hb : b[i]? = some d) : one fa fq s = oneD fa fq s ((k, b, i + 1) :: r) d := by
  simp only [one, h, hb]
theorem one_end {fa : Int → List Int → List Int} {fq : Int → List Int → Bool} {s : Ms} {k : Kd} {b : List Dd} {i : Nat} {r : List Fr} (h : s.p = (k, b, i) :: r) (hb : b[i]? = none) : one fa fq s = ⟨s.bs, r, s.tr⟩ := by
  simp only [one, h, hb]
theorem one_top {fa : Int → List Int → List Int} {fq : Int → List Int → Bool} {most W : Nat} {s : Ms} (h : MInv most W s) : topOk (one fa fq s).p := by
  cases e : s.p with
  | nil => simp only [one, e]; exact trivial
  | cons f r =>
    obtain ⟨k, b, i⟩ := f
    have hp := h.p
    rw [e] at hp
    cases hb : b[i]? with
    | none => rw [one_end e hb]; exact under_top hp.2.1
    | some d =>
      rw [one_get e hb]
      have hq : PInv W ((k, b, i + 1) :: r) := hp
      have hd := farOk_of (q := (k, b, i + 1) :: r) (okA_get hp.1.1 hb)
      cases d with
      | act x => exact (List.getElem?_eq_some_iff.mp hb).1
      | leave x =>
        obtain ⟨k', b', i', r', e1, h1, _⟩ := gb_ok hq (d := x) hd
        simp only [oneD, e1, List.tail_cons]
        exact under_top h1.2.1
      | again x =>
        obtain ⟨k', b', i', r', e1, h1, _⟩ := gb_ok hq (d := x) hd
        simp only [oneD, e1, rewind]
        exact Nat.zero_le _
      | stop => exact trivial
      | _ => exact Nat.zero_le _
theorem len_rem : ∀ (p : List Fr), p.length ≤ rem p
  | [] => Nat.le_refl _
  | (k, b, i) :: r => by
    have := len_rem r
    show r.length + 1 ≤ wt (b.drop i) + 1 + rem r
    rw [Nat.add_right_comm]
    exact Nat.succ_le_succ (Nat.le_trans this (Nat.le_add_left _ _))
structure Fits (rs : List Rw) : Prop where
  len : rs.length = 4
  ok : RowsOk rs
  add : ∀ x : Int, x = 0 ∨ x = 1 → (rowZ rs x).add = true
  more : ∀ x : Int, x = 2 ∨ x = 3 → (rowZ rs x).add = false
def faR (rs : List Rw) (x : Int) (bs : List Int) : List Int := (doRow (rowZ rs x) bs).1
def fqR (rs : List Rw) (x : Int) (bs : List Int) : Bool := decide (0 < boxZ bs (rowZ rs x).box)
def start (bs : List Int) (body : List Dd) : Ms := ⟨bs, [(.choose, body, 0)], []⟩
theorem one_len {rs : List Rw} {s : Ms} : (one (faR rs) (fqR rs) s).bs.length = s.bs.length := by
  cases e : s.p with
  | nil => simp only [one, e]
  | cons f r =>
    obtain ⟨k, b, i⟩ := f
    cases hb : b[i]? with
    | none => rw [one_end e hb]
    | some d =>
      rw [one_get e hb]
      cases d with
      | act x => exact doRow_len
      | _ => rfl
structure Here (B : MH) (rs : List Rw) (most W : Nat) (s₀ : Ms) (E : PL) (s : Ms) : Prop where
  p : s.p = frs E
  inv : MInv most W s
  top : topOk s.p
  bod : BodiesAt B E
  l4 : s.bs.length = 4
  run : ∀ t o, Runs (faR rs) (fqR rs) most s t o → Runs (faR rs) (fqR rs) most s₀ t o
variable {B : MH} {rs : List Rw} {most W : Nat} {s₀ s : Ms} {E E' : PL}
theorem Here.next (h : Here B rs most W s₀ E s) (hne : s.p ≠ []) (ha : asks s = true → s.tr.length ≠ most) (hE : frs E' = (one (faR rs) (fqR rs) s).p) (hb : BodiesAt B E') :
    Here B rs most W s₀ E' (one (faR rs) (fqR rs) s) ∧ mu most W (one (faR rs) (fqR rs) s) < mu most W s := by
  have key := one_ok (fa := faR rs) (fq := fqR rs) h.inv hne fun e => Nat.lt_of_le_of_ne h.inv.tr (ha e)
  exact ⟨⟨hE.symm, key.1, one_top h.inv, hb, one_len.trans h.l4, fun t o hr => h.run t o (.step hne ha hr)⟩, key.2⟩
theorem Here.len (h : Here B rs most W s₀ E s) (hW : W ≤ 998) : E.length + 1 ≤ lim := by
  have h1 := len_rem s.p
  have h2 := h.inv.p.rem
  rw [h.p] at h1 h2
  have e : (frs E).length = E.length := List.length_map ..
  exact lim_ok (n := 999) (e ▸ Nat.le_trans h1 (Nat.le_trans h2 (Nat.succ_le_succ hW))) (by decide)
theorem Here.begin {body : List Dd} {bs : List Int} {fa ba : Addr} (hb : BdAt B ba body) (hok : okL 0 body) (h4 : bs.length = 4) :
    Here B rs most (wt body) (start bs body) [(fa, ba, .choose, body, 0)] (start bs body) where
  p := rfl
  inv := ⟨⟨hok, trivial, fun _ => Nat.le_refl _, trivial⟩, Nat.zero_le _⟩
  top := Nat.zero_le _
  bod := fun e he => by rw [List.mem_singleton.mp he]; exact hb
  l4 := h4
  run := fun _ _ h => h
/-- what the top shows -/
theorem Here.get {fa ba : Addr} {k : Kd} {b : List Dd} {i : Nat} (h : Here B rs most W s₀ ((fa, ba, k, b, i) :: E) s) :
    ∃ as : List Addr, B ba = some (.tup (as.map MV.ref)) ∧ as.length = b.length ∧ s.p = (k, b, i) :: frs E ∧ i ≤ b.length ∧
      ∀ d, b[i]? = some d → (∃ a, as[i]? = some a ∧ DdAt B a d) ∧ okD (dep ((k, b, i + 1) :: frs E)) d := by
  have hp : s.p = (k, b, i) :: frs E := h.p
  have ht := h.top
  have hi := h.inv.p
  rw [hp] at ht hi
  cases h.bod _ List.mem_cons_self with
  | mk h1 h2 => exact ⟨_, h1, h2.length, hp, ht, fun d hd => ⟨h2.get hd, okA_get hi.1.1 hd⟩⟩
theorem BodiesAt.cons {e : Addr × Addr × Fr} (h : BdAt B e.2.1 e.2.2.2.1) (h' : BodiesAt B E) : BodiesAt B (e :: E) := fun x hx => by
  rcases List.mem_cons.mp hx with rfl | hx
  · exact h
  · exact h' x hx
theorem BodiesAt.tail {e : Addr × Addr × Fr} (h' : BodiesAt B (e :: E)) : BodiesAt B E := fun x hx => h' x (List.mem_cons_of_mem _ hx)
theorem DdAt.word {a : Addr} {d : Dd} (h : DdAt B a d) (hs : isStep d = false) : ∃ (s : Str) (r : List MV), B a = some (.tup (.str s :: r)) ∧ ¬ s = Str.ofString "do" ∧ ¬ s = Str.ofString "choose" := by
  cases h with
  | act _ => cases hs
  | choose _ _ _ => cases hs
  | block h _ => exact ⟨_, _, h, sne, sne⟩
  | loop h _ => exact ⟨_, _, h, sne, sne⟩
  | leave h => exact ⟨_, _, h, sne, sne⟩
  | again h => exact ⟨_, _, h, sne, sne⟩
  | stop h => exact ⟨_, _, h, sne, sne⟩
theorem DdAt.step {a : Addr} {d : Dd} (h : DdAt B a d) (hs : isStep d = true) : ∃ (s : Str) (x : Int) (r : List MV), B a = some (.tup (.str s :: .int x :: r)) ∧ (s = Str.ofString "do" ∧ d = .act x ∨ s = Str.ofString "choose" ∧ ∃ ya na y no, r = [.ref ya, .ref na] ∧ d = .choose x y no ∧ BdAt B ya y ∧ BdAt B na no) := by
  cases h with
  | act h => exact ⟨_, _, _, h, .inl ⟨rfl, rfl⟩⟩
  | choose h h1 h2 => exact ⟨_, _, _, h, .inr ⟨rfl, _, _, _, _, rfl, rfl, h1, h2⟩⟩
  | _ => cases hs
theorem okD_row {m : Nat} {d : Dd} {x : Int} (h : okD m d) (hd : d = .act x ∨ ∃ y no, d = .choose x y no) : 0 ≤ x ∧ x < 4 := by
  rcases hd with rfl | ⟨y, no, rfl⟩
  · simp only [okD] at h
    rcases h with rfl | rfl <;> decide
  · simp only [okD] at h
    rcases h.1 with rfl | rfl <;> decide
theorem Ex_eqs {C : Cx} {σ : St} {e : Expr} {v : MV} {Q : MV → St → Prop} (h : Ex C e σ (fun v' σ' => v' = v ∧ σ' = σ)) (h' : Q v σ) : Ex C e σ Q := Tr.mono h (by rintro _ _ ⟨rfl, rfl⟩; exact h')
end
section
set_option autoImplicit false
set_option linter.unusedVariables false
set_option linter.unusedSimpArgs false
set_option maxRecDepth 100000
open PySem
variable {hb : Heap} {w : World} {f : Addr} {n : Nat}
def S_walk : Spec := fun args B own Q => own = [] ∧ ∃ (b ba x : Addr) (rs : List Rw) (bs : List Int) (most : Nat) (body : List Dd), args = [.ref b, .ref ba, .ref x, .int most] ∧ RowsAt B b rs ∧ Fits rs ∧ B x = some (.list (bs.map MV.int)) ∧ bs.length = 4 ∧ BdAt B ba body ∧ okL 0 body ∧ wt body ≤ 998 ∧
  ∀ ta x2 s o, B ta = none → B x2 = none → x2 ≠ ta → s.bs.length = 4 → Runs (faR rs) (fqR rs) most (start bs body) s o → Q (.ref ta) (setB B ta (.tup [.ref x2, .int s.tr.length, .bool o])) [(x2, .list (s.bs.map MV.int))]
theorem ct_walk (F : FnAt hb f i_walk) (hlim : hb.NoLimit) (h1 : FnC P w hb "need_rows" 4 S_need_rows) (h2 : FnO P w hb "done" 1 S_done) (h3 : FnO P w hb "moved_on" 2 S_moved_on) (glen : Gl hb "len" (.oth (.builtin "len"))) (gli : Gl hb "list" (.oth (.type "list"))) (gin : Gl hb "int" (.oth (.type "int"))) : Contract P w hb (.ref f) 5 S_walk := by
  refine Contract.of F hlim (by rintro args B own Q ⟨_, _, _, _, _, _, _, _, e, _⟩; subst e; rfl) ?_
  rintro C args B own Q F' ⟨rfl, b, ba, x, rs, bs, most, body, rfl, hR, hF, hx, h4, hbd, hok, hW, hQ⟩
  show Sts C (bodyAt P i_walk) ⟨[(Str.ofString "rows", _), (Str.ofString "body", _), (Str.ofString "boxes", _), (Str.ofString "most", _)], B, []⟩ _
  refine Sts_cons ?_
  walk_at "m"
  refine ⟨rfl, _, _, rfl, hR, hF.ok, ?_⟩
  walk_at "m"
  intro x2 hx2
  walk_at "m"
  intro f0 hf0
  walk_at "m"
  intro fr hfr
  walk_at "m"
  obtain ⟨as, hB, ht⟩ := hR
  refine Stm_WhileC F' (fun k σ' => ∃ (E : PL) (s : Ms), σ' = ⟨[(Str.ofString "rows", .ref b), (Str.ofString "body", .ref ba), (Str.ofString "boxes", .ref x2), (Str.ofString "most", .int most), (Str.ofString "frames", .ref fr), (Str.ofString "steps", .int s.tr.length)], B, (x2, .list (s.bs.map MV.int)) :: pileW fr E⟩ ∧ k = mu most (wt body) s ∧ Here B rs most (wt body) (start bs body) E s) ?_ _ ⟨_, .perm (List.perm_append_singleton (x2, _) [(fr, _), (f0, _)]), [(f0, ba, .choose, body, 0)], _, rfl, rfl, .begin hbd hok h4⟩
  rintro k σ' ⟨E, s, rfl, rfl, hI⟩
  have fin : ∀ (o : Bool), Runs (faR rs) (fqR rs) most s s o → ∀ (l : Loc) (t : Addr), Fsh [] ⟨l, B, (x2, .list (s.bs.map MV.int)) :: pileW fr E⟩ t →
      End [] Q (.ref t) ⟨l, B, (t, .tup [.ref x2, .int s.tr.length, .bool o]) :: (x2, .list (s.bs.map MV.int)) :: pileW fr E⟩ := by
    intro o ho l t ht'
    exact ⟨_, .trans (.frz ht'.md) (.own (List.Sublist.cons_cons _ (List.nil_sublist _))), hQ t x2 s o ht'.B hx2.B (fun e => ht'.own (by simp [e])) hI.l4 (hI.run _ _ ho)⟩
  have go : ∀ (E' : PL) (s' : Ms) (l r : Loc), one (faR rs) (fqR rs) s = s' → s.p ≠ [] → (asks s = true → s.tr.length ≠ most) → frs E' = s'.p → BodiesAt B E' → l = [(Str.ofString "rows", .ref b), (Str.ofString "body", .ref ba), (Str.ofString "boxes", .ref x2), (Str.ofString "most", .int most), (Str.ofString "frames", .ref fr), (Str.ofString "steps", .int s'.tr.length)] ++ r →
      ∀ own, own.Perm ((x2, .list (s'.bs.map MV.int)) :: pileW fr E') → Tn [] (fun σ₃ => ∃ m, m < mu most (wt body) s ∧ ∃ (E : PL) (s : Ms), σ₃ = ⟨[(Str.ofString "rows", .ref b), (Str.ofString "body", .ref ba), (Str.ofString "boxes", .ref x2), (Str.ofString "most", .int most), (Str.ofString "frames", .ref fr), (Str.ofString "steps", .int s.tr.length)], B, (x2, .list (s.bs.map MV.int)) :: pileW fr E⟩ ∧ m = mu most (wt body) s ∧ Here B rs most (wt body) (start bs body) E s) ⟨l, B, own⟩ := by
    rintro E' s' l r rfl hne ha hE hb' hl own ho
    obtain ⟨hn, hm⟩ := hI.next hne ha hE hb'
    exact ⟨_, .trans (.perm ho) (.pre r hl), _, hm, E', _, rfl, rfl, hn⟩
  cases E with
  | nil =>
    rw [show pileW fr [] = [(fr, .list [])] from rfl]
    walk_at "m"
    refine if_neg' (by decide) ?_
    walk_at "m"
    exact fin true (.over hI.p) _
  | cons e E =>
    obtain ⟨fa, ba', k, b', i⟩ := e
    obtain ⟨as', hB', hl', hp, hi, hg⟩ := hI.get
    have hne : s.p ≠ [] := by rw [hp]; exact List.cons_ne_nil _ _
    have eP : ∀ i, pileW fr ((fa, ba', k, b', i) :: E) = (fr, .list (refsP E ++ [.ref fa])) :: (fa, .list [.ref ba', .int i, .str (wordK k)]) :: ownP mvW E := fun i => by rw [pileW, refsP_cons]; rfl
    have hbe := hI.bod.tail
    have hbc : ∀ i, BodiesAt B ((fa, ba', k, b', i) :: E) := fun _ => .cons (hI.bod (fa, ba', k, b', i) List.mem_cons_self) hbe
    have hlen := hI.len hW
    rw [eP] at fin ⊢
    walk_at "m"
    refine if_pos' (by rw [List.length_append]; exact Int.ofNat_lt.mpr (Nat.succ_pos _)) ?_
    walk_at "m"
    refine SubG_last (by walk_at "m has") ?_
    walk_at "m"
    cases hd : b'[i]? with
    | none =>
      refine if_pos' (by rw [List.length_map, hl']; exact congrArg Int.ofNat (Nat.le_antisymm hi (List.getElem?_eq_none_iff.mp hd))) ?_
      walk_at "m"
      refine Ex_pop F' rfl rfl ?_
      walk_at "m"
      refine ⟨fr, refsP E, .ref fa, _, rfl, .tail .head, ?_⟩
      walk_at "m"
      have ha : asks s = false := by simp only [asks, hp, hd]
      obtain ⟨σ₃, c, h⟩ := go E _ _ [_] (one_end hp hd) hne (by rw [ha]; exact fun h => nomatch h) rfl hbe rfl _ (.refl _)
      exact ⟨σ₃, .trans (.own ((List.Sublist.cons_cons _ (List.Sublist.cons_cons _ (List.sublist_cons_self ..))))) c, h⟩
    | some d =>
      obtain ⟨⟨a, ha, hda⟩, hod⟩ := hg d hd
      have hlt : i < b'.length := (List.getElem?_eq_some_iff.mp hd).1
      have ha' : (as'.map MV.ref)[(i : Int).toNat]? = some (.ref a) := by rw [Int.toNat_natCast, List.getElem?_map, ha]; rfl
      have hasks : asks s = isStep d := by simp only [asks, hp, hd]
      have hone := one_get (fa := faR rs) (fq := fqR rs) hp hd
      refine if_neg' (by rw [List.length_map, hl']; exact fun e => Nat.ne_of_lt hlt (Int.ofNat_inj.mp e)) ?_
      walk_at "m"
      refine SubG_tup (.inr hB') (Int.natCast_nonneg _) ha' ?_
      cases hst : isStep d with
      | false =>
        obtain ⟨wd, wr, hw, n1, n2⟩ := hda.word hst
        walk_at "m"
        refine if_neg' n1 ?_
        walk_at "m"
        refine if_neg' n2 ?_
        walk_at "m"
        refine SetG_list F' (.tail (.tail .head)) (by decide) (show (1 : Int) < ((3 : Nat) : Int) from by decide) ?_
        walk_at "m"
        refine if_neg' n2 ?_
        walk_at "m"
        refine ⟨pileW fr ((fa, ba', k, b', i + 1) :: E), [(x2, _)], by rw [eP]; exact (List.perm_append_singleton ..).symm, fr, a, d, (fa, ba', k, b', i + 1) :: E, rfl, rfl, hda, hst, farOk_of hod, hbc _, hlen, fun E' hE hb' => ?_⟩
        walk_at "m"
        exact go E' _ _ [_, _, _] (hone.trans (oneD_nx hst)) hne (by rw [hasks, hst]; exact fun h => nomatch h) hE hb' rfl _ (List.perm_append_singleton ..)
      | true =>
        obtain ⟨wd, x', wr, hw, hsp⟩ := hda.step hst
        have hx' := okD_row hod (hsp.imp (·.2) fun ⟨_, _, _, y, no, _, h, _⟩ => ⟨y, no, h⟩)
        have hxl : x' < rs.length := by rw [hF.len]; exact hx'.2
        obtain ⟨c, hc1, hc2⟩ := ht.get (row_get hx'.1 hxl)
        have hcm : (as.map MV.ref)[x'.toNat]? = some (.ref c) := by rw [List.getElem?_map, hc1]; rfl
        have rok := rowZ_ok hF.ok hx'.1 hxl
        have hbl : (rowZ rs x').box < s.bs.length := by rw [hI.l4]; exact rok.2.1
        walk_at "m store"
        refine Sts_cons ?_
        refine Stm_Assign rfl ?_
        dsimp only
        refine Ex_eqs (v := .bool true) ?_ ?_
        · rcases hsp with ⟨rfl, _⟩ | ⟨rfl, _⟩
          · walk_at "m"
            refine if_pos' rfl ⟨congrArg MV.bool (decide_eq_true rfl), rfl⟩
          · walk_at "m"
            refine if_neg' sne ?_
            walk_at "m"
            exact ⟨congrArg MV.bool (decide_eq_true rfl), rfl⟩
        walk_at "m"
        refine if_dec (fun hc => ?_) (fun hc => ?_)
        · walk_at "m"
          exact fin false (.full hne (Int.ofNat_inj.mp hc) (hasks.trans hst)) _
        walk_at "m"
        refine SetG_list F' (.tail (.tail .head)) (by decide) (show (1 : Int) < ((3 : Nat) : Int) from by decide) ?_
        walk_at "m"
        refine SubG_list (.inr hB) hx'.1 hcm ?_
        walk_at "m"
        refine SubG_list (.inl (.head _)) rok.1 (box_get rok.1 hbl) ?_
        walk_at "m"
        refine SubG_list (.inr hB) hx'.1 hcm ?_
        walk_at "m"
        refine ⟨[(x2, _)], _, .refl _, c, x2, rowZ rs x', s.bs, rfl, rfl, hc2, rok.1, hbl, ?_⟩
        have hnm : asks s = true → s.tr.length ≠ most := fun _ e => hc (congrArg Int.ofNat e)
        have htl : ((s.tr ++ [x']).length : Int) = (s.tr.length : Int) + 1 := by rw [List.length_append]; rfl
        walk_at "m"
        rcases hsp with ⟨rfl, rfl⟩ | ⟨rfl, ya, na, y, no, rfl, rfl, hy, hno⟩
        · refine if_neg' sne ?_
          walk_at "m"
          exact go ((fa, ba', k, b', i + 1) :: E) _ _ [_, _, _, _] hone hne hnm rfl (hbc _) (by dsimp only [oneD]; rw [htl]; rfl) _ (by rw [eP]; exact .refl _)
        · refine if_pos' rfl ?_
          have hmore : (doRow (rowZ rs x') s.bs).1 = s.bs := by
            simp only [okD] at hod
            unfold doRow; rw [hF.more x' hod.1]; rfl
          rw [hmore, show decide (0 < boxZ s.bs (rowZ rs x').box) = fqR rs x' s.bs from rfl]
          have hone' : one (faR rs) (fqR rs) s = ⟨s.bs, (.choose, if fqR rs x' s.bs then y else no, 0) :: (k, b', i + 1) :: frs E, s.tr ++ [x']⟩ := hone
          have hq0 : (0 : Int) ≤ 3 - (if fqR rs x' s.bs then 1 else 0) ∧ [MV.str (Str.ofString "choose"), .int x', .ref ya, .ref na][((3 : Int) - (if fqR rs x' s.bs then 1 else 0)).toNat]? = some (.ref (if fqR rs x' s.bs then ya else na)) ∧ BdAt B (if fqR rs x' s.bs then ya else na) (if fqR rs x' s.bs then y else no) := by
            cases fqR rs x' s.bs with
            | true => exact ⟨by decide, rfl, hy⟩
            | false => exact ⟨by decide, rfl, hno⟩
          walk_at "m"
          refine SubG_tup (.inr hw) hq0.1 hq0.2.1 ?_
          walk_at "m"
          intro g hg
          refine App2_i (.tail (.tail .head)) (by simpa [refsP] using hlen) ?_
          walk_at "m"
          exact go ((g, _, .choose, _, 0) :: (fa, ba', k, b', i + 1) :: E) _ _ [_, _, _, _] hone' hne hnm rfl (.cons hq0.2.2 (hbc _)) (by dsimp only; rw [htl]; rfl) _ (by
            rw [pileW, refsP_cons, refsP_cons]
            exact (List.Perm.swap ..).trans (.cons _ (.swap ..)))
end
section
set_option autoImplicit false
set_option linter.unusedVariables false
set_option linter.unusedSimpArgs false
set_option maxRecDepth 100000
open PySem
variable {hb : Heap} {w : World} {f : Addr} {n : Nat} {B : MH}
theorem DdAt.kind {a : Addr} {d : Dd} (h : DdAt B a d) : (∃ x, B a = some (.tup [.str (Str.ofString "do"), .int x]) ∧ d = .act x) ∨
    (∃ x ya na y no, B a = some (.tup [.str (Str.ofString "choose"), .int x, .ref ya, .ref na]) ∧ d = .choose x y no ∧ BdAt B ya y ∧ BdAt B na no) ∨
    (∃ s ba b, B a = some (.tup [.str s, .ref ba]) ∧ (s = Str.ofString "block" ∨ s = Str.ofString "loop") ∧ (rowsD d = rowsL b ∧ wd d = 3 + wt b) ∧ BdAt B ba b) ∨
    ∃ s r, B a = some (.tup (.str s :: r)) ∧ (¬ s = Str.ofString "do" ∧ ¬ s = Str.ofString "choose" ∧ ¬ s = Str.ofString "block" ∧ ¬ s = Str.ofString "loop") ∧ rowsD d = [] := by
  cases h with
  | act h => exact .inl ⟨_, h, rfl⟩
  | choose h h1 h2 => exact .inr (.inl ⟨_, _, _, _, _, h, rfl, h1, h2⟩)
  | block h h1 => exact .inr (.inr (.inl ⟨_, _, _, h, .inl rfl, ⟨by simp only [rowsD], by simp only [wd]⟩, h1⟩))
  | loop h h1 => exact .inr (.inr (.inl ⟨_, _, _, h, .inr rfl, ⟨by simp only [rowsD], by simp only [wd]⟩, h1⟩))
  | leave h => exact .inr (.inr (.inr ⟨_, _, h, ⟨sne, sne, sne, sne⟩, by simp only [rowsD]⟩))
  | again h => exact .inr (.inr (.inr ⟨_, _, h, ⟨sne, sne, sne, sne⟩, by simp only [rowsD]⟩))
  | stop h => exact .inr (.inr (.inr ⟨_, _, h, ⟨sne, sne, sne, sne⟩, by simp only [rowsD]⟩))
mutual
theorem rows_wd : ∀ d : Dd, (rowsD d).length ≤ wd d
  | .act _ => by simp only [rowsD, wd]; exact Nat.le_refl _
  | .choose _ y n => by
    have h1 := rows_wt y
    have h2 := rows_wt n
    simp only [rowsD, wd, List.length_cons, List.length_append]; omega
  | .block b => by have := rows_wt b; simp only [rowsD, wd]; omega
  | .loop b => by have := rows_wt b; simp only [rowsD, wd]; omega
  | .leave _ => Nat.zero_le _
  | .again _ => Nat.zero_le _
  | .stop => Nat.zero_le _
theorem rows_wt : ∀ b : List Dd, (rowsL b).length ≤ wt b
  | [] => Nat.le_refl _
  | d :: r => by
    have h1 := rows_wd d
    have h2 := rows_wt r
    simp only [rowsL, wt, List.length_append]; omega
end
theorem len_wt : ∀ b : List Dd, b.length ≤ wt b
  | [] => Nat.le_refl _
  | d :: r => by
    have h1 := wd_pos d
    have h2 := len_wt r
    simp only [wt, List.length_cons]; omega
theorem lim3 {a b c : Nat} (h1 : a ≤ 998) (h2 : b ≤ 998) (h3 : c ≤ 998) : a + b + c ≤ lim := Nat.le_trans (Nat.add_le_add (Nat.add_le_add h1 h2) h3) (by unfold lim; decide)
theorem BdAt.len {a : Addr} {b : List Dd} (h : BdAt B a b) (hb : wt b ≤ 998) : ∃ as : List Addr, B a = some (.tup (as.map MV.ref)) ∧ DsAt B as b ∧ (as.map MV.ref).reverse.length ≤ 998 := by
  cases h with
  | mk h1 h2 => exact ⟨_, h1, h2, by rw [List.length_reverse, List.length_map, h2.length]; exact Nat.le_trans (len_wt b) hb⟩
def S_told : Spec := fun args B own Q => own = [] ∧ ∃ (ba : Addr) (body : List Dd), args = [.ref ba] ∧ BdAt B ba body ∧ wt body ≤ 998 ∧ ∀ a, B a = none → Q (.ref a) (setB B a (.list ((rowsL body).map MV.int))) []
theorem ct_told (F : FnAt hb f i_told) (hlim : hb.NoLimit) (glen : Gl hb "len" (.oth (.builtin "len"))) (gli : Gl hb "list" (.oth (.type "list"))) (gre : Gl hb "reversed" (.oth (.type "reversed"))) : Contract P w hb (.ref f) (n + 1) S_told := by
  refine Contract.of F hlim (by rintro args B own Q ⟨_, _, _, e, _⟩; subst e; rfl) ?_
  rintro C args B own Q F' ⟨rfl, ba, body, rfl, hbd, hW, hQ⟩
  show Sts C (bodyAt P i_told) ⟨[(Str.ofString "body", _)], B, []⟩ _
  refine Sts_cons ?_
  cases hbd with
  | mk hB hds =>
  walk_at "m"
  intro fd hfd
  walk_at "m"
  refine Call_revT F' (.inr hB) fun r hr => ?_
  walk_at "m"
  refine Call_listRevT F' hr.md (.inr hB) fun wa hwa => ?_
  walk_at "m"
  rename_i as
  refine Stm_WhileC F' (fun k σ' => ∃ (wa : Addr) (as : List Addr) (ds : List Dd) (fs : List Int), σ' = ⟨[(Str.ofString "body", .ref ba), (Str.ofString "found", .ref fd), (Str.ofString "waiting", .ref wa)], B, [(wa, .list (as.map MV.ref).reverse), (fd, .list (fs.map MV.int))]⟩ ∧ k = wt ds ∧ DsAt B as ds ∧ wt ds ≤ wt body ∧ fs ++ rowsL ds = rowsL body) ?_ _ ⟨_, .refl _, wa, as, body, [], rfl, rfl, hds, Nat.le_refl _, rfl⟩
  rintro k σ' ⟨wa, as, ds, fs, rfl, rfl, hds, hwt, hrw⟩
  cases hds with
  | nil =>
    walk_at "m"
    refine if_neg' (by decide) ?_
    walk_at "m"
    have e : fs = rowsL body := by rw [← hrw]; exact (List.append_nil _).symm
    subst e
    exact ⟨_, .trans .tl (.frz hfd.md), hQ fd hfd.B⟩
  | cons hda hds =>
    rename_i a d as ds
    rw [List.map_cons, List.reverse_cons]
    have hwd := wd_pos d
    have hwt' : wt (d :: ds) = wd d + wt ds := by simp only [wt]
    have hrw' : rowsL (d :: ds) = rowsD d ++ rowsL ds := by simp only [rowsL]
    rw [hwt'] at hwt ⊢
    rw [hrw'] at hrw
    walk_at "m"
    refine if_pos' (by rw [List.length_append]; exact Int.ofNat_lt.mpr (Nat.succ_pos _)) ?_
    walk_at "m"
    refine Ex_pop F' rfl rfl ?_
    walk_at "m"
    refine ⟨wa, (as.map MV.ref).reverse, .ref a, _, rfl, .head, ?_⟩
    have hfs : fs.length + 1 ≤ lim := lim_ok (n := 998) (by
      have h1 := congrArg List.length hrw
      rw [List.length_append] at h1
      exact Nat.le_trans (Nat.le_add_right _ _) (Nat.le_trans (Nat.le_of_eq h1) (Nat.le_trans (rows_wt body) hW))) (by decide)
    have has : (as.map MV.ref).reverse.length ≤ 998 := by
      rw [List.length_reverse, List.length_map, hds.length]
      exact Nat.le_trans (len_wt ds) (Nat.le_trans (Nat.le_add_left _ _) (Nat.le_trans hwt hW))
    have go : ∀ (wa' : Addr) (as' : List Addr) (ds' : List Dd) (fs' : List Int) (l r : Loc) (own : Own), DsAt B as' ds' → wt ds' < wd d + wt ds → fs' ++ rowsL ds' = rowsL body → l = [(Str.ofString "body", .ref ba), (Str.ofString "found", .ref fd), (Str.ofString "waiting", .ref wa')] ++ r →
        [(wa', .list (as'.map MV.ref).reverse), (fd, .list (fs'.map MV.int))].Sublist own → Tn [] (fun σ₃ => ∃ m, m < wd d + wt ds ∧ ∃ (wa : Addr) (as : List Addr) (ds : List Dd) (fs : List Int), σ₃ = ⟨[(Str.ofString "body", .ref ba), (Str.ofString "found", .ref fd), (Str.ofString "waiting", .ref wa)], B, [(wa, .list (as.map MV.ref).reverse), (fd, .list (fs.map MV.int))]⟩ ∧ m = wt ds ∧ DsAt B as ds ∧ wt ds ≤ wt body ∧ fs ++ rowsL ds = rowsL body) ⟨l, B, own⟩ := by
      intro wa' as' ds' fs' l r own h1 h2 h3 h4 h5
      exact ⟨_, .trans (.own h5) (.pre r h4), _, h2, wa', as', ds', fs', rfl, rfl, h1, Nat.le_trans (Nat.le_of_lt h2) hwt, h3⟩
    rcases hda.kind with ⟨x, hw, rfl⟩ | ⟨x, ya, na, y, no, hw, rfl, hy, hno⟩ | ⟨s, ba', b, hw, hs, hr, hb'⟩ | ⟨s, r, hw, hn, hr⟩
    · simp only [rowsD, wd] at hrw go hwt
      walk_at "m"
      refine if_pos' rfl ?_
      walk_at "m"
      refine App2_i (.tail .head) (lim_map hfs) ?_
      walk_at "m"
      refine if_neg' sne ?_
      walk_at "m"
      refine if_neg' sne ?_
      walk_at "m"
      refine if_neg' sne ?_
      walk_at "m"
      exact go wa as ds (fs ++ [x]) _ [_] _ hds (Nat.lt_add_of_pos_left (by decide)) (by rw [List.append_assoc]; exact hrw) rfl (by rw [List.map_append]; exact .refl _)
    · simp only [rowsD, wd] at hrw go hwt
      have hw1 : wt y ≤ 998 := by omega
      have hw2 : wt no ≤ 998 := by omega
      obtain ⟨yas, hyB, hyd, hyl⟩ := hy.len hw1
      obtain ⟨nas, hnB, hnd, hnl⟩ := hno.len hw2
      walk_at "m"
      refine if_neg' sne ?_
      walk_at "m"
      refine if_pos' rfl ?_
      walk_at "m"
      refine App2_i (.tail .head) (lim_map hfs) ?_
      walk_at "m"
      refine if_pos' rfl ?_
      walk_at "m"
      refine Call_revT F' (.inr hnB) fun r1 hr1 => ?_
      walk_at "m"
      refine Call_listRevT F' hr1.md (.inr hnB) fun t1 ht1 => ?_
      walk_at "m"
      refine Bin_addList F' (by walk_at "m has") (.inl (.head _)) (Nat.le_trans (Nat.le_add_right _ 0) (lim3 has hnl (Nat.zero_le _))) fun s1 hs1 => ?_
      walk_at "m"
      refine Call_revT F' (.inr hyB) fun r2 hr2 => ?_
      walk_at "m"
      refine Call_listRevT F' hr2.md (.inr hyB) fun t2 ht2 => ?_
      walk_at "m"
      refine Bin_addList F' (by walk_at "m has") (.inl (.head _)) (by rw [List.length_append]; exact lim3 has hnl hyl) fun s2 hs2 => ?_
      walk_at "m"
      refine if_neg' sne ?_
      walk_at "m"
      refine if_neg' sne ?_
      walk_at "m"
      refine go s2 (yas ++ nas ++ as) (y ++ no ++ ds) (fs ++ [x]) _ [_] _ ((hyd.append hnd).append hds) (by rw [wt_append, wt_append]; omega) (by rw [rowsL_append, rowsL_append, List.append_assoc]; exact hrw) rfl ?_
      rw [List.map_append, List.map_append, List.map_append, List.reverse_append, List.reverse_append, List.append_assoc]
      exact .cons_cons _ (.cons _ (.cons _ (.cons _ (.cons _ (.cons_cons _ (.refl _))))))
    · rw [hr.1] at hrw
      rw [hr.2] at hwt
      obtain ⟨bas, hbB, hbd, hbl⟩ := hb'.len (by omega)
      have hwl : wt (b ++ ds) < wd d + wt ds := by rw [wt_append, hr.2]; omega
      rcases hs with rfl | rfl
      all_goals
        walk_at "m"
        refine if_neg' sne ?_
        walk_at "m"
        refine if_neg' sne ?_
        walk_at "m"
        refine if_neg' sne ?_
        walk_at "m"
        first
          | refine if_pos' rfl ?_
          | (refine if_neg' sne ?_; walk_at "m"; refine if_pos' rfl ?_)
        walk_at "m"
        refine Call_revT F' (.inr hbB) fun r1 hr1 => ?_
        walk_at "m"
        refine Call_listRevT F' hr1.md (.inr hbB) fun t1 ht1 => ?_
        walk_at "m"
        refine Bin_addList F' (by walk_at "m has") (.inl (.head _)) (Nat.le_trans (Nat.le_add_right _ 0) (lim3 has hbl (Nat.zero_le _))) fun s1 hs1 => ?_
        walk_at "m"
        refine go s1 (bas ++ as) (b ++ ds) fs _ [_] _ (hbd.append hds) hwl (by rw [rowsL_append]; exact hrw) rfl ?_
        rw [List.map_append, List.reverse_append]
        exact .cons_cons _ (.cons _ (.cons _ (.cons_cons _ (.refl _))))
    · rw [hr] at hrw
      walk_at "m"
      refine if_neg' hn.1 ?_
      walk_at "m"
      refine if_neg' hn.2.1 ?_
      walk_at "m"
      refine if_neg' hn.2.1 ?_
      walk_at "m"
      refine if_neg' hn.2.2.1 ?_
      walk_at "m"
      refine if_neg' hn.2.2.2 ?_
      walk_at "m"
      exact go wa as ds fs _ [_] _ hds (Nat.lt_add_of_pos_left hwd) hrw rfl (.refl _)
end
section
set_option autoImplicit false
set_option linter.unusedVariables false
set_option linter.unusedSimpArgs false
set_option maxRecDepth 100000
open PySem
variable {hb : Heap} {w : World} {f : Addr} {n : Nat}
theorem if_bt {b : Bool} {A B : Prop} (h : b = true) (hA : A) : if b = true then A else B := by rw [if_pos h]; exact hA
theorem if_bf {b : Bool} {A B : Prop} (h : b = false) (hB : B) : if b = true then A else B := by rw [if_neg (by rw [h]; exact Bool.false_ne_true)]; exact hB
theorem in1 {p q : Str} : (decide (p = p) || decide (q = p)) = true := by rw [decide_eq_true rfl]; rfl
theorem in2 {p q : Str} : (decide (p = q) || decide (q = q)) = true := by rw [decide_eq_true (p := q = q) rfl, Bool.or_true]
theorem inN {p q s : Str} (h1 : ¬ s = p) (h2 : ¬ s = q) : (decide (p = s) || decide (q = s)) = false := by rw [decide_eq_false fun e => h1 e.symm, decide_eq_false fun e => h2 e.symm]; rfl
theorem inF {p q s : String} (h1 : s ≠ p := by decide) (h2 : s ≠ q := by decide) : (decide (Str.ofString p = Str.ofString s) || decide (Str.ofString q = Str.ofString s)) = false := inN (sne h1) (sne h2)
theorem len_sub1 {xs : List MV} {m : MV} : (((xs ++ [m]).length : Nat) : Int) - 1 = (xs.length : Nat) := by rw [List.length_append, List.length_singleton]; exact Int.add_sub_cancel (xs.length : Int) 1
theorem SubG_lastL {C : Cx} {σ : St} {a : Addr} {xs : List MV} {m : MV} {Q : MV → St → Prop} (hh : Has σ a (.list (xs ++ [m]))) (h : Q m σ) : SubG C (.ref a) (.int ((((xs ++ [m]).length : Nat) : Int) - 1)) σ Q := by
  rw [len_sub1]
  exact SubG_list hh (Int.natCast_nonneg _) (by rw [Int.toNat_natCast]; simp) h
/-! many objects frozen at once -/
def setBs (B : MH) : Own → MH
  | [] => B
  | (a, o) :: r => setBs (setB B a o) r
theorem Cv.frzs {md : List Addr} {l : Loc} : ∀ {new rest : Own} {B : MH}, (∀ p ∈ new, p.1 ∉ md) → Cv md ⟨l, B, new ++ rest⟩ ⟨l, setBs B new, rest⟩
  | [], rest, B, _ => .refl _
  | (a, o) :: r, rest, B, h => .trans (.frz (h (a, o) List.mem_cons_self)) (Cv.frzs fun p hp => h p (List.mem_cons_of_mem _ hp))
theorem setBs_ok : ∀ {new : Own} {B : MH}, (∀ a ∈ new.map (·.1), B a = none) → (new.map (·.1)).Nodup → Sub0 B (setBs B new) ∧ ∀ p ∈ new, setBs B new p.1 = some p.2
  | [], B, _, _ => ⟨Sub0.rfl' _, fun p hp => nomatch hp⟩
  | (a, o) :: r, B, h, hn => by
    have hn' := List.nodup_cons.mp hn
    have s1 : Sub0 B (setB B a o) := Sub0.set (h a List.mem_cons_self)
    obtain ⟨s2, g⟩ := setBs_ok (new := r) (B := setB B a o) (fun b hb' => (setB_ne fun e => by subst e; exact hn'.1 hb').trans (h b (List.mem_cons_of_mem _ hb'))) hn'.2
    refine ⟨s1.trans s2, fun p hp => ?_⟩
    rcases List.mem_cons.mp hp with rfl | hp
    · exact s2 _ _ setB_self
    · exact g p hp
/-- new objects frozen, in one step -/
theorem Tr.frzs {α β : Type} {C : Cx} {hb : Heap} {prog : Program} {w : World} {sc : Scope} {n : Nat} {md : List Addr} {fl : Bool} {t : Sem α} {R : β → α → Prop} {l : Loc} {B : MH} {Q : β → St → Prop} (F : Fx C hb prog w sc n md fl) (new rest : Own) (hm : ∀ p ∈ new, p.1 ∉ md)
    (h : ∀ B', Sub0 B B' → (∀ p ∈ new, B' p.1 = some p.2) → Tr C t R ⟨l, B', rest⟩ Q) : Tr C t R ⟨l, B, new ++ rest⟩ Q :=
  Tr.facts fun h1 h2 => by
    rw [List.map_append] at h1 h2
    obtain ⟨s, g⟩ := setBs_ok (fun a ha => h1 a (List.mem_append_left _ ha)) (List.nodup_append.mp h2).1
    exact Tr.cv F (.frzs hm) (h _ s g)

def pileL (pr : Addr) (E : PL) : Own := (pr, .list (refsP E)) :: ownP mvL E
theorem pileL_cons (pr fa ba : Addr) (k : Kd) (b : List Dd) (i : Nat) (E : PL) : pileL pr ((fa, ba, k, b, i) :: E) = (pr, .list (refsP E ++ [.ref fa])) :: (fa, .list [.str (wordK k), .ref ba, .int i]) :: ownP mvL E := by rw [pileL, refsP_cons]; rfl
def S_law_out : Spec := fun args B own Q => ∃ (pr da : Addr) (d : Dd) (x : Nat) (E : PL), args = [.ref pr, .ref da] ∧ own = pileL pr E ∧ DdAt B da d ∧ (d = .leave x ∨ d = .again x) ∧ x < dep (frs E) ∧ BodiesAt B E ∧
  ∀ E' : PL, frs E' = nxP (frs E) d → BodiesAt B E' → Q .none B (pileL pr E')
theorem ct_law_out (F : FnAt hb f i_law_out) (hlim : hb.NoLimit) (glen : Gl hb "len" (.oth (.builtin "len"))) : Contract P w hb (.ref f) (n + 1) S_law_out := by
  refine Contract.of F hlim (by rintro args B own Q ⟨_, _, _, _, _, e, _⟩; subst e; rfl) ?_
  rintro C args B own Q F' ⟨pr, da, d, x, E, rfl, rfl, hd, hdx, hfar, hB, hQ⟩
  show Sts C (bodyAt P i_law_out) ⟨[(Str.ofString "_law_pile", _), (Str.ofString "_law_deed", _)], B, pileL pr E⟩ _
  refine Sts_cons ?_
  obtain ⟨wd, hw, hwd⟩ : ∃ wd, B da = some (.tup [.str wd, .int x]) ∧ (wd = Str.ofString "leave" ∧ d = .leave x ∨ wd = Str.ofString "again" ∧ d = .again x) := by
    rcases hdx with rfl | rfl
    · cases hd with
      | leave h => exact ⟨_, h, .inl ⟨rfl, rfl⟩⟩
    · cases hd with
      | again h => exact ⟨_, h, .inr ⟨rfl, rfl⟩⟩
  walk_at "m"
  refine Stm_WhileC F' (fun k σ' => ∃ (E' : PL) (d' : Nat), k = E'.length ∧ σ' = ⟨[(Str.ofString "_law_pile", .ref pr), (Str.ofString "_law_deed", .ref da), (Str.ofString "_law_left", .int d')], B, pileL pr E'⟩ ∧ d' < dep (frs E') ∧ gbE d' E' = gbE x E) ?_ E.length ⟨_, .refl _, E, x, rfl, rfl, hfar, rfl⟩
  rintro k σ' ⟨E', d', rfl, rfl, hd', he⟩
  cases E' with
  | nil => simp [frs, dep] at hd'
  | cons e E' =>
    obtain ⟨fa, ba, k, b, i⟩ := e
    rw [pileL_cons]
    have step : ∀ d'' : Nat, d'' < dep (frs E') → gbE d'' E' = gbE x E → Tn ((pileL pr E).map (·.1)) (fun σ₃ => ∃ m, m < ((fa, ba, k, b, i) :: E').length ∧ ∃ (E' : PL) (d' : Nat), m = E'.length ∧ σ₃ = ⟨[(Str.ofString "_law_pile", .ref pr), (Str.ofString "_law_deed", .ref da), (Str.ofString "_law_left", .int d')], B, pileL pr E'⟩ ∧ d' < dep (frs E') ∧ gbE d' E' = gbE x E)
        ⟨[(Str.ofString "_law_pile", .ref pr), (Str.ofString "_law_deed", .ref da), (Str.ofString "_law_left", .int d'')], B, (pr, .list (refsP E')) :: (fa, .list [.str (wordK k), .ref ba, .int i]) :: ownP mvL E'⟩ :=
      fun d'' h1 h2 => ⟨_, .own (List.Sublist.cons_cons _ (List.sublist_cons_self ..)), E'.length, Nat.lt_succ_self _, E', d'', rfl, rfl, h1, h2⟩
    walk_at "m"
    refine if_pos' (by rw [List.length_append]; exact Int.ofNat_lt.mpr (Nat.succ_pos _)) ?_
    walk_at "m"
    refine SubG_lastL (by walk_at "m has") ?_
    walk_at "m"
    refine if_dec (fun hc => ?_) (fun hc => ?_)
    · have hk := wordK_ch.mp hc
      have e1 : gbE d' ((fa, ba, k, b, i) :: E') = gbE d' E' := if_pos hk
      have e2 : dep (frs ((fa, ba, k, b, i) :: E')) = dep (frs E') := by show (if isCh k then 0 else 1) + dep (frs E') = _; rw [if_pos hk, Nat.zero_add]
      walk_at "m"
      refine SubG_lastL (by walk_at "m has") ?_
      walk_at "m"
      refine Cmp_neStr ?_
      walk_at "m"
      refine if_ntrue hc ?_
      walk_at "m"
      refine Ex_pop F' rfl rfl ?_
      walk_at "m"
      refine ⟨pr, refsP E', .ref fa, _, rfl, .head, ?_⟩
      walk_at "m"
      exact step d' (e2 ▸ hd') (e1 ▸ he)
    · have hk : ¬ isCh k = true := fun h => hc (wordK_ch.mpr h)
      have e2 : dep (frs ((fa, ba, k, b, i) :: E')) = dep (frs E') + 1 := by show (if isCh k then 0 else 1) + dep (frs E') = _; rw [if_neg hk, Nat.add_comm]
      walk_at "m"
      cases d' with
      | zero =>
        have e1 : gbE 0 ((fa, ba, k, b, i) :: E') = (fa, ba, k, b, i) :: E' := if_neg hk
        rw [e1] at he
        have hs := gbE_sub x E
        have hfr := gbE_frs x E
        rw [← he] at hs hfr
        refine if_neg' (by decide) ?_
        walk_at "m"
        rcases hwd with ⟨rfl, rfl⟩ | ⟨rfl, rfl⟩
        · refine if_pos' rfl ?_
          walk_at "m"
          refine Ex_pop F' rfl rfl ?_
          walk_at "m"
          refine ⟨pr, refsP E', .ref fa, _, rfl, .head, ?_⟩
          walk_at "m"
          refine ⟨_, .own (List.Sublist.cons_cons _ (List.sublist_cons_self ..)), hQ E' (by show frs E' = (gb x (frs E)).tail; rw [← hfr]; rfl) (hB.sub ((List.sublist_cons_self ..).trans hs))⟩
        · refine if_neg' sne ?_
          walk_at "m"
          refine SubG_lastL (by walk_at "m has") ?_
          walk_at "m"
          refine SetG_list F' (.tail .head) (by decide) (show (2 : Int) < ((3 : Nat) : Int) from by decide) ?_
          walk_at "m"
          refine ⟨⟨[(Str.ofString "_law_pile", .ref pr), (Str.ofString "_law_deed", .ref da), (Str.ofString "_law_left", .int (0 : Nat))], B, pileL pr ((fa, ba, k, b, 0) :: E')⟩, ?_, hQ ((fa, ba, k, b, 0) :: E') (by show (k, b, 0) :: frs E' = rewind (gb x (frs E)); rw [← hfr]; rfl) (.cons (hB (fa, ba, k, b, i) (hs.subset List.mem_cons_self)) (hB.sub ((List.sublist_cons_self ..).trans hs)))⟩
          rw [pileL_cons]
          exact .refl _
      | succ d' =>
        have e1 : gbE (d' + 1) ((fa, ba, k, b, i) :: E') = gbE d' E' := if_neg hk
        refine if_pos' (Int.ofNat_lt.mpr (Nat.succ_pos d')) ?_
        walk_at "m"
        refine SubG_lastL (by walk_at "m has") ?_
        walk_at "m"
        refine Cmp_neStr ?_
        walk_at "m"
        refine if_nfalse hc ?_
        walk_at "m"
        refine Ex_pop F' rfl rfl ?_
        walk_at "m"
        refine ⟨pr, refsP E', .ref fa, _, rfl, .head, ?_⟩
        walk_at "m"
        rw [show (((d' + 1 : Nat) : Int) - 1) = (d' : Int) from Int.add_sub_cancel (d' : Int) 1]
        exact step d' (Nat.lt_of_succ_lt_succ (Nat.lt_of_lt_of_le hd' (Nat.le_of_eq e2))) (e1 ▸ he)
end
section
set_option autoImplicit false
set_option linter.unusedVariables false
set_option linter.unusedSimpArgs false
set_option maxRecDepth 100000
open PySem
variable {hb : Heap} {w : World} {f : Addr} {n : Nat}
theorem DdAt.first {B : MH} {a : Addr} {d : Dd} (h : DdAt B a d) : ∃ (s : Str) (r : List MV), B a = some (.tup (.str s :: r)) ∧ (decide (Str.ofString "do" = s) || decide (Str.ofString "choose" = s)) = isStep d := by
  have hn : ∀ {s : Str}, ¬ s = Str.ofString "do" → ¬ s = Str.ofString "choose" → (decide (Str.ofString "do" = s) || decide (Str.ofString "choose" = s)) = false := fun h1 h2 => by
    rw [decide_eq_false fun e => h1 e.symm, decide_eq_false fun e => h2 e.symm]; rfl
  cases hs : isStep d with
  | false =>
    obtain ⟨s, r, h1, h2, h3⟩ := h.word hs
    exact ⟨s, r, h1, hn h2 h3⟩
  | true =>
    obtain ⟨s, x, r, h1, h2⟩ := h.step hs
    refine ⟨s, _, h1, ?_⟩
    rcases h2 with ⟨rfl, _⟩ | ⟨rfl, _⟩
    · rw [decide_eq_true rfl]; rfl
    · rw [decide_eq_true (p := Str.ofString "choose" = Str.ofString "choose") rfl, Bool.or_true]
def S_law_asks : Spec := fun args B own Q => ∃ (pr : Addr) (rs : List Rw) (most W : Nat) (s₀ s : Ms) (e : Addr × Addr × Fr) (E : PL), args = [.ref pr] ∧ own = pileL pr (e :: E) ∧ Here B rs most W s₀ (e :: E) s ∧ Q (.bool (asks s)) B own
theorem ct_law_asks (F : FnAt hb f i_law_asks) (hlim : hb.NoLimit) (glen : Gl hb "len" (.oth (.builtin "len"))) : Contract P w hb (.ref f) (n + 1) S_law_asks := by
  refine Contract.of F hlim (by rintro args B own Q ⟨_, _, _, _, _, _, _, _, e, _⟩; subst e; rfl) ?_
  rintro C args B own Q F' ⟨pr, rs, most, W, s₀, s, ⟨fa, ba, k, b, i⟩, E, rfl, rfl, hI, hQ⟩
  obtain ⟨as, hB, hl, hp, hi, hg⟩ := hI.get
  show Sts C (bodyAt P i_law_asks) ⟨[(Str.ofString "_law_pile", _)], B, _⟩ _
  rw [pileL_cons] at hQ ⊢
  refine Sts_cons ?_
  walk_at "m"
  refine SubG_lastL (by walk_at "m has") ?_
  walk_at "m"
  cases hd : b[i]? with
  | none =>
    have hn : ¬ ((i : Int) < ((as.map MV.ref).length : Nat)) := by
      rw [List.length_map, hl]
      exact fun h => Nat.not_lt.mpr (List.getElem?_eq_none_iff.mp hd) (Int.ofNat_lt.mp h)
    have ha : asks s = false := by simp only [asks, hp, hd]
    rw [ha] at hQ
    refine if_neg' hn ?_
    rw [decide_eq_false hn]
    exact ⟨_, .refl _, hQ⟩
  | some d =>
    obtain ⟨⟨a, ha, hda⟩, -⟩ := hg d hd
    have hlt : (i : Int) < ((as.map MV.ref).length : Nat) := by
      rw [List.length_map, hl]
      exact Int.ofNat_lt.mpr (List.getElem?_eq_some_iff.mp hd).1
    have ha' : (as.map MV.ref)[(i : Int).toNat]? = some (.ref a) := by rw [Int.toNat_natCast, List.getElem?_map, ha]; rfl
    obtain ⟨wd, r, hw, hst⟩ := hda.first
    have hk : asks s = isStep d := by simp only [asks, hp, hd]
    rw [hk, ← hst] at hQ
    refine if_pos' hlt ?_
    walk_at "m"
    refine SubG_tup (.inr hB) (Int.natCast_nonneg _) ha' ?_
    walk_at "m"
    intro t ht
    refine Cmp_inS2 (.inl (.head _)) ?_
    walk_at "m"
    exact ⟨_, .tl, hQ⟩

def ownL (x pr ta : Addr) (E : PL) (s : Ms) : Own := (x, .list (s.bs.map MV.int)) :: (ta, .list (s.tr.map MV.int)) :: pileL pr E
def S_law_step : Spec := fun args B own Q => ∃ (b x pr ta : Addr) (rs : List Rw) (most W : Nat) (s₀ s : Ms) (e : Addr × Addr × Fr) (E : PL), args = [.ref b, .ref x, .ref pr, .ref ta] ∧ own = ownL x pr ta (e :: E) s ∧ RowsAt B b rs ∧ Fits rs ∧ Here B rs most W s₀ (e :: E) s ∧ W ≤ 998 ∧ most ≤ 998 ∧
  ∀ E' : PL, frs E' = (one (faR rs) (fqR rs) s).p → BodiesAt B E' → Q .none B (ownL x pr ta E' (one (faR rs) (fqR rs) s))
theorem DdAt.rest {B : MH} {a : Addr} {d : Dd} (h : DdAt B a d) (hs : isStep d = false) :
    (∃ k ba c, B a = some (.tup [.str (wordK k), .ref ba]) ∧ (k = .block ∨ k = .loop) ∧ BdAt B ba c ∧ ∀ q, nxP q d = (k, c, 0) :: q) ∨
    (B a = some (.tup [.str (Str.ofString "stop")]) ∧ d = .stop) ∨
    ∃ (s : Str) (x : Nat) (r : List MV), B a = some (.tup (.str s :: r)) ∧ (s = Str.ofString "leave" ∨ s = Str.ofString "again") ∧ (d = .leave x ∨ d = .again x) := by
  cases h with
  | act _ => cases hs
  | choose _ _ _ => cases hs
  | block h h1 => exact .inl ⟨.block, _, _, h, .inl rfl, h1, fun _ => rfl⟩
  | loop h h1 => exact .inl ⟨.loop, _, _, h, .inr rfl, h1, fun _ => rfl⟩
  | leave h => exact .inr (.inr ⟨_, _, _, h, .inl rfl, .inl rfl⟩)
  | again h => exact .inr (.inr ⟨_, _, _, h, .inr rfl, .inr rfl⟩)
  | stop h => exact .inr (.inl ⟨h, rfl⟩)
theorem fq_idx {z : Int} {ya na : Addr} {x : Int} : (0 : Int) ≤ 2 + (if decide (z ≤ 0) then 1 else 0) ∧ [MV.str (Str.ofString "choose"), .int x, .ref ya, .ref na][((2 : Int) + (if decide (z ≤ 0) then 1 else 0)).toNat]? = some (.ref (if decide (0 < z) then ya else na)) := by
  by_cases h : z ≤ 0
  · rw [decide_eq_true h, decide_eq_false (Int.not_lt.mpr h)]; exact ⟨by decide, rfl⟩
  · rw [decide_eq_false h, decide_eq_true (Int.not_le.mp h)]; exact ⟨by decide, rfl⟩
theorem ct_law_step (F : FnAt hb f i_law_step) (hlim : hb.NoLimit) (h1 : FnO P w hb "_law_out" 1 S_law_out) (glen : Gl hb "len" (.oth (.builtin "len"))) (gin : Gl hb "int" (.oth (.type "int"))) : Contract P w hb (.ref f) 2 S_law_step := by
  refine Contract.of F hlim (by rintro args B own Q ⟨_, _, _, _, _, _, _, _, _, _, _, e, _⟩; subst e; rfl) ?_
  rintro C args B own Q F' ⟨b, x, pr, ta, rs, most, W, s₀, s, ⟨fa, ba, k, b', i⟩, E, rfl, rfl, hR, hF, hI, hW, hm, hQ⟩
  obtain ⟨as', hB', hl', hp, hi, hg⟩ := hI.get
  obtain ⟨as, hB, ht⟩ := hR
  have hlen := hI.len hW
  have hbe := hI.bod.tail
  have hbc : ∀ i, BodiesAt B ((fa, ba, k, b', i) :: E) := fun _ => .cons (hI.bod (fa, ba, k, b', i) List.mem_cons_self) hbe
  have hrl : (refsP E ++ [MV.ref fa]).length + 1 ≤ lim := by simpa [refsP] using hlen
  have htl : (s.tr.map MV.int).length + 1 ≤ lim := by rw [List.length_map]; exact lim_ok (n := 998) (Nat.le_trans hI.inv.tr hm) (by decide)
  have fin : ∀ (E' : PL) (s' : Ms) (l : Loc) (own : Own), one (faR rs) (fqR rs) s = s' → frs E' = s'.p → BodiesAt B E' → Cv ((ownL x pr ta ((fa, ba, k, b', i) :: E) s).map (·.1)) ⟨l, B, own⟩ ⟨l, B, ownL x pr ta E' s'⟩ → End ((ownL x pr ta ((fa, ba, k, b', i) :: E) s).map (·.1)) Q .none ⟨l, B, own⟩ := by
    rintro E' s' l own rfl h1 h2 h3
    exact ⟨_, h3, hQ E' h1 h2⟩
  show Sts C (bodyAt P i_law_step) ⟨[(Str.ofString "_law_rows", _), (Str.ofString "_law_held", _), (Str.ofString "_law_pile", _), (Str.ofString "_law_trail", _)], B, _⟩ _
  rw [show ownL x pr ta ((fa, ba, k, b', i) :: E) s = (x, .list (s.bs.map MV.int)) :: (ta, .list (s.tr.map MV.int)) :: (pr, .list (refsP E ++ [.ref fa])) :: (fa, .list [.str (wordK k), .ref ba, .int i]) :: ownP mvL E by rw [ownL, pileL_cons]] at fin F' ⊢
  clear hQ
  refine Sts_cons ?_
  walk_at "m"
  refine SubG_lastL (by walk_at "m has") ?_
  walk_at "m"
  cases hd : b'[i]? with
  | none =>
    refine if_pos' (by rw [List.length_map, hl']; exact congrArg Int.ofNat (Nat.le_antisymm hi (List.getElem?_eq_none_iff.mp hd))) ?_
    walk_at "m"
    refine Ex_pop F' rfl rfl ?_
    walk_at "m"
    refine ⟨pr, refsP E, .ref fa, _, rfl, .tail (.tail .head), ?_⟩
    walk_at "m"
    refine Stm_Return_none ?_
    exact fin E _ _ _ (one_end hp hd) rfl hbe (.own (.cons_cons _ (.cons_cons _ (.cons_cons _ (List.sublist_cons_self ..)))))
  | some d =>
    obtain ⟨⟨a, ha, hda⟩, hod⟩ := hg d hd
    have hlt : i < b'.length := (List.getElem?_eq_some_iff.mp hd).1
    have ha' : (as'.map MV.ref)[(i : Int).toNat]? = some (.ref a) := by rw [Int.toNat_natCast, List.getElem?_map, ha]; rfl
    have hone := one_get (fa := faR rs) (fq := fqR rs) hp hd
    refine if_neg' (by rw [List.length_map, hl']; exact fun e => Nat.ne_of_lt hlt (Int.ofNat_inj.mp e)) ?_
    walk_at "m"
    refine SubG_tup (.inr hB') (Int.natCast_nonneg _) ha' ?_
    walk_at "m"
    refine SetG_list F' (.tail (.tail (.tail .head))) (by decide) (show (2 : Int) < ((3 : Nat) : Int) from by decide) ?_
    cases hst : isStep d with
    | true =>
      obtain ⟨wd, x', wr, hw, hsp⟩ := hda.step hst
      have hx' := okD_row hod (hsp.imp (·.2) fun ⟨_, _, _, y, no, _, h, _⟩ => ⟨y, no, h⟩)
      have hxl : x' < rs.length := by rw [hF.len]; exact hx'.2
      obtain ⟨c, hc1, hc2⟩ := ht.get (row_get hx'.1 hxl)
      have hcm : (as.map MV.ref)[x'.toNat]? = some (.ref c) := by rw [List.getElem?_map, hc1]; rfl
      have rok := rowZ_ok hF.ok hx'.1 hxl
      have hbl : (rowZ rs x').box < s.bs.length := by rw [hI.l4]; exact rok.2.1
      walk_at "m"
      rcases hsp with ⟨rfl, rfl⟩ | ⟨rfl, ya, na, y, no, rfl, rfl, hy, hno⟩
      · refine if_pos' rfl ?_
        walk_at "m"
        refine SubG_list (.inr hB) hx'.1 hcm ?_
        walk_at "m"
        refine SubG_list (by walk_at "m has") rok.1 (box_get rok.1 hbl) ?_
        walk_at "m"
        refine SetG_list F' .head rok.1 (by rw [List.length_map]; exact hbl) ?_
        walk_at "m"
        have hadd : faR rs x' s.bs = s.bs.set (rowZ rs x').box.toNat (boxZ s.bs (rowZ rs x').box + (rowZ rs x').z) := by
          simp only [okD] at hod
          unfold faR doRow; rw [hF.add x' hod]; rfl
        refine fin ((fa, ba, k, b', i + 1) :: E) _ _ _ hone rfl (hbc _) ?_
        dsimp only [oneD]
        rw [ownL, pileL_cons, hadd, List.map_set, List.map_append]
        exact .refl _
      · refine if_neg' sne ?_
        walk_at "m"
        refine if_pos' rfl ?_
        walk_at "m"
        refine SubG_list (.inr hB) hx'.1 hcm ?_
        walk_at "m"
        refine SubG_list (by walk_at "m has") rok.1 (box_get rok.1 hbl) ?_
        walk_at "m"
        have fq := fq_idx (z := boxZ s.bs (rowZ rs x').box) (ya := ya) (na := na) (x := x')
        refine SubG_tup (.inr hw) fq.1 fq.2 ?_
        walk_at "m"
        intro g hg'
        refine App2_i (.tail (.tail (.tail .head))) hrl ?_
        walk_at "m"
        have hbd : BdAt B (if fqR rs x' s.bs then ya else na) (if fqR rs x' s.bs then y else no) := by
          cases fqR rs x' s.bs with
          | true => exact hy
          | false => exact hno
        refine fin ((g, _, .choose, _, 0) :: (fa, ba, k, b', i + 1) :: E) _ _ _ hone rfl (.cons hbd (hbc _)) ?_
        dsimp only [oneD]
        rw [ownL, pileL, refsP_cons, refsP_cons, List.map_append]
        exact .perm (List.perm_middle (l₁ := [(x, _), (ta, _), (pr, _)])).symm
    | false =>
      have hnx := hone.trans (oneD_nx hst)
      rcases hda.rest hst with ⟨k', ba', c, hw, hk', hc, hnp⟩ | ⟨hw, rfl⟩ | ⟨wd, y, r, hw, hwd, hdy⟩
      · rcases hk' with rfl | rfl
        all_goals
          walk_at "m"
          refine if_neg' sne ?_
          walk_at "m"
          refine if_neg' sne ?_
          walk_at "m"
          intro t ht'
          refine Cmp_inS2 (.inl (.head _)) ?_
          walk_at "m"
          first
            | refine if_bt in1 ?_
            | refine if_bt in2 ?_
          walk_at "m"
          intro g hg'
          refine App2_i (by walk_at "m upd") hrl ?_
          walk_at "m"
          refine fin ((g, _, _, _, 0) :: (fa, ba, k, b', i + 1) :: E) _ _ _ hnx (hnp _).symm (.cons hc (hbc _)) ?_
          rw [ownL, pileL, refsP_cons, refsP_cons]
          refine .trans (.own (.cons_cons _ (List.sublist_cons_self ..))) (.perm (List.perm_middle (l₁ := [(x, _), (ta, _), (pr, _)])).symm)
      · walk_at "m"
        refine if_neg' sne ?_
        walk_at "m"
        refine if_neg' sne ?_
        walk_at "m"
        intro t ht'
        refine Cmp_inS2 (.inl (.head _)) ?_
        walk_at "m"
        refine if_bf inF ?_
        walk_at "m"
        refine if_pos' rfl ?_
        walk_at "m"
        refine Ex_clear F' rfl rfl ?_
        walk_at "m"
        refine ⟨pr, _, _, rfl, .tail (.tail (.tail .head)), ?_⟩
        walk_at "m"
        exact fin [] _ _ _ hnx rfl (fun e he => nomatch he) (.own (.cons _ (.cons_cons _ (.cons_cons _ (.cons_cons _ (List.nil_sublist _))))))
      · have hfar : y < dep (frs ((fa, ba, k, b', i + 1) :: E)) := by
          have := farOk_of (q := (k, b', i + 1) :: frs E) hod
          rcases hdy with rfl | rfl
          · exact this
          · exact this
        walk_at "m"
        refine if_neg' (by rcases hwd with rfl | rfl <;> exact sne) ?_
        walk_at "m"
        refine if_neg' (by rcases hwd with rfl | rfl <;> exact sne) ?_
        walk_at "m"
        intro t ht'
        refine Cmp_inS2 (.inl (.head _)) ?_
        walk_at "m"
        refine if_bf (by rcases hwd with rfl | rfl <;> exact inF) ?_
        walk_at "m"
        refine if_neg' (by rcases hwd with rfl | rfl <;> exact sne) ?_
        walk_at "m"
        refine ⟨pileL pr ((fa, ba, k, b', i + 1) :: E), [(t, .tup [.str (Str.ofString "block"), .str (Str.ofString "loop")]), (x, .list (s.bs.map MV.int)), (ta, .list (s.tr.map MV.int))], ?_, pr, a, d, y, (fa, ba, k, b', i + 1) :: E, rfl, rfl, hda, hdy, hfar, hbc _, fun E' hE hb' => ?_⟩
        · rw [pileL_cons]
          exact List.perm_append_comm (l₁ := [(t, _), (x, _), (ta, _)])
        · walk_at "m"
          refine fin E' _ _ _ hnx hE hb' (.trans (.perm (List.perm_append_comm (l₂ := [(t, _), (x, _), (ta, _)]))) .tl)
end
section
set_option autoImplicit false
set_option linter.unusedVariables false
set_option linter.unusedSimpArgs false
set_option maxRecDepth 100000
open PySem
variable {hb : Heap} {w : World} {f : Addr} {n : Nat}
def S_law_walk : Spec := fun args B own Q => own = [] ∧ ∃ (b ba x : Addr) (rs : List Rw) (bs : List Int) (most : Nat) (body : List Dd), args = [.ref b, .ref ba, .ref x, .int most] ∧ RowsAt B b rs ∧ Fits rs ∧ B x = some (.list (bs.map MV.int)) ∧ bs.length = 4 ∧ BdAt B ba body ∧ okL 0 body ∧ wt body ≤ 998 ∧ most ≤ 998 ∧
  ∀ (da y tr : Addr) (B' : MH) (s : Ms) (o : Bool), Sub0 B B' → B' da = some (.list [.ref y, .int s.tr.length, .bool o, .ref tr]) → B' y = some (.list (s.bs.map MV.int)) → s.bs.length = 4 → Runs (faR rs) (fqR rs) most (start bs body) s o → Q (.ref da) B' []
theorem ct_law_walk (F : FnAt hb f i_law_walk) (hlim : hb.NoLimit) (h1 : FnO P w hb "_law_asks" 1 S_law_asks) (h2 : FnO P w hb "_law_step" 2 S_law_step) (glen : Gl hb "len" (.oth (.builtin "len"))) (gli : Gl hb "list" (.oth (.type "list"))) : Contract P w hb (.ref f) 3 S_law_walk := by
  refine Contract.of F hlim (by rintro args B own Q ⟨_, _, _, _, _, _, _, _, e, _⟩; subst e; rfl) ?_
  rintro C args B own Q F' ⟨rfl, b, ba, x, rs, bs, most, body, rfl, hR, hF, hx, h4, hbd, hok, hW, hm, hQ⟩
  show Sts C (bodyAt P i_law_walk) ⟨[(Str.ofString "_law_rows", _), (Str.ofString "_law_body", _), (Str.ofString "_law_boxes", _), (Str.ofString "_law_most", _)], B, []⟩ _
  refine Sts_cons ?_
  walk_at "m"
  intro x2 hx2
  walk_at "m"
  intro f0 hf0
  walk_at "m"
  intro pr hpr
  walk_at "m"
  intro ta hta
  have hne : ta ≠ x2 := fun e => hta.own (by simp [e])
  walk_at "m"
  refine Stm_WhileC F' (fun k σ' => ∃ (E : PL) (s : Ms), σ' = ⟨[(Str.ofString "_law_rows", .ref b), (Str.ofString "_law_body", .ref ba), (Str.ofString "_law_boxes", .ref x), (Str.ofString "_law_most", .int most), (Str.ofString "_law_held", .ref x2), (Str.ofString "_law_pile", .ref pr), (Str.ofString "_law_trail", .ref ta)], B, ownL x2 pr ta E s⟩ ∧ k = mu most (wt body) s ∧ Here B rs most (wt body) (start bs body) E s) ?_ _ ⟨_, .perm ?_, [(f0, ba, .choose, body, 0)], _, rfl, rfl, .begin hbd hok h4⟩
  · rintro k σ' ⟨E, s, rfl, rfl, hI⟩
    have fin : ∀ (o : Bool) (z : Int), z = s.tr.length → Runs (faR rs) (fqR rs) most s s o → ∀ (l : Loc) (own : Own), own.Perm (ownL x2 pr ta E s) → ∀ (t : Addr), Fsh [] ⟨l, B, own⟩ t →
        End [] Q (.ref t) ⟨l, B, (t, .list [.ref x2, .int z, .bool o, .ref ta]) :: own⟩ := by
      intro o z hz ho l own hp t ht
      subst hz
      obtain ⟨hs, hg⟩ := setBs_ok (B := B) (new := [(t, .list [.ref x2, .int s.tr.length, .bool o, .ref ta]), (x2, .list (s.bs.map MV.int)), (ta, .list (s.tr.map MV.int))])
        (fun a ha => by
          simp only [List.map_cons, List.map_nil, List.mem_cons, List.not_mem_nil, or_false] at ha
          rcases ha with rfl | rfl | rfl
          · exact ht.B
          · exact hx2.B
          · exact hta.B)
        (by
          have e1 : t ≠ x2 := fun e => ht.own ((hp.map (·.1)).mem_iff.mpr (by simp [ownL, e]))
          have e2 : t ≠ ta := fun e => ht.own ((hp.map (·.1)).mem_iff.mpr (by simp [ownL, e]))
          simp [e1, e2, hne.symm])
      have c : Cv [] ⟨l, B, [(t, MO.list [.ref x2, .int s.tr.length, .bool o, .ref ta]), (x2, .list (s.bs.map MV.int)), (ta, .list (s.tr.map MV.int))] ++ []⟩ ⟨l, _, []⟩ := .frzs (fun _ _ => List.not_mem_nil)
      exact ⟨_, .trans (.perm (hp.cons _)) <| .trans (.own (.cons_cons _ (.cons_cons _ (.cons_cons _ (List.nil_sublist _))))) c, hQ t x2 ta _ s o hs (hg _ (.head _)) (hg _ (.tail _ (.head _))) hI.l4 (hI.run _ _ ho)⟩
    cases E with
    | nil =>
      rw [ownL, show pileL pr [] = [(pr, .list [])] from rfl] at fin ⊢
      walk_at "m"
      refine if_neg' (by decide) ?_
      walk_at "m"
      exact fin true _ (by rw [List.length_map]) (.over hI.p) _ _ (.refl _)
    | cons e E =>
      have hne : s.p ≠ [] := by rw [hI.p]; exact List.cons_ne_nil _ _
      have step : (asks s = true → s.tr.length ≠ most) → ∀ E' : PL, frs E' = (one (faR rs) (fqR rs) s).p → BodiesAt B E' → Tn [] (fun σ₃ => ∃ m, m < mu most (wt body) s ∧ ∃ (E : PL) (s : Ms), σ₃ = ⟨[(Str.ofString "_law_rows", .ref b), (Str.ofString "_law_body", .ref ba), (Str.ofString "_law_boxes", .ref x), (Str.ofString "_law_most", .int most), (Str.ofString "_law_held", .ref x2), (Str.ofString "_law_pile", .ref pr), (Str.ofString "_law_trail", .ref ta)], B, ownL x2 pr ta E s⟩ ∧ m = mu most (wt body) s ∧ Here B rs most (wt body) (start bs body) E s)
          ⟨[(Str.ofString "_law_rows", .ref b), (Str.ofString "_law_body", .ref ba), (Str.ofString "_law_boxes", .ref x), (Str.ofString "_law_most", .int most), (Str.ofString "_law_held", .ref x2), (Str.ofString "_law_pile", .ref pr), (Str.ofString "_law_trail", .ref ta)], B, ownL x2 pr ta E' (one (faR rs) (fqR rs) s)⟩ := by
        intro ha E' hE hb'
        obtain ⟨hn, hmu⟩ := hI.next hne ha hE hb'
        exact ⟨_, .refl _, _, hmu, E', _, rfl, rfl, hn⟩
      have hpl : Has ⟨[], B, ownL x2 pr ta (e :: E) s⟩ pr (.list (refsP (e :: E))) := .inl (.tail _ (.tail _ (.head _)))
      have htl : Has ⟨[], B, ownL x2 pr ta (e :: E) s⟩ ta (.list (s.tr.map MV.int)) := .inl (.tail _ (.head _))
      walk_at "m"
      refine Call_len_list hpl ?_
      walk_at "m"
      refine if_pos' (by rw [refsP_cons, List.length_append]; exact Int.ofNat_lt.mpr (Nat.succ_pos _)) ?_
      walk_at "m"
      refine Call_len_list htl ?_
      walk_at "m"
      rw [List.length_map]
      refine if_dec (fun hc => ?_) (fun hc => ?_)
      · walk_at "m"
        refine ⟨pileL pr (e :: E), [(x2, _), (ta, _)], List.perm_append_comm (l₁ := [(x2, _), (ta, _)]), pr, rs, most, wt body, start bs body, s, e, E, rfl, rfl, hI, ?_⟩
        refine Trt_bool ?_
        cases hk : asks s with
        | true =>
          walk_at "m"
          exact fin false _ hc.symm (.full hne (Int.ofNat_inj.mp hc) hk) _ _ (List.perm_append_comm (l₂ := [(x2, _), (ta, _)]))
        | false =>
          walk_at "m"
          refine ⟨ownL x2 pr ta (e :: E) s, [], by rw [List.append_nil]; exact List.perm_append_comm (l₂ := [(x2, _), (ta, _)]), b, x2, pr, ta, rs, most, wt body, start bs body, s, e, E, rfl, rfl, hR, hF, hI, hW, hm, fun E' hE hb' => ?_⟩
          dsimp only
          rw [List.append_nil]
          walk_at "m"
          exact step (by rw [hk]; exact fun h => nomatch h) E' hE hb'
      · walk_at "m"
        refine ⟨ownL x2 pr ta (e :: E) s, [], by rw [List.append_nil], b, x2, pr, ta, rs, most, wt body, start bs body, s, e, E, rfl, rfl, hR, hF, hI, hW, hm, fun E' hE hb' => ?_⟩
        dsimp only
        rw [List.append_nil]
        walk_at "m"
        exact step (fun _ e => hc (congrArg Int.ofNat e)) E' hE hb'
  · exact (List.perm_append_comm (l₁ := [(ta, _), (pr, _), (f0, _)]) (l₂ := [(x2, _)])).trans (.refl _)
end
section
set_option autoImplicit false
set_option linter.unusedVariables false
set_option linter.unusedSimpArgs false
set_option maxRecDepth 100000
open PySem
variable {hb : Heap} {w : World} {f : Addr} {n : Nat}
/-! fresh objects, all frozen at the end -/
def Frs (B : MH) : Own → Prop
  | [] => True
  | (a, _) :: r => B a = none ∧ a ∉ r.map (·.1) ∧ Frs B r
theorem Frs.cons {md : List Addr} {σ : St} {a : Addr} {o : MO} (h : Fsh md σ a) (hr : Frs σ.B σ.own) : Frs σ.B ((a, o) :: σ.own) := ⟨h.B, h.own, hr⟩
theorem Frs.ok {B : MH} : ∀ {own : Own}, Frs B own → (∀ a ∈ own.map (·.1), B a = none) ∧ (own.map (·.1)).Nodup
  | [], _ => ⟨fun _ h => (nomatch h), .nil⟩
  | (a, _) :: r, ⟨h1, h2, h3⟩ => by
    refine ⟨fun b hb' => ?_, List.nodup_cons.mpr ⟨h2, h3.ok.2⟩⟩
    rcases List.mem_cons.mp hb' with rfl | hb'
    · exact h1
    · exact h3.ok.1 b hb'
theorem End_frz {Q : MV → MH → Own → Prop} {r : MV} {l : Loc} {B : MH} {own : Own} (h : Frs B own) (hq : ∀ B', Sub0 B B' → (∀ p ∈ own, B' p.1 = some p.2) → Q r B' []) : End [] Q r ⟨l, B, own⟩ := by
  obtain ⟨s, g⟩ := setBs_ok h.ok.1 h.ok.2
  have c : Cv [] ⟨l, B, own ++ []⟩ ⟨l, setBs B own, []⟩ := .frzs fun _ _ h => nomatch h
  rw [List.append_nil] at c
  exact ⟨_, c, hq _ s g⟩
section
variable {C : Cx} {prog : Program} {sc : Scope} {fl : Bool} {l : Loc} {B : MH} {own : Own}
theorem Tr.frzA {α β : Type} {t : Sem α} {R : β → α → Prop} {Q : β → St → Prop} (F : Fx C hb prog w sc n [] fl)
    (h : ∀ B', Sub0 B B' → (∀ p ∈ own, B' p.1 = some p.2) → Tr C t R ⟨l, B', []⟩ Q) : Tr C t R ⟨l, B, own⟩ Q := by
  have := Tr.frzs (B := B) (l := l) F own [] (fun _ _ h => nomatch h) h
  rw [List.append_nil] at this
  exact this
theorem Store_frzA {y : Str} {m : MV} {Q : St → Prop} (F : Fx C hb prog w sc n [] fl) (h : ∀ B', Sub0 B B' → (∀ p ∈ own, B' p.1 = some p.2) → Store C y m ⟨l, B', []⟩ Q) : Store C y m ⟨l, B, own⟩ Q := fun v hv => Tr.frzA F fun B' s g => h B' s g v hv
theorem Bin_frzA {o : Operator} {a b : MV} {Q : MV → St → Prop} (F : Fx C hb prog w sc n [] fl) (h : ∀ B', Sub0 B B' → (∀ p ∈ own, B' p.1 = some p.2) → Bin C o a b ⟨l, B', []⟩ Q) : Bin C o a b ⟨l, B, own⟩ Q := fun va vb ha hb' => Tr.frzA F fun B' s g => h B' s g va vb ha hb'
end
/-! short bodies -/
structure Good (n : Nat) (y : List Dd) : Prop where
  a : okA n y
  g : ∀ f, ag f y
  w : wt y ≤ 2
theorem good_nil {n : Nat} : Good n [] := ⟨by simp only [okA], fun _ => trivial, Nat.zero_le _⟩
theorem good_act {n : Nat} {r : Int} (h : r = 0 ∨ r = 1) : Good n [.act r] := ⟨by simp only [okA, okD, and_true]; exact h, fun _ => trivial, by simp only [wt, wd]; decide⟩
theorem good_stop {n : Nat} : Good n [.stop] := ⟨by simp only [okA, okD, and_true], fun _ => trivial, by simp only [wt, wd]; decide⟩
theorem good_actStop {n : Nat} {r : Int} (h : r = 0 ∨ r = 1) : Good n [.act r, .stop] := ⟨by simp only [okA, okD, and_true]; exact h, fun _ => trivial, by simp only [wt, wd]; decide⟩
theorem good_leave {n d : Nat} {r : Int} (h : r = 0 ∨ r = 1) (hd : d < n) : Good n [.act r, .leave d] := ⟨by simp only [okA, okD, and_true]; exact ⟨h, hd⟩, fun _ => trivial, by simp only [wt, wd]; decide⟩
theorem good_again {n d : Nat} {r : Int} (h : r = 0 ∨ r = 1) (hd : d < n) : Good n [.act r, .again d] := ⟨by simp only [okA, okD, and_true]; exact ⟨h, hd⟩, fun _ => ⟨rfl, trivial⟩, by simp only [wt, wd]; decide⟩
theorem mod2 (c : Int) : c.fmod 2 = 0 ∨ c.fmod 2 = 1 := by
  have := fmod_bounds c (b := 2) (by decide)
  omega
/-- the last of what side and bare give -/
theorem out_pair {B B' : MH} {t1 t2 t3 : Addr} {r : Int} {wd : Str} {d n : Nat} (hr : r = 0 ∨ r = 1) (hd : d < n) (hw : wd = Str.ofString "leave" ∨ wd = Str.ofString "again")
    (h1 : B' t1 = some (.tup [.str (Str.ofString "do"), .int r])) (h2 : B' t2 = some (.tup [.str wd, .int d])) (h3 : B' t3 = some (.tup [.ref t1, .ref t2])) : ∃ y, BdAt B' t3 y ∧ Good n y := by
  rcases hw with rfl | rfl
  · exact ⟨_, .mk (as := [t1, t2]) h3 (.cons (.act h1) (.cons (.leave h2) .nil)), good_leave hr hd⟩
  · exact ⟨_, .mk (as := [t1, t2]) h3 (.cons (.act h1) (.cons (.again h2) .nil)), good_again hr hd⟩
def S_law_side : Spec := fun args B own Q => own = [] ∧ ∃ (c : Int) (ka : Addr) (ks : List Str), args = [.int c, .ref ka] ∧ B ka = some (.list (ks.map MV.str)) ∧ ks.length ≤ 998 ∧ ∀ a B' y, Sub0 B B' → BdAt B' a y → Good ks.length y → Q (.ref a) B' []
theorem kinds_at {ks : List Str} {d : Nat} (h : d < ks.length) : (0 : Int) ≤ (ks.map MV.str).length - 1 - d ∧ ∃ k, (ks.map MV.str)[((((ks.map MV.str).length : Nat) : Int) - 1 - d).toNat]? = some (.str k) := by
  rw [List.length_map]
  refine ⟨by omega, ks[((ks.length : Int) - 1 - d).toNat]'(by omega), ?_⟩
  rw [List.getElem?_map, List.getElem?_eq_getElem (by omega)]; rfl
theorem kinds_pos {ks : List Str} (h : ¬ (((ks.map MV.str).length : Nat) : Int) = 0) (h6 : ks.length ≤ 998) : (0 : Int) < ((ks.map MV.str).length : Nat) ∧ ((((ks.map MV.str).length : Nat) : Int)).natAbs.log2 < 9000 := by
  rw [List.length_map] at h ⊢
  exact ⟨by omega, log2_small (by omega)⟩
theorem ct_law_side (F : FnAt hb f i_law_side) (hlim : hb.NoLimit) (glen : Gl hb "len" (.oth (.builtin "len"))) : Contract P w hb (.ref f) (n + 1) S_law_side := by
  refine Contract.of F hlim (by rintro args B own Q ⟨_, _, _, _, e, _⟩; subst e; rfl) ?_
  rintro C args B own Q F' ⟨rfl, c, ka, ks, rfl, hk, h6, hQ⟩
  show Sts C (bodyAt P i_law_side) ⟨[(Str.ofString "_law_cell", _), (Str.ofString "_law_kinds", _)], B, []⟩ _
  refine Sts_cons ?_
  walk_at "m"
  intro t0 h0
  walk_at "m"
  intro t1 h1
  walk_at "m"
  intro t2 h2
  walk_at "m"
  intro t3 h3
  walk_at "m"
  intro t4 h4
  walk_at "m"
  intro t5 h5
  walk_at "m"
  intro dl hdl
  refine Store_frzA F' fun B' s g => ?_
  have gd := g _ (.head _)
  have g5 := g _ (.tail _ (.head _))
  have g4 := g _ (.tail _ (.tail _ (.head _)))
  have g3 := g _ (.tail _ (.tail _ (.tail _ (.head _))))
  have g2 := g _ (.tail _ (.tail _ (.tail _ (.tail _ (.head _)))))
  have g1 := g _ (.tail _ (.tail _ (.tail _ (.tail _ (.tail _ (.head _))))))
  have g0 := g _ (.tail _ (.tail _ (.tail _ (.tail _ (.tail _ (.tail _ (.head _)))))))
  dsimp only at gd g5 g4 g3 g2 g1 g0
  clear g
  replace hk := s _ _ hk
  have hr := mod2 (c.fdiv 8)
  generalize (c.fdiv 8).fmod 2 = r at hr g1
  have pick : (0 : Int) ≤ c.fmod 4 ∧ ∃ a y, [MV.ref t0, .ref t2, .ref t4, .ref t5][(c.fmod 4).toNat]? = some (.ref a) ∧ BdAt B' a y ∧ Good ks.length y := by
    have hb4 := fmod_bounds c (b := 4) (by decide)
    refine ⟨hb4.1, ?_⟩
    have : c.fmod 4 = 0 ∨ c.fmod 4 = 1 ∨ c.fmod 4 = 2 ∨ c.fmod 4 = 3 := by omega
    rcases this with e | e | e | e
    · rw [e]; exact ⟨t0, [], rfl, .mk (as := []) g0 .nil, good_nil⟩
    · rw [e]; exact ⟨t2, _, rfl, .mk (as := [t1]) g2 (.cons (.act g1) .nil), good_act hr⟩
    · rw [e]; exact ⟨t4, _, rfl, .mk (as := [t3]) g4 (.cons (.stop g3) .nil), good_stop⟩
    · rw [e]; exact ⟨t5, [], rfl, .mk (as := []) g5 .nil, good_nil⟩
  obtain ⟨p0, pa, py, p1, p2, p3⟩ := pick
  walk_at "m"
  refine if_dec (fun hc => ?_) (fun hc => ?_)
  · walk_at "m"
    refine SubG_list (.inr gd) p0 p1 ?_
    walk_at "m"
    exact ⟨_, .refl _, hQ _ _ _ s p2 p3⟩
  walk_at "m"
  refine if_dec (fun hn => ?_) (fun hn => ?_)
  · walk_at "m"
    refine SubG_list (.inr gd) p0 p1 ?_
    walk_at "m"
    exact ⟨_, .refl _, hQ _ _ _ s p2 p3⟩
  walk_at "m"
  obtain ⟨k0, k1⟩ := kinds_pos hn h6
  refine Bin_mod hn k1 ?_
  have hf := fmod_bounds (c.fdiv 8) k0
  generalize (c.fdiv 8).fmod (((ks.map MV.str).length : Nat) : Int) = far at hf ⊢
  obtain ⟨d, rfl⟩ := Int.eq_ofNat_of_zero_le hf.1
  have hd : d < ks.length := by have := hf.2; rw [List.length_map] at this; exact Int.ofNat_lt.mp this
  obtain ⟨i0, kk, i1⟩ := kinds_at hd
  walk_at "m store"
  refine Sts_cons ?_
  refine Stm_Assign rfl ?_
  refine Ex_str ?_
  walk_at "m store"
  refine Sts_cons ?_
  refine Stm_mono (Q := fun fl σ' => fl = .next ∧ ∃ wd, (wd = Str.ofString "leave" ∨ wd = Str.ofString "again") ∧ σ' = ⟨[(Str.ofString "_law_cell", .int c), (Str.ofString "_law_kinds", .ref ka), (Str.ofString "_law_deeds", .ref dl), (Str.ofString "_law_far", .int d), (Str.ofString "_law_word", .str wd)], B', []⟩) ?_ ?_
  · walk_at "m"
    refine SubG_list (.inr hk) i0 i1 ?_
    walk_at "m"
    refine if_dec (fun _ => ?_) (fun _ => ?_)
    · walk_at "m"
      refine if_dec (fun _ => ?_) (fun _ => ?_)
      · walk_at "m"
        exact ⟨rfl, _, .inr rfl, rfl⟩
      · walk_at "m"
        exact ⟨rfl, _, .inl rfl, rfl⟩
    · walk_at "m"
      exact ⟨rfl, _, .inl rfl, rfl⟩
  rintro _ _ ⟨rfl, wd, hwd, rfl⟩
  have hr' := mod2 (c.fdiv 8)
  dsimp only
  walk_at "m"
  intro u1 e1
  walk_at "m"
  intro u2 e2
  walk_at "m"
  intro u3 e3
  refine End_frz (.cons e3 (.cons e2 (.cons e1 trivial))) fun B2 s2 g => ?_
  obtain ⟨y, hy, hg⟩ := out_pair (B := B') hr' hd hwd (g _ (.tail _ (.tail _ (.head _)))) (g _ (.tail _ (.head _))) (g _ (.head _))
  exact hQ _ _ _ (s.trans s2) hy hg
theorem ct_law_bare (F : FnAt hb f i_law_bare) (hlim : hb.NoLimit) (glen : Gl hb "len" (.oth (.builtin "len"))) : Contract P w hb (.ref f) (n + 1) S_law_side := by
  refine Contract.of F hlim (by rintro args B own Q ⟨_, _, _, _, e, _⟩; subst e; rfl) ?_
  rintro C args B own Q F' ⟨rfl, c, ka, ks, rfl, hk, h6, hQ⟩
  show Sts C (bodyAt P i_law_bare) ⟨[(Str.ofString "_law_cell", _), (Str.ofString "_law_kinds", _)], B, []⟩ _
  have hr := mod2 c
  have hr2 := mod2 (c.fdiv 6)
  refine Sts_cons ?_
  refine Stm_mono (Q := fun fl σ' => match fl with | .next => ¬ (((ks.map MV.str).length : Nat) : Int) = 0 ∧ σ' = ⟨[(Str.ofString "_law_cell", .int c), (Str.ofString "_law_kinds", .ref ka)], B, []⟩ | .ret v => End [] Q v σ') ?_ ?_
  · refine Stm_If ?_
    refine Ts_mono (Q := fun b σ' => (b = false → ¬ (((ks.map MV.str).length : Nat) : Int) = 0) ∧ σ' = ⟨[(Str.ofString "_law_cell", .int c), (Str.ofString "_law_kinds", .ref ka)], B, []⟩) ?_ ?_
    · walk_at "m"
      refine if_dec (fun hc => ?_) (fun hc => ?_)
      · exact ⟨fun h => (nomatch h), rfl⟩
      walk_at "m"
      refine if_dec (fun hc => ?_) (fun hc => ?_)
      · exact ⟨fun h => (nomatch h), rfl⟩
      walk_at "m"
      exact ⟨fun _ => hc, rfl⟩
    rintro b _ ⟨hb', rfl⟩
    cases b with
    | false =>
      refine if_ff ?_
      walk_at "m"
      exact ⟨hb' rfl, rfl⟩
    | true =>
      refine if_tt ?_
      walk_at "m"
      intro t1 h1
      walk_at "m"
      intro t2 h2
      walk_at "m"
      intro t3 h3
      walk_at "m"
      intro t4 h4
      walk_at "m"
      refine Bin_frzA F' fun B' s g => ?_
      have g4 := g _ (.head _)
      have g3 := g _ (.tail _ (.head _))
      have g2 := g _ (.tail _ (.tail _ (.head _)))
      have g1 := g _ (.tail _ (.tail _ (.tail _ (.head _))))
      dsimp only at g4 g3 g2 g1
      refine Bin_mulTup F' (.inr g4) (List.cons_ne_nil _ _) hr2 (fun _ t5 h5 => ?_) (fun _ => ?_)
      · refine Bin_addTup F' (.inr g2) (.inl (.head _)) (Nat.le_of_ble_eq_true rfl) (fun h => nomatch h) (fun _ _ => ?_) (fun _ h => absurd rfl h)
        exact ⟨_, .none, hQ _ _ _ s (.mk (as := [t1]) g2 (.cons (.act g1) .nil)) (good_act hr)⟩
      · refine Bin_addTup F' (.inr g2) (.inr g4) (Nat.le_of_ble_eq_true rfl) (fun h => nomatch h) (fun _ h => nomatch h) (fun _ _ t5 h5 => ?_)
        refine End_frz (.cons h5 trivial) fun B2 s2 g => ?_
        exact hQ _ _ _ (s.trans s2) (.mk (as := [t1, t3]) (g _ (.head _)) (.cons (.act (s2 _ _ g1)) (.cons (.stop (s2 _ _ g3)) .nil))) (good_actStop hr)
  rintro fl _ h
  cases fl with
  | ret v => exact h
  | next =>
  obtain ⟨hn, rfl⟩ := h
  dsimp only
  walk_at "m"
  obtain ⟨k0, k1⟩ := kinds_pos hn h6
  refine Bin_mod hn k1 ?_
  have hf := fmod_bounds (c.fdiv 6) k0
  generalize (c.fdiv 6).fmod (((ks.map MV.str).length : Nat) : Int) = far at hf ⊢
  obtain ⟨d, rfl⟩ := Int.eq_ofNat_of_zero_le hf.1
  have hd : d < ks.length := by have := hf.2; rw [List.length_map] at this; exact Int.ofNat_lt.mp this
  obtain ⟨i0, kk, i1⟩ := kinds_at hd
  walk_at "m store"
  refine Sts_cons ?_
  refine Stm_Assign rfl ?_
  refine Ex_str ?_
  walk_at "m store"
  refine Sts_cons ?_
  refine Stm_mono (Q := fun fl σ' => fl = .next ∧ ∃ wd, (wd = Str.ofString "leave" ∨ wd = Str.ofString "again") ∧ σ' = ⟨[(Str.ofString "_law_cell", .int c), (Str.ofString "_law_kinds", .ref ka), (Str.ofString "_law_far", .int d), (Str.ofString "_law_word", .str wd)], B, []⟩) ?_ ?_
  · walk_at "m"
    refine SubG_list (.inr hk) i0 i1 ?_
    walk_at "m"
    refine if_dec (fun _ => ?_) (fun _ => ?_)
    · walk_at "m"
      refine if_dec (fun _ => ?_) (fun _ => ?_)
      · walk_at "m"
        exact ⟨rfl, _, .inr rfl, rfl⟩
      · walk_at "m"
        exact ⟨rfl, _, .inl rfl, rfl⟩
    · walk_at "m"
      exact ⟨rfl, _, .inl rfl, rfl⟩
  rintro _ _ ⟨rfl, wd, hwd, rfl⟩
  dsimp only
  walk_at "m"
  intro u1 e1
  walk_at "m"
  intro u2 e2
  walk_at "m"
  intro u3 e3
  refine End_frz (.cons e3 (.cons e2 (.cons e1 trivial))) fun B2 s2 g => ?_
  obtain ⟨y, hy, hg⟩ := out_pair (B := B) hr hd hwd (g _ (.tail _ (.tail _ (.head _)))) (g _ (.tail _ (.head _))) (g _ (.head _))
  exact hQ _ _ _ s2 hy hg
end
section
set_option autoImplicit false
set_option linter.unusedVariables false
set_option linter.unusedSimpArgs false
set_option maxRecDepth 100000
set_option genSizeOf false
set_option genInjectivity false
open PySem
variable {hb : Heap} {w : World} {f : Addr} {n : Nat}
/-! frames of a body that is being built -/
inductive Fk where
  | whole | block | loop | yes | no
def wordF : Fk → Str
  | .whole => Str.ofString "whole"
  | .block => Str.ofString "block"
  | .loop => Str.ofString "loop"
  | .yes => Str.ofString "yes"
  | .no => Str.ofString "no"
def isRing : Fk → Bool
  | .block => true
  | .loop => true
  | _ => false
/-- kind, row, deeds, the other side's deeds -/
abbrev FF := Fk × Int × List Dd × List Dd
/-- the frame's place, the deeds' place, the other's place -/
abbrev FL := List (Addr × Addr × Addr × FF)
def depF : FL → Nat
  | [] => 0
  | e :: r => (if isRing e.2.2.2.1 then 1 else 0) + depF r
def wtF : FL → Nat
  | [] => 0
  | e :: r => wt e.2.2.2.2.2.1 + wt e.2.2.2.2.2.2 + 3 + wtF r
def msF : FL → Nat
  | [] => 0
  | e :: r => (match e.2.2.2.1 with | .yes => 2 | _ => 1) + msF r
def OkF (B : MH) : FL → Prop
  | [] => True
  | (fa, ca, oa, k, row, cur, oth) :: r => okL (depF ((fa, ca, oa, k, row, cur, oth) :: r)) cur ∧ okL (depF ((fa, ca, oa, k, row, cur, oth) :: r)) oth ∧ (r = [] ↔ k = .whole) ∧ (r ≠ [] → row = 2 ∨ row = 3) ∧ BdAt B ca cur ∧ BdAt B oa oth ∧ OkF B r
theorem OkF.mono {B B' : MH} (s : Sub0 B B') : ∀ {E : FL}, OkF B E → OkF B' E
  | [], _ => trivial
  | _ :: _, ⟨h1, h2, h3, h4, h5, h6, h7⟩ => ⟨h1, h2, h3, h4, h5.mono s, h6.mono s, h7.mono s⟩
theorem len_wtF : ∀ E : FL, E.length ≤ wtF E
  | [] => Nat.le_refl _
  | e :: r => by have := len_wtF r; simp only [List.length_cons, wtF]; omega
theorem depF_len : ∀ E : FL, depF E ≤ E.length
  | [] => Nat.le_refl _
  | e :: r => by
    have := depF_len r
    simp only [List.length_cons, depF]
    split <;> omega
def ownF (E : FL) : Own := E.map fun e => (e.1, .list [.str (wordF e.2.2.2.1), .int e.2.2.2.2.1, .ref e.2.1, .ref e.2.2.1])
def refsF (E : FL) : List MV := (E.reverse.map (·.1)).map MV.ref
theorem refsF_cons (e : Addr × Addr × Addr × FF) (E : FL) : refsF (e :: E) = refsF E ++ [.ref e.1] := by simp [refsF]
def pileF (fr : Addr) (E : FL) : Own := (fr, .list (refsF E)) :: ownF E
theorem okL_add {n : Nat} {a y : List Dd} (h : okL n a) (h1 : okA n y) (h2 : ∀ f, ag f y) : okL n (a ++ y) := ⟨okA_append.mpr ⟨h.1, h1⟩, ag_append.mpr ⟨h.2, h2 _⟩⟩
theorem ag_one {d : Dd} (h : isAgain d = false) (f : Bool) : ag f [d] := by
  cases d with
  | again _ => cases h
  | _ => exact trivial
theorem okL_nil {n : Nat} : okL n [] := ⟨by simp only [okA], trivial⟩
theorem okA_one {n : Nat} {d : Dd} (h : okD n d) : okA n [d] := by simp only [okA, and_true]; exact h
theorem OkF.add {B : MH} {fa ca oa ca' : Addr} {k : Fk} {row : Int} {cur oth y : List Dd} {r : FL} (h : OkF B ((fa, ca, oa, k, row, cur, oth) :: r)) (h1 : okA (depF ((fa, ca, oa, k, row, cur, oth) :: r)) y) (h2 : ∀ f, ag f y) (h3 : BdAt B ca' (cur ++ y)) : OkF B ((fa, ca', oa, k, row, cur ++ y, oth) :: r) :=
  ⟨okL_add h.1 h1 h2, h.2.1, h.2.2.1, h.2.2.2.1, h3, h.2.2.2.2.2.1, h.2.2.2.2.2.2⟩
theorem wtF_add {fa ca oa ca' : Addr} {k : Fk} {row : Int} {cur oth y : List Dd} {r : FL} : wtF ((fa, ca', oa, k, row, cur ++ y, oth) :: r) = wtF ((fa, ca, oa, k, row, cur, oth) :: r) + wt y := by
  simp only [wtF, wt_append]; omega
theorem wordF_yes {k : Fk} (h : wordF k = Str.ofString "yes") : k = .yes := by
  cases k with
  | yes => rfl
  | _ => exact absurd h sne
theorem msF_one {k : Fk} (h : k ≠ .yes) : (match k with | .yes => 2 | _ => 1) = 1 := by
  cases k with
  | yes => exact absurd rfl h
  | _ => rfl
theorem End_to {md : List Addr} {Q : MV → MH → Own → Prop} {r : MV} {l : Loc} {B : MH} {own : Own} (B' : MH) (own' : Own) (c : Cv md ⟨l, B, own⟩ ⟨l, B', own'⟩) (h : Q r B' own') : End md Q r ⟨l, B, own⟩ := ⟨_, c, h⟩
/-! tuple + tuple, of frozen ones -/
theorem Bin_frzs {C : Cx} {prog : Program} {sc : Scope} {md : List Addr} {fl : Bool} {l : Loc} {B : MH} {o : Operator} {a b : MV} {Q : MV → St → Prop} (F : Fx C hb prog w sc n md fl) (new rest : Own) (hm : ∀ p ∈ new, p.1 ∉ md)
    (h : ∀ B', Sub0 B B' → (∀ p ∈ new, B' p.1 = some p.2) → Bin C o a b ⟨l, B', rest⟩ Q) : Bin C o a b ⟨l, B, new ++ rest⟩ Q := fun va vb ha hb' => Tr.frzs F new rest hm fun B' s g => h B' s g va vb ha hb'
theorem Bin_addTupF {C : Cx} {prog : Program} {sc : Scope} {md : List Addr} {fl : Bool} {l : Loc} {B : MH} {own : Own} {a b : Addr} {xs ys : List MV} {Q : MV → St → Prop} (F : Fx C hb prog w sc n md fl) (ha : B a = some (.tup xs)) (hb' : B b = some (.tup ys)) (hl : xs.length + ys.length ≤ lim)
    (h : ∀ c B', Sub0 B B' → B' c = some (.tup (xs ++ ys)) → Q (.ref c) ⟨l, B', own⟩) : Bin C .Add (.ref a) (.ref b) ⟨l, B, own⟩ Q := fun va vb hva hvb => by
  refine Tr.post F ?_
  refine Bin_addTup (σ := ⟨l, B, own⟩) F (.inr ha) (.inr hb') hl (fun e => ?_) (fun _ e => ?_) (fun _ _ c hc => ?_) va vb hva hvb
  · subst e; exact ⟨_, .refl _, h b B (Sub0.rfl' _) hb'⟩
  · subst e; exact ⟨_, .refl _, h a B (Sub0.rfl' _) (by rw [List.append_nil]; exact ha)⟩
  · exact ⟨_, .frz hc.md, h c _ (Sub0.set hc.B) setB_self⟩
theorem BdAt.add {B : MH} {a b c : Addr} {as : List Addr} {ds y : List Dd} {ys : List Addr} (h1 : DsAt B as ds) (h2 : DsAt B ys y) (hc : B c = some (.tup (as.map MV.ref ++ ys.map MV.ref))) : BdAt B c (ds ++ y) := .mk (as := as ++ ys) (by rw [List.map_append]; exact hc) (h1.append h2)
def S_law_closed : Spec := fun args B own Q => ∃ (fr : Addr) (e e' : Addr × Addr × Addr × FF) (E : FL), args = [.ref fr] ∧ own = pileF fr (e :: e' :: E) ∧ OkF B (e :: e' :: E) ∧ wtF (e :: e' :: E) ≤ 998 ∧
  ∀ (E' : FL) (B' : MH), Sub0 B B' → OkF B' E' → E' ≠ [] → wtF E' ≤ wtF (e :: e' :: E) → msF E' < msF (e :: e' :: E) → Q .none B' (pileF fr E')
theorem ct_law_closed (F : FnAt hb f i_law_closed) (hlim : hb.NoLimit) (glen : Gl hb "len" (.oth (.builtin "len"))) : Contract P w hb (.ref f) (n + 1) S_law_closed := by
  refine Contract.of F hlim (by rintro args B own Q ⟨_, _, _, _, e, _⟩; subst e; rfl) ?_
  rintro C args B own Q F' ⟨fr, ⟨fa, ca, oa, k, row, cur, oth⟩, ⟨fa', ca', oa', k', row', cur', oth'⟩, E, rfl, rfl, hO, hW, hQ⟩
  generalize hmd : (pileF fr ((fa, ca, oa, k, row, cur, oth) :: (fa', ca', oa', k', row', cur', oth') :: E)).map (·.1) = md at F' ⊢
  rw [show pileF fr ((fa, ca, oa, k, row, cur, oth) :: (fa', ca', oa', k', row', cur', oth') :: E) = (fr, .list (refsF ((fa', ca', oa', k', row', cur', oth') :: E) ++ [.ref fa])) :: (fa, .list [.str (wordF k), .int row, .ref ca, .ref oa]) :: ownF ((fa', ca', oa', k', row', cur', oth') :: E) by rw [pileF, refsF_cons]; rfl]
  show Sts C (bodyAt P i_law_closed) ⟨[(Str.ofString "_law_frames", _)], B, _⟩ _
  obtain ⟨o1, o2, o3, o4, o5, o6, o7⟩ := hO
  have hrow := o4 (List.cons_ne_nil _ _)
  have hkw : k ≠ .whole := fun e => absurd (o3.mpr e) (List.cons_ne_nil _ _)
  have hlen : (refsF ((fa', ca', oa', k', row', cur', oth') :: E)).length + 1 ≤ lim := by
    have := len_wtF ((fa, ca, oa, k, row, cur, oth) :: (fa', ca', oa', k', row', cur', oth') :: E)
    rw [List.length_cons] at this
    have e : (refsF ((fa', ca', oa', k', row', cur', oth') :: E)).length = ((fa', ca', oa', k', row', cur', oth') :: E).length := by simp [refsF]
    rw [e]
    exact Nat.le_trans this (Nat.le_trans hW (by unfold lim; decide))
  refine Sts_cons ?_
  walk_at "m"
  refine Ex_pop F' rfl rfl ?_
  walk_at "m"
  refine ⟨fr, refsF ((fa', ca', oa', k', row', cur', oth') :: E), .ref fa, _, rfl, .head, ?_⟩
  walk_at "m"
  by_cases hy : k = .yes
  · subst hy
    refine if_pos' rfl ?_
    walk_at "m"
    intro t ht
    walk_at "m"
    intro g hg
    refine App2_i (.tail (.tail .head)) hlen ?_
    walk_at "m"
    refine Stm_Return_none ?_
    have s1 : Sub0 B (setB B t (.tup [])) := Sub0.set ht.B
    refine End_to (setB B t (.tup [])) (pileF fr ((g, t, ca, .no, row, [], cur) :: (fa', ca', oa', k', row', cur', oth') :: E)) ?_ (hQ _ _ s1 ⟨okL_nil, o1, ⟨fun h => (nomatch h), fun h => (nomatch h)⟩, fun _ => hrow, .mk (as := []) setB_self .nil, o5.mono s1, o7.mono s1⟩ (List.cons_ne_nil _ _) ?_ ?_)
    · rw [pileF, refsF_cons (g, t, ca, Fk.no, row, [], cur)]
      refine .trans (.perm (List.Perm.swap ..)) (.trans (.frz ht.md) (.trans (.perm (List.Perm.swap ..)) (.own (.cons_cons _ (.cons_cons _ (List.sublist_cons_self ..))))))
    · simp only [wtF, wt]; omega
    · simp only [msF]; omega
  refine if_neg' (fun h => hy (wordF_yes h)) ?_
  walk_at "m"
  intro t1 ht1
  walk_at "m store"
  refine Sts_cons ?_
  refine Stm_mono (Q := fun fl σ' => fl = .next ∧ ∃ (new : Own) (dt : Addr) (d : Dd), σ' = ⟨[(Str.ofString "_law_frames", .ref fr), (Str.ofString "_law_frame", .ref fa), (Str.ofString "_law_deed", .ref dt)], B, new ++ (fr, .list (refsF ((fa', ca', oa', k', row', cur', oth') :: E))) :: (fa, .list [.str (wordF k), .int row, .ref ca, .ref oa]) :: ownF ((fa', ca', oa', k', row', cur', oth') :: E)⟩ ∧ (∀ p ∈ new, p.1 ∉ md) ∧ (∀ B', Sub0 B B' → (∀ p ∈ new, B' p.1 = some p.2) → DdAt B' dt d) ∧ okD (depF ((fa', ca', oa', k', row', cur', oth') :: E)) d ∧ isAgain d = false ∧ wd d ≤ wt cur + wt oth + 3) ?_ ?_
  · cases k with
    | whole => exact absurd rfl hkw
    | yes => exact absurd rfl hy
    | no =>
      walk_at "m"
      refine if_pos' rfl ?_
      walk_at "m"
      intro t2 ht2
      walk_at "m"
      refine ⟨rfl, [(t2, _), (t1, _)], t2, .choose row oth cur, rfl, fun p hp => ?_, fun B' s g => .choose (g _ (.head _)) (o6.mono s) (o5.mono s), ?_, rfl, by simp only [wd]; omega⟩
      · rcases List.mem_cons.mp hp with rfl | hp
        · exact ht2.md
        · rw [List.mem_singleton.mp hp]; exact ht1.md
      · have e : depF ((fa, ca, oa, .no, row, cur, oth) :: (fa', ca', oa', k', row', cur', oth') :: E) = depF ((fa', ca', oa', k', row', cur', oth') :: E) := Nat.zero_add _
        rw [e] at o1 o2
        simp only [okD]
        exact ⟨hrow, o2, o1⟩
    | block =>
      walk_at "m"
      refine if_neg' sne ?_
      walk_at "m"
      refine ⟨rfl, [(t1, _)], t1, .block cur, rfl, fun p hp => by rw [List.mem_singleton.mp hp]; exact ht1.md, fun B' s g => .block (g _ (.head _)) (o5.mono s), ?_, rfl, by simp only [wd]; omega⟩
      have e : depF ((fa, ca, oa, .block, row, cur, oth) :: (fa', ca', oa', k', row', cur', oth') :: E) = depF ((fa', ca', oa', k', row', cur', oth') :: E) + 1 := Nat.add_comm ..
      rw [e] at o1
      simp only [okD]
      exact o1
    | loop =>
      walk_at "m"
      refine if_neg' sne ?_
      walk_at "m"
      refine ⟨rfl, [(t1, _)], t1, .loop cur, rfl, fun p hp => by rw [List.mem_singleton.mp hp]; exact ht1.md, fun B' s g => .loop (g _ (.head _)) (o5.mono s), ?_, rfl, by simp only [wd]; omega⟩
      have e : depF ((fa, ca, oa, .loop, row, cur, oth) :: (fa', ca', oa', k', row', cur', oth') :: E) = depF ((fa', ca', oa', k', row', cur', oth') :: E) + 1 := Nat.add_comm ..
      rw [e] at o1
      simp only [okD]
      exact o1
  rintro _ _ ⟨rfl, new, dt, d, rfl, hnm, hdt, hod, hda, hwd⟩
  have hf : ∀ l new', Has ⟨l, B, new' ++ (new ++ (fr, .list (refsF ((fa', ca', oa', k', row', cur', oth') :: E))) :: (fa, .list [.str (wordF k), .int row, .ref ca, .ref oa]) :: ownF ((fa', ca', oa', k', row', cur', oth') :: E))⟩ fr (.list (refsF E ++ [.ref fa'])) := fun l new' => .inl (by
    rw [← refsF_cons (fa', ca', oa', k', row', cur', oth')]
    exact List.mem_append_right _ (List.mem_append_right _ (.head _)))
  have hf' : ∀ l new', Has ⟨l, B, new' ++ (new ++ (fr, .list (refsF ((fa', ca', oa', k', row', cur', oth') :: E))) :: (fa, .list [.str (wordF k), .int row, .ref ca, .ref oa]) :: ownF ((fa', ca', oa', k', row', cur', oth') :: E))⟩ fa' (.list [.str (wordF k'), .int row', .ref ca', .ref oa']) := fun l new' => .inl (List.mem_append_right _ (List.mem_append_right _ (.tail _ (.tail _ (.head _)))))
  cases hbd : o7.2.2.2.2.1 with
  | mk hca hds =>
  rename_i as'
  dsimp only
  walk_at "m"
  refine Call_len_list (hf _ []) ?_
  walk_at "m"
  refine SubG_lastL (hf _ []) ?_
  walk_at "m"
  refine SubG_list (hf' _ []) (by decide) rfl ?_
  walk_at "m"
  intro t3 ht3
  have hal : (as'.map MV.ref).length + [MV.ref dt].length ≤ lim := by
    rw [List.length_map, hds.length]
    refine lim_ok (n := 998) (Nat.le_trans (len_wt cur') ?_) (by decide)
    simp only [wtF] at hW; omega
  refine Bin_frzs F' ((t3, .tup [.ref dt]) :: new) _ (fun p hp => ?_) fun B1 s1 g1 => ?_
  · rcases List.mem_cons.mp hp with rfl | hp
    · exact ht3.md
    · exact hnm p hp
  refine Bin_addTupF F' (s1 _ _ hca) (g1 _ (.head _)) hal fun c B2 s2 hc => ?_
  have s12 := s1.trans s2
  rw [refsF_cons (fa', ca', oa', k', row', cur', oth')]
  walk_at "m"
  refine SubG_lastL (by walk_at "m has") ?_
  walk_at "m"
  refine SetG_list F' (.tail (.tail .head)) (by decide) (show (2 : Int) < ((4 : Nat) : Int) from by decide) ?_
  walk_at "m"
  have hdd := (hdt B1 s1 fun p hp => g1 p (List.mem_cons_of_mem _ hp)).mono s2
  refine End_to B2 (pileF fr ((fa', c, oa', k', row', cur' ++ [d], oth') :: E)) (by rw [pileF, refsF_cons]; exact .own (.cons_cons _ (List.sublist_cons_self ..))) (hQ _ _ s12 (OkF.add (o7.mono s12) (okA_one hod) (ag_one hda) (.add (a := c) (b := c) (hds.mono s12) (.cons hdd .nil) hc)) (List.cons_ne_nil _ _) ?_ ?_)
  · rw [wtF_add (ca := ca')]
    simp only [wtF, wt] at *
    omega
  · have := msF_one hy
    simp only [msF] at *
    omega
end
section
set_option autoImplicit false
set_option linter.unusedVariables false
set_option linter.unusedSimpArgs false
set_option maxRecDepth 100000
open PySem
variable {hb : Heap} {w : World} {f : Addr} {n : Nat}
def ringE (e : Addr × Addr × Addr × FF) : Bool := isRing e.2.2.2.1
theorem depF_count : ∀ E : FL, depF E = E.countP ringE
  | [] => rfl
  | e :: r => by
    rw [List.countP_cons, ← depF_count r, Nat.add_comm]; rfl
theorem Sub0.un {B B' : MH} {a : Addr} (s : Sub0 B B') (h : B a = .none) : Sub0 B (unB B' a) := fun b o hb' => by
  rw [unB_ne fun e => by subst e; rw [h] at hb'; cases hb']; exact s b o hb'
theorem wordF_in (k : Fk) : (decide (Str.ofString "block" = wordF k) || decide (Str.ofString "loop" = wordF k)) = isRing k := by
  cases k with
  | block => rw [decide_eq_true (p := Str.ofString "block" = wordF .block) rfl]; rfl
  | loop => rw [decide_eq_true (p := Str.ofString "loop" = wordF .loop) rfl, Bool.or_true]; rfl
  | whole => rw [decide_eq_false (p := Str.ofString "block" = wordF .whole) sne, decide_eq_false (p := Str.ofString "loop" = wordF .whole) sne]; rfl
  | yes => rw [decide_eq_false (p := Str.ofString "block" = wordF .yes) sne, decide_eq_false (p := Str.ofString "loop" = wordF .yes) sne]; rfl
  | no => rw [decide_eq_false (p := Str.ofString "block" = wordF .no) sne, decide_eq_false (p := Str.ofString "loop" = wordF .no) sne]; rfl
def S_law_body_by : Spec := fun args B own Q => own = [] ∧ ∃ (za : Addr) (zs : List Int), args = [.ref za] ∧ B za = some (.list (zs.map MV.int)) ∧ zs.length ≤ 100 ∧ ∀ a B' body, Sub0 B B' → BdAt B' a body → okL 0 body → wt body ≤ 998 → Q (.ref a) B' []
theorem new_kind {kd : Int} (h1 : ¬ kd < 4) (h2 : kd < 7) : (0 : Int) ≤ kd - 4 ∧ ∃ k, [MV.str (Str.ofString "block"), .str (Str.ofString "loop"), .str (Str.ofString "yes")][(kd - 4).toNat]? = some (.str (wordF k)) ∧ k ≠ .whole := by
  refine ⟨by omega, ?_⟩
  have : kd - 4 = 0 ∨ kd - 4 = 1 ∨ kd - 4 = 2 := by omega
  rcases this with e | e | e
  · rw [e]; exact ⟨.block, rfl, fun h => nomatch h⟩
  · rw [e]; exact ⟨.loop, rfl, fun h => nomatch h⟩
  · rw [e]; exact ⟨.yes, rfl, fun h => nomatch h⟩
theorem OkF.one {B : MH} {e : Addr × Addr × Addr × FF} (h : OkF B [e]) : okL 0 e.2.2.2.2.2.1 ∧ BdAt B e.2.1 e.2.2.2.2.2.1 ∧ wt e.2.2.2.2.2.1 ≤ wtF [e] := by
  obtain ⟨fa, ca, oa, k, row, cur, oth⟩ := e
  obtain ⟨h1, -, h3, -, h5, -⟩ := h
  obtain rfl := h3.mp rfl
  exact ⟨h1, h5, by simp only [wtF]; omega⟩
theorem ct_law_body_by (F : FnAt hb f i_law_body_by) (hlim : hb.NoLimit) (h1 : FnC P w hb "_law_bare" 1 S_law_side) (h2 : FnC P w hb "_law_side" 1 S_law_side) (h3 : FnO P w hb "_law_closed" 1 S_law_closed) (glen : Gl hb "len" (.oth (.builtin "len"))) : Contract P w hb (.ref f) 2 S_law_body_by := by
  refine Contract.of F hlim (by rintro args B own Q ⟨_, _, _, e, _⟩; subst e; rfl) ?_
  rintro C args B own Q F' ⟨rfl, za, zs, rfl, hz, hzl, hQ⟩
  show Sts C (bodyAt P i_law_body_by) ⟨[(Str.ofString "_law_cells", _)], B, []⟩ _
  refine Sts_cons ?_
  walk_at "m"
  intro t0 h0
  refine Exs_cv F' (.frz h0.md) ?_
  have s0 : Sub0 B (setB B t0 (.tup [])) := Sub0.set h0.B
  have q0 : setB B t0 (.tup []) t0 = some (.tup []) := setB_self
  generalize setB B t0 (.tup []) = B0 at s0 q0 ⊢
  walk_at "m"
  intro t1 ht1
  refine Exs_cv F' (.frz ht1.md) ?_
  have s1 : Sub0 B0 (setB B0 t1 (.tup [])) := Sub0.set ht1.B
  have q1 : setB B0 t1 (.tup []) t1 = some (.tup []) := setB_self
  replace q0 := s1 _ _ q0
  replace s0 := s0.trans s1
  clear s1 ht1 h0
  generalize setB B0 t1 (.tup []) = B1 at s0 q0 q1 ⊢
  walk_at "m"
  intro f0 hf0
  walk_at "m"
  intro fr hfr
  walk_at "m"
  refine Stm_ForC F' (fun _ => rfl) ?_
  walk_at "m"
  refine ⟨_, fun i σ' => ∃ (B' : MH) (E : FL), σ' = ⟨[(Str.ofString "_law_cells", .ref za), (Str.ofString "_law_frames", .ref fr)], B', pileF fr E⟩ ∧ Sub0 B B' ∧ OkF B' E ∧ E ≠ [] ∧ wtF E ≤ 3 + 7 * i, ⟨za, rfl, .inl (s0 _ _ hz)⟩, ⟨_, .refl _, B1, [(f0, t0, t1, .whole, 0, [], [])], rfl, s0, ⟨okL_nil, okL_nil, ⟨fun _ => rfl, fun _ => rfl⟩, fun h => absurd rfl h, .mk (as := []) q0 .nil, .mk (as := []) q1 .nil, trivial⟩, List.cons_ne_nil _ _, by simp only [wtF, wt]; decide⟩, ?_, ?_⟩
  · clear s0 q0 q1
    rintro C1 F1 i σ' m ⟨B1, E, rfl, hs, hO, hne, hw⟩ hm
    rw [List.getElem?_map] at hm
    obtain ⟨c, hc, rfl⟩ := Option.map_eq_some_iff.mp hm
    have hi : i < zs.length := (List.getElem?_eq_some_iff.mp hc).1
    have hw' : wtF E ≤ 990 := by omega
    clear hm hc
    walk_at "m"
    refine Stm_facts fun hfa _ => ?_
    have hfr0 : B1 fr = none := hfa fr (.head _)
    clear hfa
    rw [pileF]
    refine Tr.borrow F1 (fun h => nomatch h) ?_
    have s2 : Sub0 B1 (setB B1 fr (.list (refsF E))) := Sub0.set hfr0
    have q2 : setB B1 fr (.list (refsF E)) fr = some (.list (refsF E)) := setB_self
    generalize setB B1 fr (.list (refsF E)) = B2 at s2 q2 ⊢
    refine gStm ?_
    refine Stm_Comp F1 (by walk_at "m compok") (fun _ => rfl) (swaps_yes F1 rfl rfl (by decide)) ?_
    walk_at "m"
    refine ⟨_, fun j ys B' own' => own' = ownF E ∧ B' = B2 ∧ ∃ ks : List Str, ys = ks.map MV.str ∧ ks.length = (E.reverse.take j).countP ringE, ⟨fr, rfl, .inl q2⟩, ?_, ⟨rfl, rfl, [], rfl, rfl⟩, ?_, ?_⟩
    · rw [refsF, List.length_map, List.length_map, List.length_reverse]
      exact Nat.le_trans (len_wtF E) (Nat.le_trans hw' (by unfold lim; decide))
    · rintro C2 F2 j ys B' own' m ⟨rfl, rfl, ks, rfl, hkl⟩ hm
      rw [refsF, List.getElem?_map, List.getElem?_map] at hm
      obtain ⟨a, ha, rfl⟩ := Option.map_eq_some_iff.mp hm
      obtain ⟨⟨fa, ca, oa, k, row, cur, oth⟩, he, rfl⟩ := Option.map_eq_some_iff.mp ha
      have het : (E.reverse.take (j + 1)).countP ringE = (E.reverse.take j).countP ringE + (if isRing k then 1 else 0) := by
        rw [List.take_add_one, he, List.countP_append]
        show _ + List.countP ringE [(fa, ca, oa, k, row, cur, oth)] = _
        rw [List.countP_singleton]; rfl
      have hmem : (fa, MO.list [.str (wordF k), .int row, .ref ca, .ref oa]) ∈ ownF E := List.mem_map.mpr ⟨_, List.mem_reverse.mp (List.mem_of_getElem? he), rfl⟩
      refine CTs_cons ?_
      walk_at "m cex"
      walk_at "m"
      refine SubG_list (.inl hmem) (by decide) rfl ?_
      walk_at "m"
      intro t ht
      refine Cmp_inS2 (.inl (.head _)) ?_
      refine Trt_bool ?_
      rw [wordF_in]
      cases hk : isRing k with
      | true =>
        refine if_tt ?_
        refine CTs_nil ?_
        refine if_tt ?_
        walk_at "m"
        refine SubG_list (.inl (.tail _ hmem)) (by decide) rfl ?_
        exact ⟨⟨_, _, ownF E⟩, .tl, rfl, rfl, ks ++ [wordF k], by rw [List.map_append]; rfl, by rw [List.length_append, hkl, het, hk]; rfl⟩
      | false =>
        refine if_ff ?_
        refine if_ff ?_
        exact ⟨⟨_, _, ownF E⟩, .tl, rfl, rfl, ks, rfl, by rw [hkl, het, hk]; rfl⟩
    rintro ys B' own' ⟨rfl, rfl, ks, rfl, hkl⟩ C2 F2 ka hka
    have hkd : ks.length = depF E := by
      rw [hkl, depF_count, refsF, List.length_map, List.length_map, List.take_length, List.countP_reverse]
    have hks : ks.length ≤ 998 := by
      rw [hkd]
      exact Nat.le_trans (depF_len E) (Nat.le_trans (len_wtF E) (Nat.le_trans hw' (by decide)))
    refine Store_cv F2 (.frz hka.md) ?_
    have hkf : ka ≠ fr := fun e => by have h0 : B' ka = none := hka.B; rw [e, q2] at h0; cases h0
    have s3 : Sub0 B1 (unB (setB B' ka (.list (ks.map MV.str))) fr) := (s2.trans (Sub0.set hka.B)).un hfr0
    have q3 : unB (setB B' ka (.list (ks.map MV.str))) fr ka = some (.list (ks.map MV.str)) := by rw [unB_ne hkf]; exact setB_self
    have q4 : setB B' ka (.list (ks.map MV.str)) fr = some (.list (refsF E)) := by rw [setB_ne hkf.symm]; exact q2
    walk_at "m store"
    refine ⟨q4, ?_⟩
    generalize unB (setB B' ka (.list (ks.map MV.str))) fr = B3 at s3 q3 ⊢
    clear q4 q2 s2 hkf hka hkl
    replace hO := hO.mono s3
    replace hs := hs.trans s3
    clear s3 hfr0
    obtain ⟨⟨fa, ca, oa, k, row, cur, oth⟩, E, rfl⟩ := List.exists_cons_of_ne_nil hne
    have go : ∀ (E' : FL) (B' : MH) (l r : Loc) (own : Own), Sub0 B B' → OkF B' E' → E' ≠ [] → wtF E' ≤ wtF ((fa, ca, oa, k, row, cur, oth) :: E) + 7 → l = [(Str.ofString "_law_cells", .ref za), (Str.ofString "_law_frames", .ref fr)] ++ r → Cv [] ⟨l, B', own⟩ ⟨l, B', pileF fr E'⟩ →
        Tn [] (fun σ' => ∃ (B' : MH) (E : FL), σ' = ⟨[(Str.ofString "_law_cells", .ref za), (Str.ofString "_law_frames", .ref fr)], B', pileF fr E⟩ ∧ Sub0 B B' ∧ OkF B' E ∧ E ≠ [] ∧ wtF E ≤ 3 + 7 * (i + 1)) ⟨l, B', own⟩ := by
      intro E' B' l r own g1 g2 g3 g4 g5 g6
      exact ⟨_, .trans g6 (.pre r g5), B', E', rfl, g1, g2, g3, by omega⟩
    have add : ∀ (B' : MH) (a : Addr) (y : List Dd) (l r : Loc), Sub0 B3 B' → BdAt B' a y → okA (depF ((fa, ca, oa, k, row, cur, oth) :: E)) y → (∀ f, ag f y) → wt y ≤ 7 → l = [(Str.ofString "_law_cells", .ref za), (Str.ofString "_law_frames", .ref fr)] ++ r →
        ∀ {Q' : MV → St → Prop}, (∀ c B'', (Tn [] (fun σ' => ∃ (B' : MH) (E : FL), σ' = ⟨[(Str.ofString "_law_cells", .ref za), (Str.ofString "_law_frames", .ref fr)], B', pileF fr E⟩ ∧ Sub0 B B' ∧ OkF B' E ∧ E ≠ [] ∧ wtF E ≤ 3 + 7 * (i + 1)) ⟨l, B'', (fr, .list (refsF E ++ [.ref fa])) :: (fa, .list [.str (wordF k), .int row, .ref c, .ref oa]) :: ownF E⟩) → Q' (.ref c) ⟨l, B'', (fr, .list (refsF E ++ [.ref fa])) :: (fa, .list [.str (wordF k), .int row, .ref ca, .ref oa]) :: ownF E⟩) →
        Bin C1 .Add (.ref ca) (.ref a) ⟨l, B', (fr, .list (refsF E ++ [.ref fa])) :: (fa, .list [.str (wordF k), .int row, .ref ca, .ref oa]) :: ownF E⟩ Q' := by
      intro B' a y l r g1 g2 g3 g4 g5 g6 Q' g7
      have hO' := hO.mono g1
      cases hO'.2.2.2.2.1 with
      | mk hca hds =>
      cases g2 with
      | mk hya hyd =>
      refine Bin_addTupF F1 hca hya ?_ fun c B'' s4 hcc => g7 c B'' ?_
      · rw [List.length_map, List.length_map, hds.length, hyd.length]
        have e1 := len_wt cur
        have e2 := len_wt y
        have e3 : wt cur ≤ wtF ((fa, ca, oa, k, row, cur, oth) :: E) := by simp only [wtF]; omega
        unfold lim; omega
      · refine go ((fa, c, oa, k, row, cur ++ y, oth) :: E) B'' l r _ ((hs.trans g1).trans s4) (OkF.add (hO'.mono s4) g3 g4 (.add (a := c) (b := c) (hds.mono s4) (hyd.mono s4) hcc)) (List.cons_ne_nil _ _) ?_ g6 ?_
        · rw [wtF_add (ca := ca)]; omega
        · rw [pileF, refsF_cons]; exact .refl _
    have e0 : (fr, MO.list (refsF ((fa, ca, oa, k, row, cur, oth) :: E))) :: ownF ((fa, ca, oa, k, row, cur, oth) :: E) = (fr, .list (refsF E ++ [.ref fa])) :: (fa, .list [.str (wordF k), .int row, .ref ca, .ref oa]) :: ownF E := by rw [refsF_cons]; rfl
    rw [e0]
    have hkd9 := fmod_bounds c (b := 9) (by decide)
    generalize c.fmod 9 = kd at hkd9 ⊢
    dsimp only
    walk_at "m"
    refine SubG_lastL (by walk_at "m has") ?_
    walk_at "m"
    refine if_dec (fun hk2 => ?_) (fun hk2 => ?_)
    · walk_at "m"
      intro t1 ht1
      walk_at "m"
      intro t2 ht2
      refine Bin_frzs F1 [(t2, _), (t1, _)] _ (fun _ _ h => nomatch h) fun B4 s4 g4 => ?_
      refine add B4 t2 [.act kd] _ [_, _, _, _] s4 (.mk (as := [t1]) (g4 _ (.head _)) (.cons (.act (g4 _ (.tail _ (.head _)))) .nil)) (okA_one (by simp only [okD]; omega)) (fun _ => trivial) (by simp only [wt, wd]; decide) rfl fun c5 B5 h5 => ?_
      walk_at "m"
      refine SetG_list F1 (.tail .head) (by decide) (show (2 : Int) < ((4 : Nat) : Int) from by decide) ?_
      walk_at "m"
      exact h5
    walk_at "m"
    refine if_dec (fun hk4 => ?_) (fun hk4 => ?_)
    · walk_at "m"
      refine if_dec (fun hk5 => ?_) (fun hk5 => ?_)
      · walk_at "m"
        refine ⟨rfl, _, ka, ks, rfl, q3, hks, fun a B4 y s4 hy hg => ?_⟩
        walk_at "m"
        refine add B4 a y _ [_, _, _, _] s4 hy (hkd ▸ hg.a) hg.g (Nat.le_trans hg.w (by decide)) rfl fun c5 B5 h5 => ?_
        walk_at "m"
        refine SetG_list F1 (.tail .head) (by decide) (show (2 : Int) < ((4 : Nat) : Int) from by decide) ?_
        walk_at "m"
        exact h5
      · walk_at "m"
        refine if_pos' hk4 ?_
        walk_at "m"
        refine ⟨rfl, _, ka, ks, rfl, q3, hks, fun a1 B4 y1 s4 hy1 hg1 => ?_⟩
        walk_at "m"
        refine ⟨rfl, _, ka, ks, rfl, s4 _ _ q3, hks, fun a2 B5 y2 s5 hy2 hg2 => ?_⟩
        walk_at "m"
        intro sd hsd
        refine Store_cv F1 (.frz hsd.md) ?_
        have s6 : Sub0 B5 (setB B5 sd (.tup [.ref a1, .ref a2])) := Sub0.set hsd.B
        have q6 : setB B5 sd (.tup [.ref a1, .ref a2]) sd = some (.tup [.ref a1, .ref a2]) := setB_self
        generalize setB B5 sd (.tup [.ref a1, .ref a2]) = B6 at s6 q6 ⊢
        walk_at "m"
        intro t1 ht1
        walk_at "m"
        refine Bin_frzs F1 [(t1, _)] _ (fun _ _ h => nomatch h) fun B7 s7 g7 => ?_
        refine Bin_addTupF F1 (g7 _ (.head _)) (s7 _ _ q6) (Nat.le_of_ble_eq_true rfl) fun t2 B8 s8 g8 => ?_
        walk_at "m"
        intro t3 ht3
        refine Bin_frzs F1 [(t3, _)] _ (fun _ _ h => nomatch h) fun B9 s9 g9 => ?_
        have s79 := s7.trans (s8.trans s9)
        have hyy1 := hy1.mono (s5.trans (s6.trans s79))
        have hyy2 := hy2.mono (s6.trans s79)
        refine add B9 t3 [.choose kd y1 y2] _ [_, _, _, _, _] (s4.trans (s5.trans (s6.trans s79))) (.mk (as := [t2]) (g9 _ (.head _)) (.cons (.choose (s9 _ _ g8) hyy1 hyy2) .nil)) (okA_one ?_) (fun _ => trivial) ?_ rfl fun c5 B10 h5 => ?_
        · simp only [okD]
          rw [← hkd]
          exact ⟨by omega, ⟨hg1.a, hg1.g _⟩, hg2.a, hg2.g _⟩
        · have e1 := hg1.w
          have e2 := hg2.w
          simp only [wt, wd]; omega
        walk_at "m"
        refine SetG_list F1 (.tail .head) (by decide) (show (2 : Int) < ((4 : Nat) : Int) from by decide) ?_
        walk_at "m"
        exact h5
    · walk_at "m"
      refine if_neg' hk4 ?_
      refine Sts_cons ?_
      refine Stm_If ?_
      refine Ts_mono (Q := fun b σ' => (b = true → kd < 7 ∧ (((refsF E ++ [MV.ref fa]).length : Nat) : Int) < 6) ∧ σ' = ⟨[(Str.ofString "_law_cells", .ref za), (Str.ofString "_law_frames", .ref fr), (Str.ofString "_law_cell", .int c), (Str.ofString "_law_kind", .int kd), (Str.ofString "_law_kinds", .ref ka), (Str.ofString "_law_top", .ref fa)], B3, (fr, .list (refsF E ++ [.ref fa])) :: (fa, .list [.str (wordF k), .int row, .ref ca, .ref oa]) :: ownF E⟩) ?_ ?_
      · walk_at "m"
        refine if_dec (fun hk7 => ?_) (fun hk7 => ?_)
        · walk_at "m"
          refine if_dec (fun hl6 => ?_) (fun hl6 => ?_)
          · walk_at "m"
            exact ⟨fun _ => ⟨hk7, hl6⟩, rfl⟩
          · exact ⟨fun h => (nomatch h), rfl⟩
        · exact ⟨fun h => (nomatch h), rfl⟩
      rintro b _ ⟨hbt, rfl⟩
      cases b with
      | true =>
        obtain ⟨hk7, hl6⟩ := hbt rfl
        obtain ⟨k0, k', k1, k2⟩ := new_kind hk4 hk7
        have hrow := mod2 (c.fdiv 9)
        generalize hro : (c.fdiv 9).fmod 2 = ro at hrow
        refine if_tt ?_
        walk_at "m"
        intro wl hwl
        walk_at "m"
        refine SubG_list (.inl (.head _)) k0 k1 ?_
        walk_at "m"
        rw [hro]
        intro t1 ht1
        refine Exs_cv F1 (.frz ht1.md) ?_
        have s4 : Sub0 B3 (setB B3 t1 (.tup [])) := Sub0.set ht1.B
        have q4 : setB B3 t1 (.tup []) t1 = some (.tup []) := setB_self
        generalize setB B3 t1 (.tup []) = B4 at s4 q4 ⊢
        walk_at "m"
        intro t2 ht2
        refine Exs_cv F1 (.frz ht2.md) ?_
        have s5 : Sub0 B4 (setB B4 t2 (.tup [])) := Sub0.set ht2.B
        have q5 : setB B4 t2 (.tup []) t2 = some (.tup []) := setB_self
        generalize setB B4 t2 (.tup []) = B5 at s5 q5 ⊢
        walk_at "m"
        intro g hg
        refine App2_i (.tail (.tail .head)) (lim_ok (n := 5) (by omega) (by decide)) ?_
        walk_at "m"
        have s45 := s4.trans s5
        refine go ((g, t1, t2, k', 2 + ro, [], []) :: (fa, ca, oa, k, row, cur, oth) :: E) B5 _ [_, _, _, _] _ (hs.trans s45) ⟨okL_nil, okL_nil, ⟨fun h => (nomatch h), fun h => absurd h k2⟩, fun _ => by omega, .mk (as := []) (s5 _ _ q4) .nil, .mk (as := []) q5 .nil, hO.mono s45⟩ (List.cons_ne_nil _ _) ?_ rfl ?_
        · simp only [wtF, wt]; omega
        · rw [pileF, refsF_cons, refsF_cons]
          exact .trans (.own (.cons_cons _ (List.sublist_cons_self ..))) (.perm (List.Perm.swap ..))
      | false =>
        refine if_ff ?_
        walk_at "m"
        refine if_dec (fun hl1 => ?_) (fun hl1 => ?_)
        · obtain ⟨e', E', rfl⟩ : ∃ e' E', E = e' :: E' := by
            cases E with
            | nil => exact absurd hl1 (by simp [refsF])
            | cons e' E' => exact ⟨e', E', rfl⟩
          walk_at "m"
          refine ⟨pileF fr ((fa, ca, oa, k, row, cur, oth) :: e' :: E'), [], ?_, fr, _, e', E', rfl, rfl, hO, by omega, fun E'' B4 s4 g1 g2 g3 _ => ?_⟩
          · rw [List.append_nil, pileF, refsF_cons (fa, ca, oa, k, row, cur, oth)]; exact .refl _
          walk_at "m"
          rw [List.append_nil]
          exact go E'' B4 _ [_, _, _, _] _ (hs.trans s4) g1 g2 (by omega) rfl (.refl _)
        · walk_at "m"
          refine go ((fa, ca, oa, k, row, cur, oth) :: E) B3 _ [_, _, _, _] _ hs hO (List.cons_ne_nil _ _) (Nat.le_add_right _ _) rfl ?_
          rw [pileF, refsF_cons]; exact .refl _
  · clear s0 q0 q1
    rintro C1 F1 σ' ⟨B1, E, rfl, hs, hO, hne, hw⟩
    rw [List.length_map] at hw
    refine Sts_nil ?_
    dsimp only
    refine Sts_cons ?_
    refine Stm_WhileC F' (fun k σ' => ∃ (B' : MH) (E : FL), k = msF E ∧ σ' = ⟨[(Str.ofString "_law_cells", .ref za), (Str.ofString "_law_frames", .ref fr)], B', pileF fr E⟩ ∧ Sub0 B B' ∧ OkF B' E ∧ E ≠ [] ∧ wtF E ≤ 3 + 7 * zs.length) ?_ _ ⟨_, .refl _, B1, E, rfl, rfl, hs, hO, hne, hw⟩
    clear hs hO hne hw
    rintro k σ' ⟨B1, E, rfl, rfl, hs, hO, hne, hw⟩
    obtain ⟨e, E, rfl⟩ := List.exists_cons_of_ne_nil hne
    cases E with
    | nil =>
      obtain ⟨k1, k2, k3⟩ := hO.one
      rw [show pileF fr [e] = [(fr, .list [.ref e.1]), (e.1, .list [.str (wordF e.2.2.2.1), .int e.2.2.2.2.1, .ref e.2.1, .ref e.2.2.1])] from rfl]
      walk_at "m"
      refine if_neg' (show ¬ (1 : Int) < ((1 : Nat) : Int) from by decide) ?_
      walk_at "m"
      exact ⟨_, .none, hQ _ _ _ hs k2 k1 (by omega)⟩
    | cons e' E =>
      have hp : ∀ l, Has ⟨l, B1, pileF fr (e :: e' :: E)⟩ fr (.list (refsF (e :: e' :: E))) := fun l => .inl (.head _)
      walk_at "m"
      refine Call_len_list (hp _) ?_
      walk_at "m"
      refine if_pos' (by rw [refsF_cons, refsF_cons, List.length_append, List.length_append]; simp only [List.length_singleton]; omega) ?_
      walk_at "m"
      refine ⟨pileF fr (e :: e' :: E), [], by rw [List.append_nil], fr, e, e', E, rfl, rfl, hO, by omega, fun E'' B4 s4 g1 g2 g3 g4 => ?_⟩
      walk_at "m"
      rw [List.append_nil]
      exact ⟨_, .refl _, _, g4, B4, E'', rfl, rfl, hs.trans s4, g1, g2, Nat.le_trans g3 hw⟩
end
section
set_option autoImplicit false
set_option linter.unusedVariables false
set_option linter.unusedSimpArgs false
set_option maxRecDepth 100000
open PySem
variable {hb : Heap} {w : World} {f : Addr} {n : Nat}
def S_rows_in (k : Nat) : Spec := fun args B own Q => own = [] ∧ ∃ (ba : Addr) (body : List Dd), args = [.ref ba] ∧ BdAt B ba body ∧ wt body < 3 * (k + 1) ∧ wt body ≤ 998 ∧ ∀ a B', Sub0 B B' → B' a = some (.list ((rowsL body).map MV.int)) → Q (.ref a) B' []
theorem wt_mem : ∀ {b : List Dd} {i : Nat} {d : Dd}, b[i]? = some d → wd d ≤ wt b
  | [], i, d, h => by simp at h
  | e :: r, 0, d, h => by simp at h; subst h; simp only [wt]; omega
  | e :: r, i + 1, d, h => by have := wt_mem (b := r) (i := i) (d := d) (by simpa using h); simp only [wt]; omega
theorem rows_take {b : List Dd} {i : Nat} {d : Dd} (h : b[i]? = some d) : rowsL (b.take (i + 1)) = rowsL (b.take i) ++ rowsD d := by
  rw [List.take_add_one, h, rowsL_append]
  show _ ++ rowsL [d] = _
  simp only [rowsL, List.append_nil]
theorem rows_le (b : List Dd) (i : Nat) : (rowsL (b.take i)).length ≤ wt b := by
  have h1 := rows_wt (b.take i)
  have h2 := wt_append (b.take i) (b.drop i)
  rw [List.take_append_drop] at h2
  omega
theorem ct_rows_in1 {k : Nat} (F : FnAt hb f i_law_rows_in) (hlim : hb.NoLimit) (hrec : ∀ j, k = j + 1 → FnC P w hb "_law_rows_in" (j + 1) (S_rows_in j)) : Contract P w hb (.ref f) (k + 1) (S_rows_in k) := by
  refine Contract.of F hlim (by rintro args B own Q ⟨_, _, _, e, _⟩; subst e; rfl) ?_
  rintro C args B own Q F' ⟨rfl, ba, body, rfl, hbd, hk, hW, hQ⟩
  show Sts C (bodyAt P i_law_rows_in) ⟨[(Str.ofString "_law_body", _)], B, []⟩ _
  refine Sts_cons ?_
  cases hbd with
  | mk hB hds =>
  rename_i as
  walk_at "m"
  intro fd hfd
  walk_at "m"
  refine Stm_ForC F' (fun _ => rfl) ?_
  walk_at "m"
  refine ⟨_, fun i σ' => ∃ (fd : Addr) (B' : MH), σ' = ⟨[(Str.ofString "_law_body", .ref ba), (Str.ofString "_law_found", .ref fd)], B', [(fd, .list ((rowsL (body.take i)).map MV.int))]⟩ ∧ Sub0 B B', ⟨ba, rfl, .inr (.inl (.inl hB))⟩, ⟨_, .refl _, fd, B, rfl, Sub0.rfl' _⟩, ?_, ?_⟩
  · rintro C1 F1 i σ' m ⟨fd, B', rfl, hs⟩ hm
    rw [List.getElem?_map] at hm
    obtain ⟨a, ha, rfl⟩ := Option.map_eq_some_iff.mp hm
    have hi : i < body.length := by rw [← hds.length]; exact (List.getElem?_eq_some_iff.mp ha).1
    obtain ⟨d, hd⟩ : ∃ d, body[i]? = some d := ⟨_, List.getElem?_eq_getElem hi⟩
    obtain ⟨a', ha', hda⟩ := (hds.mono hs).get hd
    rw [ha] at ha'
    cases ha'
    have hwd := wt_mem hd
    have hrt := rows_take hd
    have hrl := rows_le body i
    have hl1 : ((rowsL (body.take i)).map MV.int).length + 1 ≤ lim := by rw [List.length_map]; exact lim_ok (n := 998) (Nat.le_trans hrl hW) (by decide)
    have sub : ∀ b : List Dd, wt b + 3 ≤ wd d → ∃ j, k = j + 1 ∧ wt b < 3 * (j + 1) ∧ wt b ≤ 998 := fun b hb' => by
      cases k with
      | zero => omega
      | succ j => exact ⟨j, rfl, by omega, by omega⟩
    have go : ∀ (fd' : Addr) (B'' : MH) (l r : Loc) (own : Own) (xs : List Int), Sub0 B B'' → l = [(Str.ofString "_law_body", .ref ba), (Str.ofString "_law_found", .ref fd')] ++ r → rowsL (body.take (i + 1)) = xs → [(fd', MO.list (xs.map MV.int))].Sublist own →
        Tn [] (fun σ' => ∃ (fd : Addr) (B' : MH), σ' = ⟨[(Str.ofString "_law_body", .ref ba), (Str.ofString "_law_found", .ref fd)], B', [(fd, .list ((rowsL (body.take (i + 1))).map MV.int))]⟩ ∧ Sub0 B B') ⟨l, B'', own⟩ := by
      rintro fd' B'' l r own xs g1 g2 rfl g4
      exact ⟨_, .trans (.own g4) (.pre r g2), fd', B'', rfl, g1⟩
    rcases hda.kind with ⟨x, hw, rfl⟩ | ⟨x, ya, na, y, no, hw, rfl, hy, hno⟩ | ⟨s, ba', b, hw, hsb, hr, hb'⟩ | ⟨s, r, hw, hn, hr⟩
    · simp only [rowsD] at hrt
      walk_at "m"
      intro t ht
      refine Cmp_inS2 (.inl (.head _)) (Trt_bool (if_bt in1 ?_))
      walk_at "m"
      refine if_neg' sne ?_
      walk_at "m"
      intro t2 ht2
      refine Cmp_inS2 (.inl (.head _)) (Trt_bool (if_bf inF ?_))
      walk_at "m"
      exact go fd B' _ [_] _ _ hs rfl hrt (by rw [List.map_append]; exact .cons _ (.cons _ (.refl _)))
    · simp only [rowsD] at hrt
      simp only [wd] at sub
      obtain ⟨j, rfl, hj1, hj2⟩ := sub y (by omega)
      obtain ⟨j', ej, hj3, hj4⟩ := sub no (by omega)
      cases ej
      have hf := hrec j rfl
      have hyl := rows_wt y
      have hnl := rows_wt no
      walk_at "m"
      intro t ht
      refine Cmp_inS2 (.inl (.head _)) (Trt_bool (if_bt in2 ?_))
      walk_at "m"
      refine if_pos' rfl ?_
      walk_at "m"
      refine ⟨rfl, ya, y, rfl, hy, hj1, hj2, fun a1 B1 s1 q1 => ?_⟩
      walk_at "m"
      refine Bin_addList F1 (.inl (.tail _ (.head _))) (.inr q1) ?_ fun f1 hf1 => ?_
      · rw [List.length_append, List.length_map, List.length_map]
        exact lim3 (Nat.le_trans hrl hW) (Nat.le_of_ble_eq_true rfl) (Nat.le_trans hyl hj2)
      have hw1 := s1 _ _ hw
      walk_at "m"
      refine ⟨rfl, na, no, rfl, hno.mono s1, hj3, hj4, fun a2 B2 s2 q2 => ?_⟩
      walk_at "m"
      refine Bin_addList F1 (.inl (.head _)) (.inr q2) ?_ fun f2 hf2 => ?_
      · rw [List.length_append, List.length_append, List.length_map, List.length_map, List.length_map]
        have := lim3 (Nat.le_trans hrl hW) (Nat.le_trans hyl hj2) (Nat.le_trans hnl hj4)
        simp only [List.length_singleton]
        unfold lim at *
        omega
      have hw2 := s2 _ _ hw1
      walk_at "m"
      intro t2 ht2
      refine Cmp_inS2 (.inl (.head _)) (Trt_bool (if_bf inF ?_))
      walk_at "m"
      refine go f2 B2 _ [_] _ _ (hs.trans (s1.trans s2)) rfl hrt ?_
      rw [List.map_append, List.map_cons, List.map_append]
      simp only [List.append_assoc, List.singleton_append]
      exact .cons _ (.cons_cons _ (List.nil_sublist _))
    · rw [hr.1] at hrt
      obtain ⟨j, rfl, hj1, hj2⟩ := sub b (by rw [hr.2]; omega)
      have hf := hrec j rfl
      have hyl := rows_wt b
      rcases hsb with rfl | rfl
      all_goals
        walk_at "m"
        intro t ht
        refine Cmp_inS2 (.inl (.head _)) (Trt_bool (if_bf inF ?_))
        walk_at "m"
        refine if_neg' sne ?_
        walk_at "m"
        intro t2 ht2
        refine Cmp_inS2 (.inl (.head _)) (Trt_bool ?_)
        first
          | refine if_bt in1 ?_
          | refine if_bt in2 ?_
        walk_at "m"
        refine ⟨rfl, ba', b, rfl, hb', hj1, hj2, fun a1 B1 s1 q1 => ?_⟩
        walk_at "m"
        refine Bin_addList F1 (.inl (.tail _ (.tail _ (.head _)))) (.inr q1) ?_ fun f1 hf1 => ?_
        · rw [List.length_map, List.length_map]
          exact Nat.le_trans (Nat.le_add_right _ 0) (lim3 (Nat.le_trans hrl hW) (Nat.le_trans hyl hj2) (Nat.zero_le _))
        walk_at "m"
        refine go f1 B1 _ [_] _ _ (hs.trans s1) rfl hrt ?_
        rw [List.map_append]
        exact .cons_cons _ (List.nil_sublist _)
    · rw [hr] at hrt
      walk_at "m"
      intro t ht
      refine Cmp_inS2 (.inl (.head _)) (Trt_bool (if_bf (inN hn.1 hn.2.1) ?_))
      walk_at "m"
      refine if_neg' hn.2.1 ?_
      walk_at "m"
      intro t2 ht2
      refine Cmp_inS2 (.inl (.head _)) (Trt_bool (if_bf (inN hn.2.2.1 hn.2.2.2) ?_))
      walk_at "m"
      exact go fd B' _ [_] _ _ hs rfl hrt (by rw [List.append_nil]; exact .cons _ (.cons _ (.refl _)))
  · rintro C1 F1 σ' ⟨fd, B', rfl, hs⟩
    refine Sts_facts fun hfa _ => ?_
    have hfd : B' fd = none := hfa fd (.head _)
    walk_at "m"
    refine ⟨_, .frz (fun h => nomatch h), hQ fd _ (hs.trans (Sub0.set hfd)) ?_⟩
    rw [List.length_map, hds.length, List.take_length]
    exact setB_self
theorem ct_rows_in (F : FnAt hb f i_law_rows_in) (hlim : hb.NoLimit) (hc : ∀ n S, Contract P w hb (.ref f) n S → FnC P w hb "_law_rows_in" n S) : ∀ k : Nat, Contract P w hb (.ref f) (k + 1) (S_rows_in k)
  | 0 => ct_rows_in1 F hlim fun j h => by cases h
  | k + 1 => ct_rows_in1 F hlim fun j h => by cases h; exact hc _ _ (ct_rows_in F hlim hc k)
end
section
set_option autoImplicit false
set_option linter.unusedVariables false
set_option linter.unusedSimpArgs false
set_option maxRecDepth 100000
open PySem
variable {hb : Heap} {w : World} {f : Addr} {n : Nat}
theorem slice_len (n : Nat) : (sliceRange (sliceBounds (some 8) (some 30) none n).1 (sliceBounds (some 8) (some 30) none n).2.1 (sliceBounds (some 8) (some 30) none n).2.2).length ≤ 100 := by
  simp only [sliceRange, sliceBounds, List.length_map, List.length_range, Option.getD_none]
  simp only [show (1 : Int) > 0 from by decide, if_true, show ¬ (8 : Int) < 0 from by decide, show ¬ (30 : Int) < 0 from by decide, if_false, Int.ediv_one]
  split <;> omega
def rows4 (p q z : Int) : List Rw := [⟨true, p, z, 1⟩, ⟨true, q, -1, 2⟩, ⟨false, p, 3, 4⟩, ⟨false, q, 0, 4⟩]
theorem fits4 {p q z : Int} (h1 : 0 ≤ p ∧ p < 4) (h2 : 0 ≤ q ∧ q < 4) : Fits (rows4 p q z) where
  len := rfl
  ok := ⟨Nat.le_of_ble_eq_true rfl, Nat.le_of_ble_eq_true rfl, fun r hr => by
    simp only [rows4, List.mem_cons, List.not_mem_nil, or_false] at hr
    rcases hr with rfl | rfl | rfl | rfl
    · exact ⟨h1.1, h1.2, by show (0 : Int) ≤ 1; decide, by show (1 : Int) ≤ 4; decide, fun h => nomatch h⟩
    · exact ⟨h2.1, h2.2, by show (0 : Int) ≤ 2; decide, by show (2 : Int) ≤ 4; decide, fun h => nomatch h⟩
    · exact ⟨h1.1, h1.2, by show (0 : Int) ≤ 4; decide, by show (4 : Int) ≤ 4; decide, fun _ => ⟨by show (0 : Int) ≤ 3; decide, by show (3 : Int) ≤ 4; decide⟩⟩
    · exact ⟨h2.1, h2.2, by show (0 : Int) ≤ 4; decide, by show (4 : Int) ≤ 4; decide, fun _ => ⟨by show (0 : Int) ≤ 0; decide, by show (0 : Int) ≤ 4; decide⟩⟩⟩
  add := fun x h => by rcases h with rfl | rfl <;> rfl
  more := fun x h => by rcases h with rfl | rfl <;> rfl
theorem tups4 {B : MH} {a b c d : Addr} {p q z : Int} (h1 : B a = some (.tup [.str (Str.ofString "add"), .int p, .int z, .int 1])) (h2 : B b = some (.tup [.str (Str.ofString "add"), .int q, .int (-1), .int 2])) (h3 : B c = some (.tup [.str (Str.ofString "more"), .int p, .int 3, .int 4])) (h4 : B d = some (.tup [.str (Str.ofString "more"), .int q, .int 0, .int 4])) : TupsAt B [a, b, c, d] (rows4 p q z) := by
  refine ⟨rfl, fun i c' r g1 g2 => ?_⟩
  match i with
  | 0 => cases g1; cases g2; exact h1
  | 1 => cases g1; cases g2; exact h2
  | 2 => cases g1; cases g2; exact h3
  | 3 => cases g1; cases g2; exact h4
  | i + 4 => cases g1
def S_law : Spec := fun args B own Q => own = [] ∧ ∃ (a : Addr) (ns : List Int), args = [.ref a] ∧ B a = some (.ro (ns.map MV.int)) ∧ (∀ z ∈ ns, Bits z) ∧ ∀ B' own', Q (.bool true) B' own'
theorem ct_law (F : FnAt hb f i_law) (hlim : hb.NoLimit) (h1 : FnC P w hb "_law_cell_at" 1 S_cell) (h2 : FnC P w hb "_law_number_by" 1 S_number) (h3 : FnC P w hb "_law_body_by" 2 S_law_body_by) (h4 : FnC P w hb "walk" 5 S_walk) (h5 : FnC P w hb "_law_walk" 3 S_law_walk) (h6 : FnO P w hb "_law_ended" 2 S_law_ended) (h7 : FnC P w hb "told" 1 S_told) (h8 : FnC P w hb "_law_rows_in" 333 (S_rows_in 332)) (h9 : FnO P w hb "_law_ints" 1 S_law_ints) (gr : Gl hb "range" (.oth (.type "range"))) (gli : Gl hb "list" (.oth (.type "list"))) : Contract P w hb (.ref f) 334 S_law := by
  refine Contract.of F hlim (by rintro args B own Q ⟨_, _, _, e, _⟩; subst e; rfl) ?_
  rintro C args B own Q F' ⟨rfl, a, ns, rfl, hB, hbits, hQ⟩
  show Sts C (bodyAt P i_law) ⟨[(Str.ofString "_law_script", _)], B, _⟩ _
  refine Sts_cons ?_
  refine Stm_Comp F' (by walk_at "m compok") (fun _ => rfl) (swaps_yes F' rfl rfl (by decide)) ?_
  walk_at "m"
  refine Call_range (by decide) (by unfold lim; decide) fun ra => ?_
  refine ⟨_, fun i ys B' own' => own' = [(ra, .range 4)] ∧ B' = B ∧ ∃ bs : List Int, ys = bs.map MV.int ∧ bs.length = i, ⟨ra, rfl, .inr (.inr ⟨4, .inl (.head _), rfl⟩)⟩, by rw [List.length_map, List.length_range]; unfold lim; decide, ⟨rfl, rfl, [], rfl, rfl⟩, ?_, ?_⟩
  · rintro C' F1 i ys B' own' m ⟨rfl, rfl, bs, rfl, hi⟩ hm
    obtain ⟨hib, rfl⟩ := range_item hm
    refine CTs_nil ?_
    dsimp only
    refine if_tt ?_
    walk_at "m cex"
    walk_at "m"
    refine ⟨rfl, _, _, _, rfl, hB, by omega, ?_⟩
    walk_at "m"
    refine ⟨rfl, _, rfl, bits_cell hbits _, fun z => ?_⟩
    exact ⟨_, .refl _, rfl, rfl, bs ++ [z], by rw [List.map_append]; rfl, by rw [List.length_append, hi]; rfl⟩
  rintro ys B' own' ⟨rfl, rfl, bs, rfl, hb4⟩ C1 F1 ba hba
  rw [List.length_map, List.length_range] at hb4
  refine Store_frzA F1 fun B1 s1 g1 => ?_
  have qb := g1 _ (.head _)
  dsimp only at qb
  replace hB := s1 _ _ hB
  clear g1 s1 hba
  walk_at "m"
  refine ⟨rfl, _, _, _, rfl, hB, by decide, ?_⟩
  walk_at "m"
  refine ⟨rfl, _, _, _, rfl, hB, by decide, ?_⟩
  walk_at "m"
  intro pl hpl
  have hp0 := fmod_bounds ((cellZ ns 1).fdiv 4) (b := 4) (by decide)
  have hp1 := fmod_bounds (cellZ ns 1) (b := 4) (by decide)
  refine Store_frzA F' fun B2 s2 g2 => ?_
  have qp := g2 _ (.head _)
  dsimp only at qp
  generalize ((cellZ ns 1).fdiv 4).fmod 4 = p0 at hp0 qp
  generalize (cellZ ns 1).fmod 4 = p1 at hp1 qp
  replace hB := s2 _ _ hB
  replace qb := s2 _ _ qb
  clear g2 s2 hpl
  walk_at "m"
  refine ⟨rfl, _, _, _, rfl, hB, by decide, ?_⟩
  walk_at "m"
  refine ⟨rfl, _, rfl, bits_cell hbits _, fun z => ?_⟩
  walk_at "m"
  intro r0 hr0
  walk_at "m"
  intro r1 hr1
  walk_at "m"
  intro la hla
  refine Store_frzA F' fun B3 s3 g3 => ?_
  have qla := g3 _ (.head _)
  have q1 := g3 _ (.tail _ (.head _))
  have q0 := g3 _ (.tail _ (.tail _ (.head _)))
  dsimp only at qla q1 q0
  replace hB := s3 _ _ hB
  replace qb := s3 _ _ qb
  replace qp := s3 _ _ qp
  clear g3 s3 hla hr0 hr1
  walk_at "m"
  intro r2 hr2
  walk_at "m"
  intro r3 hr3
  walk_at "m"
  intro lb hlb
  refine Bin_addList F' (.inr qla) (.inl (.head _)) (Nat.le_of_ble_eq_true rfl) fun rw' hrw => ?_
  refine Store_frzA F' fun B4 s4 g4 => ?_
  have qr := g4 _ (.head _)
  have q3 := g4 _ (.tail _ (.tail _ (.head _)))
  have q2 := g4 _ (.tail _ (.tail _ (.tail _ (.head _))))
  dsimp only [List.cons_append, List.nil_append] at qr q3 q2
  replace hB := s4 _ _ hB
  replace qb := s4 _ _ qb
  have ht := tups4 (s4 _ _ q0) (s4 _ _ q1) q2 q3
  clear g4 s4 hlb hr2 hr3 hrw qla q0 q1 q2 q3 qp
  have hF := fits4 (z := z) hp0 hp1
  generalize rows4 p0 p1 z = rs at ht hF
  rw [show [MV.ref r0, .ref r1, .ref r2, .ref r3] = [r0, r1, r2, r3].map MV.ref from rfl] at qr
  generalize [r0, r1, r2, r3] = as at ht qr
  walk_at "m"
  refine Ex_slice F' (fun _ _ => rfl) ?_
  walk_at "m"
  refine ⟨a, ns, 8, 30, rfl, rfl, rfl, .inr hB, slice_len _, fun zs za _ hz1 hza => ?_⟩
  refine Exs_cv F' (.frz hza.md) ?_
  have s5 := Sub0.set (o := .list (zs.map MV.int)) hza.B
  have qz := setB_self (B := B4) (a := za) (o := .list (zs.map MV.int))
  generalize setB B4 za (.list (zs.map MV.int)) = B5 at s5 qz ⊢
  walk_at "m"
  refine ⟨rfl, za, zs, rfl, qz, hz1, fun bo B6 body s6 hbo hok hwt => ?_⟩
  have s56 := s5.trans s6
  replace hB := s56 _ _ hB
  replace qb := s56 _ _ qb
  replace qr := s56 _ _ qr
  replace ht := ht.mono s56
  clear s5 s6 s56 qz hza
  walk_at "m"
  refine ⟨rfl, _, _, _, rfl, hB, by decide, ?_⟩
  walk_at "m"
  have hm := fmod_bounds (cellZ ns 7) (b := 61) (by decide)
  generalize (cellZ ns 7).fmod 61 = most at hm ⊢
  obtain ⟨most, rfl⟩ := Int.eq_ofNat_of_zero_le hm.1
  have hm' : most ≤ 998 := by omega
  clear hB hm
  intro l1 hl1
  walk_at "m"
  intro l2 hl2
  walk_at "m"
  intro h hh
  refine Store_frzA F' fun B7 s7 g7 => ?_
  have k3 := g7 _ (.head _)
  have k2 := g7 _ (.tail _ (.head _))
  have k1 := g7 _ (.tail _ (.tail _ (.head _)))
  dsimp only at k1 k2 k3
  replace qb := s7 _ _ qb
  replace qr := s7 _ _ qr
  replace ht := ht.mono s7
  replace hbo := hbo.mono s7
  clear s7 g7 hl1 hl2 hh
  walk_at "m"
  refine ⟨rfl, l1, bo, l2, rs, bs, most, body, rfl, ⟨as, k1, ht⟩, hF, k2, hb4, hbo, hok, hwt, fun t x2 s o ht0 hx0 hne hs4 hrun => ?_⟩
  have s8 := Sub0.set (o := .tup [.ref x2, .int s.tr.length, .bool o]) ht0
  have k4 := setB_self (B := B7) (a := t) (o := .tup [.ref x2, .int s.tr.length, .bool o])
  generalize setB B7 t (.tup [.ref x2, .int s.tr.length, .bool o]) = B8 at s8 k4 ⊢
  walk_at "m"
  refine ⟨rfl, rw', bo, ba, rs, bs, most, body, rfl, ⟨as, s8 _ _ qr, ht.mono s8⟩, hF, s8 _ _ qb, hb4, hbo.mono s8, hok, hwt, hm', fun d y tr B9 s' o' s9 k5 k6 _ hrun' => ?_⟩
  obtain ⟨e1, e2⟩ := hrun.det hrun'
  subst e1 e2
  have s89 := s8.trans s9
  replace qb := s89 _ _ qb
  replace qr := s89 _ _ qr
  replace k1 := s89 _ _ k1
  replace k2 := s89 _ _ k2
  replace k3 := s89 _ _ k3
  replace k4 := s9 _ _ k4
  replace hbo := hbo.mono s89
  clear s8 s9 s89 hrun hrun' ht hF ht0 hx0 hne
  walk_at "m"
  refine ⟨[(x2, .list (s.bs.map MV.int))], [], .refl _, t, d, x2, y, tr, _, _, s.bs, rfl, rfl, k4, k5, k6, by rw [hs4]; decide, ?_⟩
  have h5 : (s.bs.map MV.int).length + 1 ≤ lim := by rw [List.length_map, hs4]; exact Nat.le_of_ble_eq_true rfl
  walk_at "m"
  refine Cmp_neSame F'.ok (.inr k1) (.inr qr) (mv_refs _) ?_
  walk_at "m"
  refine Cmp_neSame F'.ok (.inr k2) (.inr qb) (mv_ints _) ?_
  walk_at "m"
  refine ⟨rfl, bo, body, rfl, hbo, hwt, fun a1 ha1 => ?_⟩
  have s10 := Sub0.set (o := .list ((rowsL body).map MV.int)) ha1
  have k7 := setB_self (B := B9) (a := a1) (o := .list ((rowsL body).map MV.int))
  generalize setB B9 a1 (.list ((rowsL body).map MV.int)) = B10 at s10 k7 ⊢
  walk_at "m"
  refine ⟨rfl, bo, body, rfl, hbo.mono s10, by omega, hwt, fun a2 B11 s11 k8 => ?_⟩
  walk_at "m"
  refine ⟨[], _, .refl _, a1, a2, rowsL body, rfl, .inr (s11 _ _ k7), .inr k8, Nat.le_trans (rows_wt body) (Nat.le_trans hwt (by decide)), ?_⟩
  walk_at "m"
  exact ⟨_, .refl _, hQ _ _⟩
end
set_option autoImplicit false
set_option linter.unusedVariables false
open PySem PySem.W PyProof.Rows

theorem glT_of {hb : Heap} {mg : Str → Option Value} (G : hb.Ns mainGlobals mg) {x : Str} {v : Value} {m : MV} (e : mg x = some v) (hm : VR m v) (hd : (x == ("__debug__" : Str)) = false) : Gl hb x m :=
  ⟨v, hm, hd, fun M A E s env Q hg _ hk hq => Calls.loadGlobal_global (by rw [hg]; exact G.keeps hk) e hq⟩
theorem glT_bi {q : Program} {loose : List Str} {mean : ExcName → Option Value} {hb : Heap} {mg mb : Str → Option Value} (T : Top q loose mean mg mb hb) {x : Str} {v : Value} {m : MV}
    (h0 : (startupNames ++ loose ++ (recsOf q).map (·.name) ++ (litsOf q).map (·.1) ++ (clssOf q loose).map (·.name)).contains x = false) (hn : x ≠ "__name__") (hv : bootBuiltins x = some v) (hm : VR m v) (hd : (x == ("__debug__" : Str)) = false) : Gl hb x m := by
  have key : x ∉ startupNames ++ loose ++ (recsOf q).map (·.name) ++ (litsOf q).map (·.1) ++ (clssOf q loose).map (·.name) := fun h => by rw [List.contains_iff_mem.mpr h] at h0; cases h0
  simp only [List.mem_append, not_or] at key
  obtain ⟨⟨⟨⟨k1, k2⟩, k3⟩, k4⟩, k5⟩ := key
  exact ⟨v, hm, hd, fun M A E s env Q hg hb' hk hq => Calls.loadGlobal_builtin (by rw [hg]; exact T.g.keeps hk) (T.free x k1 k2 k3 k4 k5) (by rw [hb']; exact T.b.keeps hk) ((T.builtins x hn).trans hv) hq⟩
theorem glT_int {q : Program} {loose : List Str} {mean : ExcName → Option Value} {hb : Heap} {mg mb : Str → Option Value} (T : Top q loose mean mg mb hb) {x : Str} {k : Int} (h : valOf q x = some (.int k)) (hd : (x == ("__debug__" : Str)) = false) : Gl hb x (.int k) := by
  obtain ⟨v, h1, h2⟩ := T.const x _ h
  cases h2 hb with
  | int t => exact glT_of T.g h1 ⟨_, rfl⟩ hd
def recAt (p : Program) (i : Nat) : DefRec := match p.main.body[i]? with | some (.FunctionDef n a b _ _ _ s _ _ pos) => ⟨n, a, b, s, pos⟩ | _ => ⟨default, default, [], default, default⟩
theorem recAt_body (p : Program) (i : Nat) : (recAt p i).body = bodyAt p i := by
  unfold recAt bodyAt
  cases p.main.body[i]? with
  | none => rfl
  | some st => cases st <;> rfl
theorem recAt_scope (p : Program) (i : Nat) : (recAt p i).scope = scopeAt p i := by
  unfold recAt scopeAt
  cases p.main.body[i]? with
  | none => rfl
  | some st => cases st <;> rfl
def scopeChk (sc : Scope) (ps : List Str) : Bool :=
  !sc.isCoroutine && !sc.isGenerator && decide (sc.kind = .function) && ps.all (fun x => decide (sc.names.lookup x = some .local) || decide (sc.names.lookup x = some .cell)) && decide ps.Nodup && decide (sc.names.map (·.1)).Nodup && sc.names.all (fun p => !decide (p.2 = .free))
theorem lookup_mem' {x : Str} {k : NameKind} : ∀ {l : List (Str × NameKind)}, l.lookup x = some k → (x, k) ∈ l
  | (y, j) :: r, h => by
    rw [List.lookup_cons] at h
    by_cases e : (x == y) = true
    · rw [e] at h; simp at h; subst h; have := eq_of_beq e; subst this; exact List.mem_cons_self
    · have e' : (x == y) = false := by simpa using e
      rw [e'] at h; exact List.mem_cons_of_mem _ (lookup_mem' h)
theorem len1 {α : Type} {P : List α → Prop} (h : ∀ a, P [a]) : ∀ l : List α, l.length = 1 → P l
  | [a], _ => h a
theorem len2 {α : Type} {P : List α → Prop} (h : ∀ a b, P [a, b]) : ∀ l : List α, l.length = 2 → P l
  | [a, b], _ => h a b
theorem len3 {α : Type} {P : List α → Prop} (h : ∀ a b c, P [a, b, c]) : ∀ l : List α, l.length = 3 → P l
  | [a, b, c], _ => h a b c
theorem len4 {α : Type} {P : List α → Prop} (h : ∀ a b c d, P [a, b, c, d]) : ∀ l : List α, l.length = 4 → P l
  | [a, b, c, d], _ => h a b c d
structure FnG (hb : Heap) (x : Str) (p : Program) (i : Nat) (f : Addr) : Prop where
  g : Gl hb x (.ref f)
  fn : IsFn hb f
  a : FnIs hb f (paramsAt p i) (bodyAt p i) (scopeAt p i)
theorem FnG.c {hb : Heap} {x : Str} {p : Program} {i : Nat} {f : Addr} (h : FnG hb x p i f) {w : World} {n : Nat} {S : Spec} (c : Contract p w hb (.ref f) n S) : FnC p w hb x n S := ⟨⟨f, h.g, h.fn, c⟩⟩
theorem FnG.o {hb : Heap} {x : Str} {p : Program} {i : Nat} {f : Addr} (h : FnG hb x p i f) {w : World} {n : Nat} {S : Spec} (c : Contract p w hb (.ref f) n S) : FnO p w hb x n S := ⟨h.c c⟩
theorem fnT_of {p q : Program} {loose : List Str} {mean : ExcName → Option Value} {hb : Heap} {mg mb : Str → Option Value} (T : Top q loose mean mg mb hb) {i : Nat} {x : Str} {idx : List Nat} (hr : recsOf q = idx.map (recAt p)) (hi : idx.contains i = true) (hx : (recAt p i).name = x) (hd : (x == ("__debug__" : Str)) = false)
    (hc : scopeChk (scopeAt p i) (paramsAt p i) = true)
    (hb' : ∀ (pm code doc : Value) (vals : List Value), vals.length = (paramsAt p i).length → bindArgs (Calls.docDef (recAt p i).name (recAt p i).params (recAt p i).body (recAt p i).scope pm code doc) ⟨vals, []⟩ = pure ((paramsAt p i).zip vals)) : ∃ f, mg x = some (.ref f) ∧ FnG hb x p i f := by
  obtain ⟨f, o, pm, code, doc, h1, h2, h3, h4⟩ := T.fn (recAt p i) (by rw [hr]; exact List.mem_map_of_mem (List.contains_iff_mem.mp hi))
  rw [hx] at h1
  unfold scopeChk at hc
  simp only [Bool.and_eq_true, Bool.not_eq_true', decide_eq_true_eq, List.all_eq_true, Bool.or_eq_true, decide_eq_false_iff_not] at hc
  obtain ⟨⟨⟨⟨⟨⟨c1, c2⟩, c3⟩, c4⟩, c5⟩, c6⟩, c7⟩ := hc
  refine ⟨f, h1, glT_of T.g h1 rfl hd, ⟨⟨_, _, h2, h3⟩⟩, ⟨_, _, h2, h3, ?_, recAt_scope p i, rfl, rfl, rfl, h4, hb' pm code doc⟩, c1, c2, c3, c4, c5, c6, fun x hx => c7 _ (lookup_mem' hx) rfl⟩
  exact congrArg FuncBody.stmts (recAt_body p i)
local macro_rules | `(tactic| walk_at "fn") => `(tactic| (refine' fnT_of (by assumption) (by assumption) ?ki ?kx ?kd ?kk ?kb; (case ki => rfl); (case kx => rfl); (case kd => decide); (case kk => decide +kernel); (case kb => intro _ _ _; first | exact len1 (fun _ => rfl) | exact len2 (fun _ _ => rfl) | exact len3 (fun _ _ _ => rfl) | exact len4 (fun _ _ _ _ => rfl) | exact len5 (fun _ _ _ _ _ => rfl) | exact len6 (fun _ _ _ _ _ _ => rfl))))

def B1 (l : Addr) (xs : List MV) : MH := fun a => if a = l then some (.ro xs) else none
theorem vsR_ints {vs : List Value} {ns : List Int} (h : IntsAre vs ns) : VsR (ns.map MV.int) vs := by
  induction h with
  | nil => exact .nil
  | cons n t _ ih => exact .cons ⟨t, rfl⟩ ih
theorem law_end {p : Program} {w : World} {s₁ : Shared} {fa l : Addr} {ns : List Int} {vs : List Value} {n : Nat} {S : Spec} (ct : Contract p w s₁.heap (.ref fa) n S)
    (hS : ∀ (B : MH) (Q : MV → MH → Own → Prop), B l = some (.ro (ns.map MV.int)) → (∀ z ∈ ns, Builtin.Int.intBits z ≤ 2000000) → (∀ B' own', Q (.bool true) B' own') → S [.ref l] B [] Q)
    (hn1 : callerA.depth + n < recursionLimit) (hn2 : callerA.units + 3 * n + 100 < cLine)
    (hL : s₁.heap.IsList l vs.toArray) (hI : IntsAre vs ns) (hlen : ns.length ≤ 63) (hlay : (PyData.list (ns.map PyData.int)).layable0 = true)
    {Q : Value → Shared → Prop} {E : Value → Shared → Prop}
    (h : ∀ s', (∀ b o, s₁.heap.get? b = some o → s'.heap.get? b = some o) → s'.gens = s₁.gens → s'.os = s₁.os → Q (.bool true) s') :
    wpAny (model p w) callerA ((fun f vs => call f vs) (.ref fa) [.ref l]) Q E s₁ := by
  have hB1 : B1 l (ns.map MV.int) l = some (.ro (ns.map MV.int)) := by simp [B1]
  refine wpAny_mono (ct callerA s₁ [.ref l] [.ref l] (B1 l (ns.map MV.int)) [] (fun m _ _ => m = .bool true) rfl hn1 hn2 (fun _ _ h => h) (fun a o ha => ?_) (fun _ h => nomatch h) .nil (fun _ h => nomatch h) (.cons rfl .nil) (hS _ _ hB1 (fun z hz => Nat.le_trans (PyData.bits_item_of_ints hlay hz) (by decide)) fun _ _ => rfl)) ?_ ?_
  · unfold B1 at ha
    split at ha
    · rename_i e; subst e; cases ha
      exact ⟨_, hL, by simpa using vsR_ints hI, by have : lim = 1000000 := rfl; simp; omega⟩
    · cases ha
  · rintro v s' ⟨m, B', own', hv, k, hg, hos, -, -, -, -, -, -, -, rfl⟩
    have : v = .bool true := hv
    subst this
    exact h s' (fun b o hb => k b o (fun h => nomatch h) hb) hg hos
  · intro _ _ x; exact x.elim
section
set_option autoImplicit false
set_option Elab.async false
set_option maxRecDepth 1000000
set_option maxHeartbeats 8000000
open PySem PySem.W PyProof.Rows
def keepT : List Nat := [1, 2, 4, 5, 6, 7, 8, 9, 10, 12, 13, 14, 15, 17, 18, 19, 20, 21, 22, 23, 24, 25, 26, 27, 28, 29, 30]
def fnsT : List Nat := [6, 7, 8, 9, 10, 12, 13, 14, 15, 17, 18, 19, 20, 21, 22, 23, 24, 25, 26, 27, 28, 29, 30]
theorem recsT : recsOf (view P keepT) = fnsT.map (recAt P) := by kernel_rfl
theorem leftT : LeftO P (view P keepT) [] (fun s => recOk [] s) (fun _ => ()) (fun _ => ()) 2452 := by intro w; kernel_rfl
theorem law_holds : PySem.Challenge.rw_uf010028_08.Holds := by
  w_on
  o_law
  refine holds_openX (q := view P keepT) (loose := []) (Xt := fun s => recOk [] s) (XP := fun _ _ => True) (Yf := fun _ => ()) (Ya := fun _ => ()) (d := recAt P 30) (kwd := []) (N := 2452) leftT (fun _ _ => trivial) (fun _ _ _ _ _ => trivial) (by kernel_rfl) (by kernel_rfl) (by kernel_rfl) (fun s e => recFacts_of e) (by rfl) (by first | assumption | decide +kernel) (by decide +kernel) ⟨rfl, rfl, rfl, rfl, rfl, by decide +kernel⟩ ?hw ?hc
  (case hw => w_witness2)
  intro w s₀ s₁ mg mb G y fa o pm cd doc dV kV ho hd hcd hD hmg hg args vals as L hpre hlay hrd hwl hlo
  clear hd hcd hD ho L y
  refine Ground.open G ?_
  intro T B D TE TW
  clear B D TE TW G
  have hrecs := recsT
  have glen : Gl s₁.heap "len" (.oth (.builtin "len")) := glT_bi T (by decide +kernel) (by decide) (by boot_by_name) rfl (by decide)
  have gisi : Gl s₁.heap "isinstance" (.oth (.builtin "isinstance")) := glT_bi T (by decide +kernel) (by decide) (by boot_by_name) rfl (by decide)
  have grange : Gl s₁.heap "range" (.oth (.type "range")) := glT_bi T (by decide +kernel) (by decide) (by boot_by_name) rfl (by decide)
  have gint : Gl s₁.heap "int" (.oth (.type "int")) := glT_bi T (by decide +kernel) (by decide) (by boot_by_name) rfl (by decide)
  have gbool : Gl s₁.heap "bool" (.oth (.type "bool")) := glT_bi T (by decide +kernel) (by decide) (by boot_by_name) rfl (by decide)
  have gli : Gl s₁.heap "list" (.oth (.type "list")) := glT_bi T (by decide +kernel) (by decide) (by boot_by_name) rfl (by decide)
  have gtup : Gl s₁.heap "tuple" (.oth (.type "tuple")) := glT_bi T (by decide +kernel) (by decide) (by boot_by_name) rfl (by decide)
  have grv : Gl s₁.heap "reversed" (.oth (.type "reversed")) := glT_bi T (by decide +kernel) (by decide) (by boot_by_name) rfl (by decide)
  have gmost : Gl s₁.heap "MOST_ROWS" (.int 20) := glT_int T (by kernel_rfl) (by decide)
  have gboxes : Gl s₁.heap "BOXES" (.int 4) := glT_int T (by kernel_rfl) (by decide)
  obtain ⟨f_law_cell_at, -, F_law_cell_at⟩ : ∃ f, mg "_law_cell_at" = some (.ref f) ∧ FnG s₁.heap "_law_cell_at" P i_cell_at f := by walk_at "fn"
  obtain ⟨f_law_number_by, -, F_law_number_by⟩ : ∃ f, mg "_law_number_by" = some (.ref f) ∧ FnG s₁.heap "_law_number_by" P i_number_by f := by walk_at "fn"
  obtain ⟨f_is_number, -, F_is_number⟩ : ∃ f, mg "is_number" = some (.ref f) ∧ FnG s₁.heap "is_number" P i_is_number f := by walk_at "fn"
  obtain ⟨f_is_within, -, F_is_within⟩ : ∃ f, mg "is_within" = some (.ref f) ∧ FnG s₁.heap "is_within" P i_is_within f := by walk_at "fn"
  obtain ⟨f_is_row, -, F_is_row⟩ : ∃ f, mg "is_row" = some (.ref f) ∧ FnG s₁.heap "is_row" P i_is_row f := by walk_at "fn"
  obtain ⟨f_need_rows, -, F_need_rows⟩ : ∃ f, mg "need_rows" = some (.ref f) ∧ FnG s₁.heap "need_rows" P i_need_rows f := by walk_at "fn"
  obtain ⟨f_done, -, F_done⟩ : ∃ f, mg "done" = some (.ref f) ∧ FnG s₁.heap "done" P i_done f := by walk_at "fn"
  obtain ⟨f_gone_back, -, F_gone_back⟩ : ∃ f, mg "gone_back" = some (.ref f) ∧ FnG s₁.heap "gone_back" P i_gone_back f := by walk_at "fn"
  obtain ⟨f_moved_on, -, F_moved_on⟩ : ∃ f, mg "moved_on" = some (.ref f) ∧ FnG s₁.heap "moved_on" P i_moved_on f := by walk_at "fn"
  obtain ⟨f_walk, -, F_walk⟩ : ∃ f, mg "walk" = some (.ref f) ∧ FnG s₁.heap "walk" P i_walk f := by walk_at "fn"
  obtain ⟨f_told, -, F_told⟩ : ∃ f, mg "told" = some (.ref f) ∧ FnG s₁.heap "told" P i_told f := by walk_at "fn"
  obtain ⟨f_law_ints, -, F_law_ints⟩ : ∃ f, mg "_law_ints" = some (.ref f) ∧ FnG s₁.heap "_law_ints" P i_law_ints f := by walk_at "fn"
  obtain ⟨f_law_ended, -, F_law_ended⟩ : ∃ f, mg "_law_ended" = some (.ref f) ∧ FnG s₁.heap "_law_ended" P i_law_ended f := by walk_at "fn"
  obtain ⟨f_law_out, -, F_law_out⟩ : ∃ f, mg "_law_out" = some (.ref f) ∧ FnG s₁.heap "_law_out" P i_law_out f := by walk_at "fn"
  obtain ⟨f_law_step, -, F_law_step⟩ : ∃ f, mg "_law_step" = some (.ref f) ∧ FnG s₁.heap "_law_step" P i_law_step f := by walk_at "fn"
  obtain ⟨f_law_asks, -, F_law_asks⟩ : ∃ f, mg "_law_asks" = some (.ref f) ∧ FnG s₁.heap "_law_asks" P i_law_asks f := by walk_at "fn"
  obtain ⟨f_law_walk, -, F_law_walk⟩ : ∃ f, mg "_law_walk" = some (.ref f) ∧ FnG s₁.heap "_law_walk" P i_law_walk f := by walk_at "fn"
  obtain ⟨f_law_side, -, F_law_side⟩ : ∃ f, mg "_law_side" = some (.ref f) ∧ FnG s₁.heap "_law_side" P i_law_side f := by walk_at "fn"
  obtain ⟨f_law_bare, -, F_law_bare⟩ : ∃ f, mg "_law_bare" = some (.ref f) ∧ FnG s₁.heap "_law_bare" P i_law_bare f := by walk_at "fn"
  obtain ⟨f_law_closed, -, F_law_closed⟩ : ∃ f, mg "_law_closed" = some (.ref f) ∧ FnG s₁.heap "_law_closed" P i_law_closed f := by walk_at "fn"
  obtain ⟨f_law_body_by, -, F_law_body_by⟩ : ∃ f, mg "_law_body_by" = some (.ref f) ∧ FnG s₁.heap "_law_body_by" P i_law_body_by f := by walk_at "fn"
  obtain ⟨f_law_rows_in, -, F_law_rows_in⟩ : ∃ f, mg "_law_rows_in" = some (.ref f) ∧ FnG s₁.heap "_law_rows_in" P i_law_rows_in f := by walk_at "fn"
  have F_law : FnG s₁.heap "law" P i_law fa := by
    obtain ⟨f, e, F⟩ : ∃ f, mg "law" = some (.ref f) ∧ FnG s₁.heap "law" P i_law f := by
      walk_at "fn"
    have e' := hmg.symm.trans e
    cases e'
    exact F
  clear hmg hrecs
  wrow_args hpre hlay hrd hwl hlo
  have hlim := T.nolimit
  have c_law_cell_at := F_law_cell_at.c (ct_cell (w := w) (n := 0) F_law_cell_at.a hlim glen)
  have c_law_number_by := F_law_number_by.c (ct_number (w := w) (n := 0) F_law_number_by.a hlim)
  have c_is_number := F_is_number.c (ct_is_number (w := w) (n := 0) F_is_number.a hlim gisi gint gbool)
  have c_is_within := F_is_within.c (ct_is_within (w := w) F_is_within.a hlim c_is_number)
  have c_is_row := F_is_row.c (ct_is_row (w := w) F_is_row.a hlim c_is_number c_is_within glen gboxes)
  have c_need_rows := F_need_rows.c (ct_need_rows (w := w) F_need_rows.a hlim c_is_row glen gmost)
  have c_done := F_done.o (ct_done (w := w) (n := 0) F_done.a hlim)
  have c_gone_back := F_gone_back.o (ct_gone_back (w := w) (n := 0) F_gone_back.a hlim)
  have c_moved_on := F_moved_on.o (ct_moved_on (w := w) F_moved_on.a hlim c_gone_back)
  have c_walk := F_walk.c (ct_walk (w := w) F_walk.a hlim c_need_rows c_done c_moved_on glen gli gint)
  have c_told := F_told.c (ct_told (w := w) (n := 0) F_told.a hlim glen gli grv)
  have c_law_ints := F_law_ints.o (ct_law_ints (w := w) (n := 0) F_law_ints.a hlim glen grange gisi gint gbool gli)
  have c_law_ended := F_law_ended.o (ct_law_ended (w := w) F_law_ended.a hlim c_law_ints glen gisi gint gbool gtup)
  have c_law_out := F_law_out.o (ct_law_out (w := w) (n := 0) F_law_out.a hlim glen)
  have c_law_step := F_law_step.o (ct_law_step (w := w) F_law_step.a hlim c_law_out glen gint)
  have c_law_asks := F_law_asks.o (ct_law_asks (w := w) (n := 0) F_law_asks.a hlim glen)
  have c_law_walk := F_law_walk.c (ct_law_walk (w := w) F_law_walk.a hlim c_law_asks c_law_step glen gli)
  have c_law_side := F_law_side.c (ct_law_side (w := w) (n := 0) F_law_side.a hlim glen)
  have c_law_bare := F_law_bare.c (ct_law_bare (w := w) (n := 0) F_law_bare.a hlim glen)
  have c_law_closed := F_law_closed.o (ct_law_closed (w := w) (n := 0) F_law_closed.a hlim glen)
  have c_law_body_by := F_law_body_by.c (ct_law_body_by (w := w) F_law_body_by.a hlim c_law_bare c_law_side c_law_closed glen)
  have c_law_rows_in := F_law_rows_in.c (ct_rows_in (w := w) F_law_rows_in.a hlim (fun n S c => F_law_rows_in.c c) 332)
  have c_law := ct_law (w := w) F_law.a hlim c_law_cell_at c_law_number_by c_law_body_by c_walk c_law_walk c_law_ended c_told c_law_rows_in c_law_ints grange gli
  rename_i hlay0 hr0 hl20 as1 as2 l vs as3 hL0 ra0 w10 r00 hI0 hr00 hc1 hc2
  refine law_end c_law (fun B Q hB hz hQ => ⟨rfl, l, _, rfl, hB, hz, hQ⟩) (by decide +kernel) (by decide +kernel) hL0 hI0 (by omega) (by assumption) (fun s' hk hg' hos => ?_)
  exact GoodW.toG ⟨.inl ⟨_, .bool true, [], rfl, fun _ => rfl, .bool true, by wrow_post, unshared_nil⟩, hk, hos, hg'.trans hg⟩
end
end Mine
theorem PySem.Challenge.cw_uf010028_08_holds : PySem.Challenge.rw_uf010028_08.Holds :=
  Mine.law_holds
