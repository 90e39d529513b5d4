import PyProof.Rows.All
import Wide.All
import OpenK.AllK
import Wide.FinOn
import PyProof.DictKinds
import PyProof.DictIter
import PyProof.DictDisplay
import PyProof.Rows.EqNone
import PyProof.FactsAll.NoneType_1
import PyProof.AttrMissHeap
import PyProof.Walks
import KE.KDictOf
import PyProof.ListOps
import PyProof.MeetsDict
import PyProof.DictStraight
import PyProof.Cells
import PyProof.CompFree
import PyProof.WalksMore
import PyProof.RangeIter
import PyProof.CallRoads
import PyProof.CallType
import PyProof.PureInt
import PyProof.TupleOps
import PyProof.Rules3
import PyProof.LetGo
import PyProof.DefCall
import PyProof.NoPylong
import PyProof.ListIndexNeg
import PyProof.DictWalks
import PyProof.CompMap
import PyProof.IsiHeapPairs
import PyProof.IsiNone
import PyProof.IsiPairs
import PyProof.ListCopy
import PyProof.RangeFor
import PyProof.StrOps
import PyProof.WalkInts
import PyProof.EqAt
import PyProof.FactsAll.list_0
import PyProof.FactsDict
import PyProof.DictRoads
import PyProof.Conv_int_bool
import KE.KDictList
import KE.KRevIter
import PyProof.Rows.SortWalk
import PyProof.NeKinds
import OpenK.KLine
import KE.KEqDict
import PyProof.SliceList
import PyProof.Rows.TupAdd
import PySem.Challenge.RW_uf010028_05
set_option Elab.async false
set_option compiler.extract_closed false
set_option genSizeOf false
set_option genInjectivity false
set_option autoImplicit false
set_option linter.unusedVariables false
namespace Mine
open PySem PySem.EqNone

/-! dictionary keys: None or an int -/
def keyIs : Option Int → Value → Bool
  | none, .none => true
  | some k, v => Value.isInt k v
  | _, _ => false
def keyHash : Option Int → Int
  | none => 0xFCA86420
  | some k => hashInt k

theorem keyIs_none {v : Value} (h : keyIs none v = true) : v = .none := by
  cases v <;> first | rfl | (simp [keyIs] at h)
theorem keyIs_some {k : Int} {v : Value} (h : keyIs (some k) v = true) : ∃ t, v = .int k t := Value.isInt_shape h
section
variable {prog : Program} {w : World} {A : Around} {E : Value → Shared → Prop} {s : Shared}
theorem eqBool_none_int {a : Int} {t : Tok} {Q : Bool → Shared → Prop} (h : Q false s) : wpAny (model prog w) A (eqBool .none (.int a t)) Q E s := by
  unfold eqBool
  show wpAny (model prog w) A (richCompare .Eq .none (.int a t) >>= fun r => truthOfDropped r) Q E s
  exact wpAny_bind (eq_none_int (wpAny_truthy_bool h))
theorem eqBool_int_none {a : Int} {t : Tok} {Q : Bool → Shared → Prop} (h : Q false s) : wpAny (model prog w) A (eqBool (.int a t) .none) Q E s := by
  unfold eqBool
  show wpAny (model prog w) A (richCompare .Eq (.int a t) .none >>= fun r => truthOfDropped r) Q E s
  exact wpAny_bind (eq_int_none (wpAny_truthy_bool h))
theorem eqBool_none_none {Q : Bool → Shared → Prop} (h : Q true s) : wpAny (model prog w) A (eqBool .none .none) Q E s := by
  unfold eqBool
  show wpAny (model prog w) A (rule "eq-bool.same-object" >>= fun _ => pure true) Q E s
  exact wpAny_bind (wpAny_rule (wpAny_pure h))
theorem pyHash_none {Q : Int → Shared → Prop} (h : Q (keyHash none) { s with toks := s.toks + 1 }) : wpAny (model prog w) A (pyHash .none) Q E s := by
  unfold pyHash
  refine wpAny_bind ?_
  rw [cRoomFor, if_neg (by rw [show [Value.none].any Value.onHeap = false from rfl]; exact Bool.false_ne_true)]; refine wpAny_pure ?_
  have hT : s.TypeIs .none "NoneType" := rfl
  refine wpAny_bind (wpAny_specialOf hT F.slot_NoneType_hash.lookup ?_)
  show wpAny _ _ (if (some (Value.builtin "NoneType.__hash__") == some Value.none) = true then _ else _) Q E s
  rw [if_neg (by rw [beq_builtin_none]; exact Bool.false_ne_true)]
  refine wpAny_bind (wpAny_specialOf hT F.slot_NoneType_hash.lookup ?_)
  refine wpAny_bind (wpAny_callSpecialIfBoundUnlessNone?_slot hT F.slot_NoneType_hash
    (wpAny_call_entry F.slot_NoneType_hash hT F.entry_NoneType_hash
      (show wpAny _ _ (do ret (← mkInt 0xFCA86420)) _ _ s from wpAny_ret_mkInt ?_) (F.args_NoneType_hash_1 _)))
  exact wpAny_pure h
end
def optKind (prog : Program) (w : World) : KeyKind prog w (Option Int) where
  is := keyIs
  hash := keyHash
  inj := fun v a b ha hb => by
    cases a with
    | none => cases b with
      | none => rfl
      | some b => obtain rfl := keyIs_none ha; obtain ⟨t, e⟩ := keyIs_some hb; cases e
    | some a => obtain ⟨t, rfl⟩ := keyIs_some ha; cases b with
      | none => have := keyIs_none hb; cases this
      | some b => obtain ⟨u, e⟩ := keyIs_some hb; cases e; rfl
  byValue := fun k v h => by
    cases k with
    | none => obtain rfl := keyIs_none h; rfl
    | some k => obtain ⟨t, rfl⟩ := keyIs_some h; rfl
  pyHash := fun {A E s k v Q} h hq => by
    cases k with
    | none => obtain rfl := keyIs_none h; exact pyHash_none hq
    | some k => obtain ⟨t, rfl⟩ := keyIs_some h; exact wpAny_pyHash_int hq
  eqBool := fun {A E s a b u v Q} ha hb hq => by
    cases a with
    | none => obtain rfl := keyIs_none ha; cases b with
      | none => obtain rfl := keyIs_none hb; exact eqBool_none_none hq
      | some b => obtain ⟨t, rfl⟩ := keyIs_some hb; exact eqBool_none_int (by simpa using hq)
    | some a => obtain ⟨t, rfl⟩ := keyIs_some ha; cases b with
      | none => obtain rfl := keyIs_none hb; exact eqBool_int_none (by simpa using hq)
      | some b => obtain ⟨u, rfl⟩ := keyIs_some hb; exact wpAny_eqBool_int (by rw [show (a == b) = decide (some a = some b) from by simp [BEq.beq]]; exact hq)
  «strs» := fun k x t v h => by
    cases k with
    | none => have := keyIs_none h; cases this
    | some k => obtain ⟨u, e⟩ := keyIs_some h; cases e

theorem pairs_any {p p' : Program} {w w' : World} {es : List DictEntry} {kvs : List (Option Int × Value)} (h : Pairs (optKind p w) es kvs) : Pairs (optKind p' w') es kvs := by
  induction h with
  | nil => exact .nil
  | cons h1 h2 _ ih => exact .cons h1 h2 ih
theorem dictOf_any {p p' : Program} {w w' : World} {h : Heap} {a : Addr} {kvs : List (Option Int × Value)} (x : h.DictOf (optKind p w) a kvs) : h.DictOf (optKind p' w') a kvs :=
  let ⟨o, es, ep, h1, h2, h3, h4, h5, h6⟩ := x; ⟨o, es, ep, h1, h2, h3, h4, pairs_any h5, h6⟩
theorem size_ne_modules {h : Heap} (hl : h.NoLimit) : (h.objs.size == sysModules) = false := by
  obtain ⟨mc, ⟨o, es, ep, ho, _⟩, _⟩ := hl
  have h1 : cStatics < h.objs.size := Heap.lt_size ho
  have h2 : (1 : Nat) < h.objs.size := Nat.lt_of_le_of_lt (by decide) h1
  cases e : (h.objs.size == sysModules) with
  | false => rfl
  | true => have e' : h.objs.size = 1 := eq_of_beq e; omega
end Mine
set_option autoImplicit false
set_option linter.unusedVariables false
set_option maxRecDepth 100000
namespace Mine
open PySem

theorem miss_keys_list : typeLookup (.type "list") (Str.ofString "keys") = pure none := am_miss_of_fast (by kernel_rfl)
theorem getAttrQ_keys_list {prog : Program} {w : World} {A : Around} {E : Value → Shared → Prop} {s : Shared} {a : Addr} {xs : Array Value} {k : Nat} {sl : Array (Option Value)} {Q : Option Value → Shared → Prop}
    (hx : s.heap.get? a = some { cls := .type "list", dict := none, data := .seq xs k, slots := sl }) (hA : A.handled = none)
    (h : ∀ h' tk, (∀ b o, s.heap.get? b = some o → h'.get? b = some o) → Q none { s with heap := h', toks := tk }) :
    wpAny (model prog w) A (getAttr? (.ref a) (Str.ofString "keys")) Q E s := by
  obtain ⟨hp, g, d, tk, os⟩ := s
  have hT : ∀ tk', (⟨hp, g, d, tk', os⟩ : Shared).TypeIs (.ref a) "list" := fun _ => ⟨_, hx, rfl⟩
  have f1 := sub_AttributeError
  have f3 := F.slot_list_getattribute.lookup
  have f4 := F.slot_list_getattribute.bind (.ref a)
  have f5 := am_list_getattr_none
  unfold getAttr? getAttrBy? getAttrBy
  repeat (any_goals (first | assumption | exact hT _ | ((with_reducible show wpAny _ _ (call (Value.builtin "list.__getattribute__") _ _) _ _ _); refine call_meets F.slot_list_getattribute (hT _) am_entry_list_getattribute (F.args_list_getattribute_2 _ _) (meets_getattribute_miss_list a xs k sl (Str.ofString "keys") _ miss_keys_list (by decide +kernel) (by size_fits)) ⟨hx, hA, fun h' tk' e hx' => ?_⟩) | wp_step))
  obtain ⟨t', u', he⟩ := hx'.there
  show wpAny _ _ (getattributeRaised _ _ _ _ _ _ _) _ _ _
  unfold getattributeRaised
  repeat (any_goals (first | assumption | wp_step))
  exact h _ _ hx'.keeps

theorem entry_dict_update_loop : entryFor table "dict.update.loop" = some Builtin.«dict.update.loop» := entryFor_of_tree (by kernel_rfl)

section
variable {prog : Program} {w : World} {K : Type} [DecidableEq K] {knd : KeyKind prog w K}
/-- the pairs that a list holds -/
def PairsAt (knd : KeyKind prog w K) (h : Heap) (vs : Array Value) (it d : Addr) (kvs : List (K × Value)) : Prop :=
  vs.size = kvs.length ∧ ∀ (j : Nat) (k : K) (v : Value), kvs[j]? = some (k, v) → ∃ (t : Addr) (o : Obj) (key : Value) (n : Nat), vs[j]? = some (.ref t) ∧ t ≠ it ∧ t ≠ d ∧ h.get? t = some o ∧ o.cls = .type "tuple" ∧ o.data = .seq #[key, v] n ∧ knd.is k key = true

theorem update_loop {l it d : Addr} {vs : Array Value} {h₀ : Heap} {kvs : List (K × Value)} (hld : l ≠ d) (hli : l ≠ it) (hdi : d ≠ it) (P : PairsAt knd h₀ vs it d kvs) (hsz : kvs.length ≤ 1000000) :
    ∀ (k i : Nat) (acc : List (K × Value)) (A : Around) (s : Shared) (R : Result → Shared → Prop), kvs.length - i = k → i ≤ kvs.length → A.handled = none → (∀ b o, b ≠ it → b ≠ d → h₀.get? b = some o → s.heap.get? b = some o) →
      s.heap.IsListIter it l i → s.heap.IsList l vs → s.heap.DictOf knd d acc → acc.length ≤ i →
      (∀ h' tk, (∀ b o, b ≠ it → b ≠ d → s.heap.get? b = some o → h'.get? b = some o) → h'.DictOf knd d (merged acc (kvs.drop i)) → R (.ok (.ret .none)) { s with heap := h', toks := tk }) →
      codeAny (model prog w) A (.builtin "dict.update.loop" ⟨[.ref d, .ref it, rawInt i, .none], []⟩) R s := by
  intro k
  induction k with
  | zero =>
    intro i acc A s R hk hi hA hkeep hit hl hd hacc hR
    have hn : vs[i]? = none := by rw [Array.getElem?_eq_none]; have := P.1; omega
    have hdr : kvs.drop i = [] := List.drop_eq_nil_of_le (by omega)
    refine codeAny_builtin entry_dict_update_loop ?_
    unfold Builtin.«dict.update.loop»
    dsimp only [rawInt]
    refine wpAny_bind (wpAny_pyNext_list_end (by exact hA) hit hl hn fun h' hx => ?_)
    refine wpAny_bind (wpAny_pure (wpAny_pure ?_))
    have := hR h' s.toks (fun b o h1 h2 hb => hx b o h1 hb) (by rw [hdr]; exact hd.extBut hx hdi)
    exact this
  | succ k ih =>
    intro i acc A s R hk hi hA hkeep hit hl hd hacc hR
    have hlt : i < kvs.length := by omega
    obtain ⟨⟨ke, v⟩, hkv⟩ : ∃ p, kvs[i]? = some p := ⟨kvs[i], by simp [hlt]⟩
    obtain ⟨t, o, key, n, hv, ht1, ht2, ho, hoc, hod, hkey⟩ := P.2 i ke v hkv
    have hdr : kvs.drop i = (ke, v) :: kvs.drop (i + 1) := by
      rw [List.drop_eq_getElem_cons hlt]; congr 1; rw [List.getElem?_eq_getElem hlt] at hkv; exact Option.some.inj hkv
    refine codeAny_builtin entry_dict_update_loop ?_
    unfold Builtin.«dict.update.loop»
    dsimp only [rawInt]
    refine wpAny_bind (wpAny_pyNext_list_item hit hl hv fun h1 hit1 hs1 => ?_)
    have ho1 : h1.get? t = some o := (hs1.2 t ht1).trans (hkeep t o ht1 ht2 ho)
    have hl1 : h1.IsList l vs := (let ⟨o', g1, g2⟩ := hl; ⟨o', (hs1.2 l hli).trans g1, g2⟩)
    have hd1 : h1.DictOf knd d acc := hd.sameBut hs1 hdi
    refine wpAny_bind (wpAny_holding (wpAny_bind (wpAny_tryCatch ?_)))
    unfold Builtin.Dict.pairItems
    refine wpAny_bind (wpAny_typeOf (T := "tuple") ⟨o, ho1, hoc⟩ ?_)
    rw [if_pos (by decide)]
    refine wpAny_bind (wpAny_seqItems ho1 hod ?_)
    refine wpAny_pure ?_
    show wpAny _ _ (holding [key, v] (dictSet d key v)) _ _ _
    refine wpAny_holding (wpAny_dictSet_pairs hkey hd1 (fun h2 hd2 hs2 => ?_) (by have : (1000000 : Nat) ≤ sizeLine := by decide +kernel
                                                                                  omega))
    refine wpAny_pure ⟨Code.quiet_builtin _ (by decide +kernel), ?_⟩
    have e1 : ((i : Int) + 1) = ((i + 1 : Nat) : Int) := rfl
    rw [e1]
    refine ih (i + 1) (stored acc ke v) A _ R (by omega) (by omega) hA (fun b o' h1' h2' hb => ?_) (let ⟨o', g1, g2⟩ := hit1; ⟨o', (hs2.2 it (Ne.symm hdi)).trans g1, g2⟩) (let ⟨o', g1, g2⟩ := hl1; ⟨o', (hs2.2 l hld).trans g1, g2⟩) hd2 (Nat.le_trans (stored_length_le acc ke v) (by omega)) ?_
    · show h2.get? b = some o'
      rw [hs2.2 b h2', hs1.2 b h1']; exact hkeep b o' h1' h2' hb
    · intro h' tk hk' hd'
      refine hR h' tk (fun b o' h1' h2' hb => hk' b o' h1' h2' ?_) ?_
      · show h2.get? b = some o'
        rw [hs2.2 b h2', hs1.2 b h1']; exact hb
      · rw [hdr]; exact hd'

theorem call_dictPairs {A : Around} {E : Value → Shared → Prop} {s : Shared} {l : Addr} {vs : Array Value} {nn : Nat} {sl : Array (Option Value)} {kvs : List (K × Value)} {Q : Value → Shared → Prop} (hA : A.handled = none)
    (ho : s.heap.get? l = some { cls := .type "list", dict := none, data := .seq vs nn, slots := sl }) (hsz : kvs.length ≤ 1000000) (hlen : vs.size = kvs.length)
    (P : ∀ (j : Nat) (k : K) (v : Value), kvs[j]? = some (k, v) → ∃ (t : Addr) (o : Obj) (key : Value) (n : Nat), vs[j]? = some (.ref t) ∧ s.heap.get? t = some o ∧ o.cls = .type "tuple" ∧ o.data = .seq #[key, v] n ∧ knd.is k key = true)
    (h : ∀ h' tk, (∀ b o, s.heap.get? b = some o → h'.get? b = some o) → h'.DictOf knd s.heap.objs.size (merged [] kvs) → Q (.ref s.heap.objs.size) { s with heap := h', toks := tk }) :
    wpAny (model prog w) A (call (.type "dict") [.ref l]) Q E s := by
  refine callType_codes (Q₁ := fun obj s₁ => obj = .ref s.heap.objs.size ∧ s₁ = { s with heap := s.heap.push { cls := .type "dict", data := .dict #[] } }) F.kt_called_dict (F.kt_typeCall_dict_1 _) F.entry_dict_init (kt_code_dict_new _ ⟨rfl, rfl⟩) ?_
  rintro obj s₁ ⟨rfl, rfl⟩
  have hnew : (s.heap.push { cls := .type "dict", data := .dict #[] }).DictOf knd s.heap.objs.size [] := Heap.DictOf.new s.heap
  have ho' := Heap.get?_push_of_some { cls := .type "dict", data := .dict #[] } ho
  refine ⟨hnew.typeIs, F.args_dict_init_2 _ _, ?_⟩
  unfold Builtin.«dict.__init__»
  refine wpAny_bind ?_
  unfold Builtin.Dict.selfAndRest
  refine wpAny_bind (wpAny_notOrdered_dict hnew.typeIs ?_)
  show wpAny _ _ (pure (s.heap.objs.size, [Value.ref l])) _ _ _
  refine wpAny_pure ?_
  show wpAny _ _ (Builtin.Dict.updateFrom "dict.__init__" s.heap.objs.size (.ref l) [] .none) _ _ _
  unfold Builtin.Dict.updateFrom
  refine wpAny_bind (wpAny_typeOf (T := "list") ⟨_, ho', rfl⟩ ?_)
  rw [if_pos (by decide)]
  refine wpAny_bind (getAttrQ_keys_list ho' hA fun h2 tk2 hk2 => ?_)
  rw [if_pos (by rfl)]
  refine wpAny_bind (wpAny_rule ?_)
  have hl2 : h2.IsList l vs := ⟨_, hk2 _ _ ho', rfl, _, rfl⟩
  refine wpAny_bind (wpAny_pyIter_list hl2 ?_)
  have hd2 : h2.DictOf knd s.heap.objs.size [] := hnew.keep hk2
  have hlt : s.heap.objs.size < h2.objs.size := by obtain ⟨o, es, ep, g, _⟩ := hd2; exact Heap.lt_size g
  have hsz0 : ∀ b o, s.heap.get? b = some o → b ≠ s.heap.objs.size ∧ b ≠ h2.objs.size := fun b o hb => by
    have h1 : b < s.heap.objs.size := Heap.lt_size hb
    constructor
    · exact Nat.ne_of_lt h1
    · exact Nat.ne_of_lt (Nat.lt_trans h1 hlt)
  have hk3 : ∀ b o, s.heap.get? b = some o → (h2.push { cls := .type "list_iterator", data := .fields #[.ref l, .int 0 0] }).get? b = some o := fun b o hb => Heap.get?_push_of_some _ (hk2 _ _ (Heap.get?_push_of_some _ hb))
  refine wpAny_pure ⟨Code.quiet_builtin _ (by decide +kernel), ?_⟩
  refine update_loop (h₀ := s.heap) (kvs := kvs) (hsz0 l _ ho).1 (hsz0 l _ ho).2 (Nat.ne_of_lt hlt) ⟨hlen, fun j k v hj => ?_⟩ hsz kvs.length 0 [] _ _ _ rfl (Nat.zero_le _) hA (fun b o h1 h2 hb => hk3 b o hb) ⟨_, Heap.get?_push_size _ rfl, rfl, rfl⟩ (hl2.push _) (hd2.push _) (Nat.le_refl _) ?_
  · obtain ⟨t, o, key, n, g1, g2, g3⟩ := P j k v hj
    exact ⟨t, o, key, n, g1, (hsz0 t o g2).2, (hsz0 t o g2).1, g2, g3⟩
  · intro h' tk hk' hd'
    exact ⟨rfl, h h' tk (fun b o hb => hk' b o (hsz0 b o hb).2 (hsz0 b o hb).1 (hk3 b o hb)) hd'⟩
end
end Mine
set_option autoImplicit false
set_option linter.unusedVariables false
namespace Mine
open PySem

/-! values and objects without tokens -/
inductive MV where
  | none | bool (b : Bool) | int (i : Int) | str (x : Str) | ref (a : Addr) | oth (v : Value)

def VR : MV → Value → Prop
  | .none, v => v = .none
  | .bool b, v => v = .bool b
  | .int i, v => ∃ t, v = .int i t
  | .str x, v => ∃ t, v = .str x t
  | .ref a, v => v = .ref a
  | .oth u, v => v = u

inductive VsR : List MV → List Value → Prop
  | nil : VsR [] []
  | cons {m : MV} {v : Value} {ms : List MV} {vs : List Value} : VR m v → VsR ms vs → VsR (m :: ms) (v :: vs)

theorem VsR.length {ms : List MV} {vs : List Value} (h : VsR ms vs) : ms.length = vs.length := by
  induction h with
  | nil => rfl
  | cons _ _ ih => simp [ih]
theorem VsR.get {ms : List MV} {vs : List Value} (h : VsR ms vs) : ∀ {i : Nat} {m : MV}, ms[i]? = some m → ∃ v, vs[i]? = some v ∧ VR m v := by
  induction h with
  | nil => intro i m e; simp at e
  | cons hv _ ih =>
    intro i m e
    cases i with
    | zero => simp at e; subst e; exact ⟨_, by simp, hv⟩
    | succ i => simp at e; obtain ⟨v, h1, h2⟩ := ih e; exact ⟨v, by simpa using h1, h2⟩
theorem VsR.getv {ms : List MV} {vs : List Value} (h : VsR ms vs) : ∀ {i : Nat} {v : Value}, vs[i]? = some v → ∃ m, ms[i]? = some m ∧ VR m v := by
  induction h with
  | nil => intro i m e; simp at e
  | cons hv _ ih =>
    intro i m e
    cases i with
    | zero => simp at e; subst e; exact ⟨_, by simp, hv⟩
    | succ i => simp at e; obtain ⟨v, h1, h2⟩ := ih e; exact ⟨v, by simpa using h1, h2⟩
theorem VsR.append {a b : List MV} {c d : List Value} (h : VsR a c) (h' : VsR b d) : VsR (a ++ b) (c ++ d) := by
  induction h with
  | nil => exact h'
  | cons hv _ ih => exact .cons hv ih
theorem VsR.snoc {a : List MV} {c : List Value} {m : MV} {v : Value} (h : VsR a c) (h' : VR m v) : VsR (a ++ [m]) (c ++ [v]) := h.append (.cons h' .nil)
theorem VsR.take {a : List MV} {c : List Value} (h : VsR a c) (n : Nat) : VsR (a.take n) (c.take n) := by
  induction h generalizing n with
  | nil => simp; exact .nil
  | cons hv _ ih => cases n with
    | zero => simp; exact .nil
    | succ n => simp; exact .cons hv (ih n)
def keyMV : Option Int → MV
  | none => .none
  | some i => .int i
/-- the items of a dictionary, without tokens -/
structure KVR (kvs : List (Option Int × MV)) (vk : List (Option Int × Value)) : Prop where
  k : kvs.map (·.1) = vk.map (·.1)
  v : VsR (kvs.map (·.2)) (vk.map (·.2))

def lim : Nat := 1000000
theorem lim_le : lim ≤ sizeLine := by decide +kernel

inductive MO where
  | list (xs : List MV)
  | tup (xs : List MV)
  | range (n : Nat)
  | raw (o : Obj)
  | ro (xs : List MV)
  | dict (kvs : List (Option Int × MV))

def OR (h : Heap) (a : Addr) : MO → Prop
  | .list xs => ∃ vs n, h.get? a = some { cls := .type "list", dict := none, data := .seq vs n, slots := #[] } ∧ VsR xs vs.toList ∧ xs.length ≤ lim
  | .tup xs => ∃ vs n, h.get? a = some { cls := .type "tuple", dict := none, data := .seq vs n, slots := #[] } ∧ VsR xs vs.toList ∧ xs.length ≤ lim
  | .range n => ∃ t u v, IsRange h a 0 n 1 t u v ∧ n ≤ lim
  | .raw o => h.get? a = some o
  | .ro xs => ∃ vs, h.IsList a vs ∧ VsR xs vs.toList ∧ xs.length ≤ lim
  | .dict kvs => (a == sysModules) = false ∧ ∃ vk, (∃ p w, h.DictOf (optKind p w) a vk) ∧ KVR kvs vk ∧ kvs.length ≤ lim

theorem OR.at {h h' : Heap} {a : Addr} {o : MO} (x : OR h a o) (e : ∀ ob, h.get? a = some ob → h'.get? a = some ob) : OR h' a o := by
  cases o with
  | list xs => obtain ⟨vs, n, h1, h2⟩ := x; exact ⟨vs, n, e _ h1, h2⟩
  | tup xs => obtain ⟨vs, n, h1, h2⟩ := x; exact ⟨vs, n, e _ h1, h2⟩
  | range n => obtain ⟨t, u, v, h1, h2⟩ := x; exact ⟨t, u, v, e _ h1, h2⟩
  | raw o => exact e _ x
  | ro xs => obtain ⟨vs, ⟨o, h1, h2⟩, h3⟩ := x; exact ⟨vs, ⟨o, e _ h1, h2⟩, h3⟩
  | dict kvs => obtain ⟨h0, vk, h1, h2⟩ := x; exact ⟨h0, vk, let ⟨p, w, o, es, ep, g1, g2⟩ := h1; ⟨p, w, o, es, ep, e _ g1, g2⟩, h2⟩
theorem OR.alive {h : Heap} {a : Addr} {o : MO} (x : OR h a o) : ∃ ob, h.get? a = some ob := by
  cases o with
  | list xs => obtain ⟨vs, n, h1, h2⟩ := x; exact ⟨_, h1⟩
  | tup xs => obtain ⟨vs, n, h1, h2⟩ := x; exact ⟨_, h1⟩
  | range n => obtain ⟨t, u, v, h1, h2⟩ := x; exact ⟨_, h1⟩
  | raw o => exact ⟨_, x⟩
  | ro xs => obtain ⟨vs, ⟨o, h1, h2⟩, h3⟩ := x; exact ⟨_, h1⟩
  | dict kvs => obtain ⟨h0, vk, h1, h2⟩ := x; exact let ⟨_, _, o, es, ep, g1, g2⟩ := h1; ⟨_, g1⟩

/-! names -/
abbrev Loc := List (Str × MV)
def look : Loc → Str → Option MV
  | [], _ => none
  | (y, v) :: r, x => if x = y then some v else look r x
def put : Loc → Str → MV → Loc
  | [], x, v => [(x, v)]
  | (y, u) :: r, x, v => if x = y then (y, v) :: r else (y, u) :: put r x v
theorem look_put (l : Loc) (x y : Str) (v : MV) : look (put l x v) y = if y = x then some v else look l y := by
  induction l with
  | nil => simp [put, look]
  | cons p r ih =>
    obtain ⟨z, u⟩ := p
    unfold put
    by_cases h : x = z
    · subst h; simp only [if_true, look]; by_cases h2 : y = x <;> simp [h2]
    · simp only [h, if_false, look, ih]
      by_cases h2 : y = z
      · subst h2; simp [Ne.symm h]
      · simp [h2]

structure Cx where
  prog : Program
  w : World
  A : Around
  env : Env
  fr : List Addr
  kp : Addr → Obj → Prop
  gens : Array GenState
  os : OsState
  room : Nat
  al : Addr → Prop
  mod : List Addr
  B0 : Addr → Option MO
  no : Addr → Prop

structure Cx.Ok (C : Cx) (hb : Heap) : Prop where
  handled : C.A.handled = none
  depth : C.A.depth + C.room < recursionLimit
  units : C.A.units + 3 * C.room + 100 < cLine
  kind : C.env.scope.kind = .function
  globals : C.env.globals = mainGlobals
  builtins : C.env.builtins = builtinsNs
  locals : C.env.locals ∈ C.fr
  cellsIn : ∀ x c, C.env.cells.lookup x = some c → c ∈ C.fr ∨ ∃ o, C.kp c o
  cellsNe : ∀ x c, C.env.cells.lookup x = some c → c ≠ C.env.locals
  cellsInj : ∀ x y c, C.env.cells.lookup x = some c → C.env.cells.lookup y = some c → x = y
  apart : ∀ a ∈ C.fr, ∀ o, ¬ C.kp a o
  base : ∀ b o, hb.get? b = some o → C.kp b o
  modAl : ∀ a ∈ C.mod, C.al a
  noKp : ∀ a, C.no a → ∃ o, C.kp a o

structure St where
  loc : Loc
  B : Addr → Option MO
  own : List (Addr × MO)

def NameIs (env : Env) (h : Heap) (x : Str) (v : MV) : Prop :=
  (env.kindOf x = some .local ∧ ∃ m u, h.Ns env.locals m ∧ m x = some u ∧ VR v u) ∨
  ((env.kindOf x = some .cell ∨ env.kindOf x = some .free) ∧ ∃ c u, env.cells.lookup x = some c ∧ h.IsCell c (some u) ∧ VR v u)

structure Holds (C : Cx) (σ : St) (s : Shared) : Prop where
  kp : ∀ b o, C.kp b o → s.heap.get? b = some o
  names : ∀ x v, look σ.loc x = some v → NameIs C.env s.heap x v
  ns : ∃ m, s.heap.Ns C.env.locals m
  cells : ∀ x c, C.env.cells.lookup x = some c → ∃ u, s.heap.IsCell c u
  alive : ∀ a ∈ C.fr, ∃ o, s.heap.get? a = some o
  B : ∀ a o, σ.B a = some o → OR s.heap a o
  own : ∀ p ∈ σ.own, OR s.heap p.1 p.2
  nodup : (σ.own.map (·.1) ++ C.fr).Nodup
  apartB : ∀ a ∈ σ.own.map (·.1) ++ C.fr, σ.B a = none
  apartK : ∀ a ∈ σ.own.map (·.1) ++ C.fr, ∀ o, ¬ C.kp a o
  gens : s.gens = C.gens
  os : s.os = C.os
  al : ∀ a, C.al a → ∃ o, s.heap.get? a = some o
  B0 : ∀ a o, C.B0 a = some o → σ.B a = some o
  Bnew : ∀ a o, σ.B a = some o → C.B0 a = some o ∨ ¬ C.al a
  ownNew : ∀ p ∈ σ.own, ¬ C.al p.1 ∨ p.1 ∈ C.mod
  noB : ∀ a, C.no a → σ.B a = none

def Has (σ : St) (a : Addr) (o : MO) : Prop := (a, o) ∈ σ.own ∨ σ.B a = some o
theorem Holds.has {C : Cx} {σ : St} {s : Shared} (H : Holds C σ s) {a : Addr} {o : MO} (h : Has σ a o) : OR s.heap a o :=
  h.elim (fun h => H.own _ h) fun h => H.B _ _ h

theorem NameIs.ext {env : Env} {h h' : Heap} {x : Str} {v : MV} (n : NameIs env h x v) (e : ∀ b o, h.get? b = some o → h'.get? b = some o) : NameIs env h' x v := by
  rcases n with ⟨hk, m, u, hn, hm, hv⟩ | ⟨hk, c, u, hc, hu, hv⟩
  · exact .inl ⟨hk, m, u, hn.keeps e, hm, hv⟩
  · exact .inr ⟨hk, c, u, hc, hu.keeps e, hv⟩

theorem Holds.ext {C : Cx} {σ : St} {s s' : Shared} (H : Holds C σ s) (e : ∀ b o, s.heap.get? b = some o → s'.heap.get? b = some o) (hg : s'.gens = s.gens) (ho : s'.os = s.os) : Holds C σ s' where
  kp := fun b o h => e _ _ (H.kp b o h)
  names := fun x v h => (H.names x v h).ext e
  ns := let ⟨m, h⟩ := H.ns; ⟨m, h.keeps e⟩
  cells := fun x c h => let ⟨u, hu⟩ := H.cells x c h; ⟨u, hu.keeps e⟩
  alive := fun a ha => let ⟨o, ho⟩ := H.alive a ha; ⟨o, e _ _ ho⟩
  B := fun a o h => (H.B a o h).at fun ob => e _ _
  own := fun p hp => (H.own p hp).at fun ob => e _ _
  nodup := H.nodup
  apartB := H.apartB
  apartK := H.apartK
  gens := hg.trans H.gens
  os := ho.trans H.os
  al := fun a ha => let ⟨o, ho⟩ := H.al a ha; ⟨o, e _ _ ho⟩
  B0 := H.B0
  Bnew := H.Bnew
  ownNew := H.ownNew
  noB := H.noB

theorem Holds.toks {C : Cx} {σ : St} {s : Shared} (H : Holds C σ s) (t : Nat) : Holds C σ { s with toks := t } := H.ext (fun _ _ h => h) rfl rfl
theorem Holds.push {C : Cx} {σ : St} {s : Shared} (H : Holds C σ s) (o : Obj) : Holds C σ { s with heap := s.heap.push o } := H.ext (fun _ _ h => Heap.get?_push_of_some _ h) rfl rfl

theorem fresh_none (h : Heap) : h.get? h.objs.size = none := by
  cases e : h.get? h.objs.size with
  | none => rfl
  | some o => exact absurd (Heap.lt_size e) (Nat.lt_irrefl _)

theorem Holds.freshMod {C : Cx} {hb : Heap} {σ : St} {s : Shared} (OK : C.Ok hb) (H : Holds C σ s) : s.heap.objs.size ∉ C.mod := fun hm => by
  obtain ⟨ob, hob⟩ := H.al _ (OK.modAl _ hm); rw [fresh_none] at hob; cases hob
/-- an address that is new to a state -/
structure Fsh (md : List Addr) (σ : St) (a : Addr) : Prop where
  md : a ∉ md
  B : σ.B a = none
  own : a ∉ σ.own.map (·.1)
theorem far_none {h : Heap} {a : Addr} (ha : h.objs.size ≤ a) : h.get? a = none := by
  cases e : h.get? a with
  | none => rfl
  | some o => exact absurd (Heap.lt_size e) (Nat.not_lt.mpr ha)
def Far (C : Cx) (σ : St) (a : Addr) : Prop := a ∉ σ.own.map (·.1) ++ C.fr ∧ σ.B a = none ∧ (∀ o, ¬ C.kp a o) ∧ ¬ C.al a
theorem Holds.far {C : Cx} {σ : St} {s : Shared} (H : Holds C σ s) {a : Addr} (ha : s.heap.objs.size ≤ a) : Far C σ a := by
  have fn := far_none ha
  have no : ¬ ∃ ob, s.heap.get? a = some ob := fun ⟨ob, h⟩ => by rw [fn] at h; cases h
  refine ⟨fun hm => ?_, ?_, fun o hk => no ⟨o, H.kp _ _ hk⟩, fun ha => no (H.al _ ha)⟩
  · rcases List.mem_append.mp hm with hm | hm
    · obtain ⟨p, hp, e⟩ := List.mem_map.mp hm
      exact no (e ▸ (H.own p hp).alive)
    · exact no (H.alive _ hm)
  · cases e : σ.B a with
    | none => rfl
    | some mo => exact absurd (H.B _ _ e).alive no
theorem Holds.fshAt {C : Cx} {hb : Heap} {σ : St} {s : Shared} {a : Addr} (OK : C.Ok hb) (H : Holds C σ s) (ha : s.heap.objs.size ≤ a) : Fsh C.mod σ a :=
  ⟨fun hm => (H.far ha).2.2.2 (OK.modAl _ hm), (H.far ha).2.1, fun hm => (H.far ha).1 (List.mem_append_left _ hm)⟩
theorem Holds.fsh {C : Cx} {hb : Heap} {σ : St} {s : Shared} (OK : C.Ok hb) (H : Holds C σ s) : Fsh C.mod σ s.heap.objs.size := H.fshAt OK (Nat.le_refl _)
theorem Holds.addO {C : Cx} {σ : St} {s : Shared} {a : Addr} {mo : MO} (H : Holds C σ s) (f : Far C σ a) (ho : OR s.heap a mo) : Holds C { σ with own := (a, mo) :: σ.own } s where
  kp := H.kp
  names := H.names
  ns := H.ns
  cells := H.cells
  alive := H.alive
  B := H.B
  gens := H.gens
  os := H.os
  al := H.al
  B0 := H.B0
  Bnew := H.Bnew
  noB := H.noB
  own := fun p hp => by
    rcases List.mem_cons.mp hp with rfl | hp
    · exact ho
    · exact H.own p hp
  nodup := List.nodup_cons.mpr ⟨f.1, H.nodup⟩
  apartB := fun b hb => by
    rcases List.mem_cons.mp hb with rfl | hb
    · exact f.2.1
    · exact H.apartB b hb
  apartK := fun b hb => by
    rcases List.mem_cons.mp hb with rfl | hb
    · exact f.2.2.1
    · exact H.apartK b hb
  ownNew := fun p hp => by
    rcases List.mem_cons.mp hp with rfl | hp
    · exact .inl f.2.2.2
    · exact H.ownNew p hp
theorem Holds.new {C : Cx} {σ : St} {s : Shared} (H : Holds C σ s) {o : Obj} {mo : MO} (ho : OR (s.heap.push o) s.heap.objs.size mo) :
    Holds C { σ with own := (s.heap.objs.size, mo) :: σ.own } { s with heap := s.heap.push o } := (H.push o).addO (H.far (Nat.le_refl _)) ho

inductive Upd : List (Addr × MO) → Addr → MO → MO → List (Addr × MO) → Prop
  | head {a : Addr} {o o' : MO} {r : List (Addr × MO)} : Upd ((a, o) :: r) a o o' ((a, o') :: r)
  | tail {a : Addr} {o o' : MO} {p : Addr × MO} {r r' : List (Addr × MO)} : Upd r a o o' r' → Upd (p :: r) a o o' (p :: r')
theorem Upd.keys {l l' : List (Addr × MO)} {a : Addr} {o o' : MO} (u : Upd l a o o' l') : l'.map (·.1) = l.map (·.1) := by
  induction u with
  | head => rfl
  | tail _ ih => simp [ih]
theorem Upd.mem {l l' : List (Addr × MO)} {a : Addr} {o o' : MO} (u : Upd l a o o' l') : (a, o) ∈ l := by
  induction u with
  | head => exact .head _
  | tail _ ih => exact .tail _ ih
theorem Upd.back {l l' : List (Addr × MO)} {a : Addr} {o o' : MO} (u : Upd l a o o' l') : ∀ p ∈ l', ∃ q ∈ l, q.1 = p.1 := by
  intro p hp
  have : p.1 ∈ l'.map (·.1) := List.mem_map.mpr ⟨p, hp, rfl⟩
  rw [u.keys] at this
  obtain ⟨q, hq, e⟩ := List.mem_map.mp this
  exact ⟨q, hq, e⟩
theorem Upd.cases {l l' : List (Addr × MO)} {a : Addr} {o o' : MO} (u : Upd l a o o' l') (nd : (l.map (·.1)).Nodup) : ∀ p ∈ l', p = (a, o') ∨ (p ∈ l ∧ p.1 ≠ a) := by
  induction u with
  | head =>
    intro p hp
    rcases List.mem_cons.mp hp with rfl | hp
    · exact .inl rfl
    · refine .inr ⟨.tail _ hp, fun e => ?_⟩
      have := (List.nodup_cons.mp nd).1
      exact this (List.mem_map.mpr ⟨p, hp, e⟩)
  | tail u ih =>
    intro p hp
    have nd' := List.nodup_cons.mp nd
    rcases List.mem_cons.mp hp with rfl | hp
    · refine .inr ⟨.head _, fun e => nd'.1 ?_⟩
      exact List.mem_map.mpr ⟨_, u.mem, e.symm⟩
    · rcases ih nd'.2 p hp with h | ⟨h1, h2⟩
      · exact .inl h
      · exact .inr ⟨.tail _ h1, h2⟩

theorem NameIs.extBut {env : Env} {h h' : Heap} {x : Str} {v : MV} {a : Addr} (n : NameIs env h x v) (e : ∀ b o, b ≠ a → h.get? b = some o → h'.get? b = some o)
    (hl : env.locals ≠ a) (hc : ∀ c, env.cells.lookup x = some c → c ≠ a) : NameIs env h' x v := by
  rcases n with ⟨hk, m, u, hn, hm, hv⟩ | ⟨hk, c, u, hc', hu, hv⟩
  · exact .inl ⟨hk, m, u, hn.extBut e hl, hm, hv⟩
  · obtain ⟨o, h1, h2⟩ := hu
    exact .inr ⟨hk, c, u, hc', ⟨o, e _ _ (hc c hc') h1, h2⟩, hv⟩

theorem Holds.upd {C : Cx} {hb : Heap} {σ : St} {s s' : Shared} (OK : C.Ok hb) (H : Holds C σ s) {a : Addr} {o o' : MO} {own' : List (Addr × MO)} (u : Upd σ.own a o o' own')
    (e : ∀ b ob, b ≠ a → s.heap.get? b = some ob → s'.heap.get? b = some ob) (ho : OR s'.heap a o') (hg : s'.gens = s.gens) (hos : s'.os = s.os) :
    Holds C { σ with own := own' } s' := by
  have ma : a ∈ σ.own.map (·.1) := List.mem_map_of_mem (f := (·.1)) u.mem
  have ma' : a ∈ σ.own.map (·.1) ++ C.fr := List.mem_append_left _ ma
  have nfr : ∀ b ∈ C.fr, b ≠ a := fun b hb' e' => by
    subst e'
    exact (List.nodup_append.mp H.nodup).2.2 _ ma _ hb' rfl
  have cne : ∀ x c, C.env.cells.lookup x = some c → c ≠ a := fun x c hc => by
    rcases OK.cellsIn x c hc with h | ⟨ob, h⟩
    · exact nfr c h
    · exact fun e' => H.apartK a ma' ob (e' ▸ h)
  have lne : C.env.locals ≠ a := nfr _ OK.locals
  exact {
    kp := fun b ob h => e _ _ (fun e' => H.apartK a ma' ob (e' ▸ h)) (H.kp _ _ h)
    names := fun x v h => (H.names x v h).extBut e lne (cne x)
    ns := let ⟨m, h⟩ := H.ns; ⟨m, h.extBut e lne⟩
    cells := fun x c h => let ⟨v, ob, h1, h2⟩ := H.cells x c h; ⟨v, ob, e _ _ (cne x c h) h1, h2⟩
    alive := fun b hb' => let ⟨ob, h⟩ := H.alive b hb'; ⟨ob, e _ _ (nfr b hb') h⟩
    B := fun b ob h => (H.B b ob h).at fun oo ho' => e _ _ (fun e' => by rw [e', H.apartB a ma'] at h; cases h) ho'
    own := fun p hp => by
      rcases u.cases (List.nodup_append.mp H.nodup).1 p hp with rfl | ⟨h1, h2⟩
      · exact ho
      · exact (H.own p h1).at fun oo ho' => e _ _ h2 ho'
    nodup := by show (own'.map (·.1) ++ C.fr).Nodup; rw [u.keys]; exact H.nodup
    apartB := by show ∀ b ∈ own'.map (·.1) ++ C.fr, _; rw [u.keys]; exact H.apartB
    apartK := by show ∀ b ∈ own'.map (·.1) ++ C.fr, _; rw [u.keys]; exact H.apartK
    gens := hg.trans H.gens
    os := hos.trans H.os
    al := fun b hb' => by
      by_cases hba : b = a
      · subst hba; exact ho.alive
      · obtain ⟨ob, hob⟩ := H.al b hb'; exact ⟨ob, e _ _ hba hob⟩
    B0 := H.B0
    Bnew := H.Bnew
    noB := H.noB
    ownNew := fun p hp => let ⟨q, hq, e'⟩ := u.back p hp; e' ▸ H.ownNew q hq }

/-! trees -/
def Tr {α β : Type} (C : Cx) (t : Sem α) (R : β → α → Prop) (σ : St) (Q : β → St → Prop) : Prop :=
  ∀ s, Holds C σ s → wpAny (model C.prog C.w) C.A t (fun a s' => ∃ b σ', R b a ∧ Holds C σ' s' ∧ Q b σ') (fun _ _ => False) s

theorem Tr.mono {α β : Type} {C : Cx} {t : Sem α} {R : β → α → Prop} {σ : St} {Q Q' : β → St → Prop} (h : Tr C t R σ Q) (hq : ∀ b σ', Q b σ' → Q' b σ') : Tr C t R σ Q' :=
  fun s H => wpAny_mono (h s H) (fun _ _ ⟨b, σ', h1, h2, h3⟩ => ⟨b, σ', h1, h2, hq _ _ h3⟩) fun _ _ x => x
theorem Tr.pure {α β : Type} {C : Cx} {a : α} {b : β} {R : β → α → Prop} {σ : St} {Q : β → St → Prop} (hr : R b a) (h : Q b σ) : Tr C (pure a) R σ Q :=
  fun s H => wpAny_pure ⟨b, σ, hr, H, h⟩

end Mine
set_option autoImplicit false
set_option linter.unusedVariables false
namespace Mine
open PySem

def Ex (C : Cx) (e : Expr) (σ : St) (Q : MV → St → Prop) : Prop := Tr C (eval e C.env) VR σ Q
def Ts (C : Cx) (e : Expr) (σ : St) (Q : Bool → St → Prop) : Prop := Tr C (isTrue e C.env (eval e C.env)) (fun b a => b = a) σ Q
def Bin (C : Cx) (op : Operator) (a b : MV) (σ : St) (Q : MV → St → Prop) : Prop := ∀ va vb, VR a va → VR b vb → Tr C (binaryOp op va vb) VR σ Q
def Cmp (C : Cx) (op : CmpOp) (a b : MV) (σ : St) (Q : MV → St → Prop) : Prop := ∀ va vb, VR a va → VR b vb → Tr C (compareOp op va vb) VR σ Q
def Trt (C : Cx) (v : MV) (σ : St) (Q : Bool → St → Prop) : Prop := ∀ va, VR v va → Tr C (truthy va) (fun b a => b = a) σ Q
def Una (C : Cx) (op : UnaryOp) (v : MV) (σ : St) (Q : MV → St → Prop) : Prop := ∀ va, VR v va → Tr C (unaryOp op va) VR σ Q
def Exs (C : Cx) (pos : Pos) (es : List Expr) (σ : St) (Q : List MV → St → Prop) : Prop := Tr C (spliced (backTo pos (starEach es C.env))) VsR σ Q
def CallV (C : Cx) (f : Value) (args : List MV) (σ : St) (Q : MV → St → Prop) : Prop := ∀ vs, VsR args vs → Tr C (call f vs) VR σ Q
def Sub (C : Cx) (o i : MV) (σ : St) (Q : MV → St → Prop) : Prop := ∀ vo vi, VR o vo → VR i vi → Tr C (getItem vo vi) VR σ Q

inductive MF where
  | next | ret (v : MV)
def FR : MF → Flow → Prop
  | .next, f => f = .next
  | .ret m, f => ∃ v, f = .ret v ∧ VR m v
def Stm (C : Cx) (st : Stmt) (σ : St) (Q : MF → St → Prop) : Prop := Tr C (exec st C.env) FR σ Q
def Sts (C : Cx) (sts : List Stmt) (σ : St) (Q : MF → St → Prop) : Prop := Tr C (execs sts C.env) FR σ Q

section
variable {C : Cx} {hb : Heap} {σ : St}

/-! statements -/
theorem Sts_nil {Q : MF → St → Prop} (h : Q .next σ) : Sts C [] σ Q := Tr.pure (b := MF.next) (R := FR) rfl h
theorem Sts_cons {st : Stmt} {rest : List Stmt} {Q : MF → St → Prop}
    (h : Stm C st σ (fun f σ' => match f with | .next => Sts C rest σ' Q | .ret v => Q (.ret v) σ')) : Sts C (st :: rest) σ Q := fun s H => by
  refine wpAny_execs_cons (wpAny_mono (h s H) (fun f s' hpat => ?_) fun _ _ x => x)
  obtain ⟨b, σ', h1, h2, h3⟩ := hpat
  cases b with
  | next => obtain rfl : f = .next := h1; exact h3 s' h2
  | ret m => obtain ⟨v, rfl, hv⟩ := h1; exact ⟨.ret m, σ', ⟨v, rfl, hv⟩, h2, h3⟩

theorem Stm_If {test : Expr} {body orelse : List Stmt} {pos : Pos} {Q : MF → St → Prop}
    (h : Ts C test σ (fun b σ' => if b then Sts C body σ' Q else Sts C orelse σ' Q)) : Stm C (.If test body orelse pos) σ Q := fun s H => by
  refine wpAny_If (wpAny_mono (h s H) (fun b s' hpat => ?_) fun _ _ x => x)
  obtain ⟨b', σ', h1, h2, h3⟩ := hpat
  subst h1
  cases b' with
  | true => exact h3 s' h2
  | false => exact h3 s' h2
theorem Stm_Return {e : Expr} {pos : Pos} {Q : MF → St → Prop} (h : Ex C e σ (fun v σ' => Q (.ret v) σ')) : Stm C (.Return (some e) pos) σ Q := fun s H => by
  refine wpAny_Return_some (wpAny_mono (h s H) (fun v s' ⟨m, σ', h1, h2, h3⟩ => ⟨.ret m, σ', ⟨v, rfl, h1⟩, h2, h3⟩) fun _ _ x => x)
/-! expressions -/
theorem Ex_int {i : Int} {k : Nat} {pos : Pos} {Q : MV → St → Prop} (h : Q (.int i) σ) : Ex C (.Constant (.int i) k pos) σ Q := fun s H =>
  wpAny_Constant_int ⟨.int i, σ, ⟨_, rfl⟩, H.toks _, h⟩
theorem Ex_str {x : Str} {k : Nat} {pos : Pos} {Q : MV → St → Prop} (h : Q (.str x) σ) : Ex C (.Constant (.str x) k pos) σ Q := fun s H =>
  wpAny_Constant_str ⟨.str x, σ, ⟨_, rfl⟩, H.toks _, h⟩
theorem Ex_none {k : Nat} {pos : Pos} {Q : MV → St → Prop} (h : Q .none σ) : Ex C (.Constant .none k pos) σ Q := fun s H =>
  wpAny_Constant_none ⟨.none, σ, rfl, H, h⟩
theorem Ex_bool {b : Bool} {k : Nat} {pos : Pos} {Q : MV → St → Prop} (h : Q (.bool b) σ) : Ex C (.Constant (.bool b) k pos) σ Q := fun s H =>
  wpAny_Constant_bool ⟨.bool b, σ, rfl, H, h⟩
theorem Ex_BinOp {l r : Expr} {op : Operator} {pos : Pos} {Q : MV → St → Prop} (h : Ex C l σ (fun a σ₁ => Ex C r σ₁ (fun b σ₂ => Bin C op a b σ₂ Q))) : Ex C (.BinOp l op r pos) σ Q := fun s H =>
  wpAny_BinOp (wpAny_mono (h s H) (fun va s₁ ⟨a, σ₁, ha, H₁, h₁⟩ => wpAny_mono (h₁ s₁ H₁) (fun vb s₂ ⟨b, σ₂, hb, H₂, h₂⟩ => h₂ va vb ha hb s₂ H₂) fun _ _ x => x) fun _ _ x => x)
theorem Ex_Compare {l r : Expr} {op : CmpOp} {pos : Pos} {Q : MV → St → Prop} (hm : behindInMarks op r = false)
    (h : Ex C l σ (fun a σ₁ => Ex C r σ₁ (fun b σ₂ => Cmp C op a b σ₂ Q))) : Ex C (.Compare l [op] [r] pos) σ Q := fun s H =>
  wpAny_Compare1 (hm := hm) (wpAny_mono (h s H) (fun va s₁ ⟨a, σ₁, ha, H₁, h₁⟩ => wpAny_mono (h₁ s₁ H₁) (fun vb s₂ ⟨b, σ₂, hb, H₂, h₂⟩ => h₂ va vb ha hb s₂ H₂) fun _ _ x => x) fun _ _ x => x)
theorem Ts_Compare {l r : Expr} {op : CmpOp} {pos : Pos} {Q : Bool → St → Prop} (hm : behindInMarks op r = false)
    (h : Ex C l σ (fun a σ₁ => Ex C r σ₁ (fun b σ₂ => Cmp C op a b σ₂ (fun c σ₃ => Trt C c σ₃ Q)))) : Ts C (.Compare l [op] [r] pos) σ Q := fun s H =>
  wpAny_isTrue_Compare1 (hm := hm) (wpAny_mono (h s H) (fun va s₁ ⟨a, σ₁, ha, H₁, h₁⟩ => wpAny_mono (h₁ s₁ H₁) (fun vb s₂ ⟨b, σ₂, hb, H₂, h₂⟩ =>
    wpAny_mono (h₂ va vb ha hb s₂ H₂) (fun vc s₃ ⟨c, σ₃, hc, H₃, h₃⟩ => h₃ vc hc s₃ H₃) fun _ _ x => x) fun _ _ x => x) fun _ _ x => x)
theorem Ts_Not {e : Expr} {pos : Pos} {Q : Bool → St → Prop} (h : Ts C e σ (fun b σ' => Q (!b) σ')) : Ts C (.UnaryOp .Not e pos) σ Q := fun s H =>
  wpAny_isTrue_Not (wpAny_mono (h s H) (fun b s' ⟨b', σ', h1, h2, h3⟩ => ⟨!b', σ', by rw [h1], h2, h3⟩) fun _ _ x => x)
theorem Ts_And_nil {pos : Pos} {Q : Bool → St → Prop} (h : Q true σ) : Ts C (.BoolOp .And [] pos) σ Q := fun s H => wpAny_isTrue_BoolOp (wpAny_allTrue_And_nil ⟨true, σ, rfl, H, h⟩)
theorem Ts_And {x : Expr} {rest : List Expr} {pos : Pos} {Q : Bool → St → Prop} (h : Ts C x σ (fun b σ' => if b then Ts C (.BoolOp .And rest pos) σ' Q else Q false σ')) :
    Ts C (.BoolOp .And (x :: rest) pos) σ Q := fun s H => by
  refine wpAny_isTrue_BoolOp (wpAny_allTrue_And_cons (wpAny_mono (h s H) (fun b s' hpat => ?_) fun _ _ x => x))
  obtain ⟨b', σ', h1, h2, h3⟩ := hpat
  subst h1
  cases b' with
  | true => exact h3 s' h2
  | false => exact ⟨false, σ', rfl, h2, h3⟩
theorem Ts_Or_nil {pos : Pos} {Q : Bool → St → Prop} (h : Q false σ) : Ts C (.BoolOp .Or [] pos) σ Q := fun s H => wpAny_isTrue_BoolOp (wpAny_allTrue_Or_nil ⟨false, σ, rfl, H, h⟩)
theorem Ts_Or {x : Expr} {rest : List Expr} {pos : Pos} {Q : Bool → St → Prop} (h : Ts C x σ (fun b σ' => if b then Q true σ' else Ts C (.BoolOp .Or rest pos) σ' Q)) :
    Ts C (.BoolOp .Or (x :: rest) pos) σ Q := fun s H => by
  refine wpAny_isTrue_BoolOp (wpAny_allTrue_Or_cons (wpAny_mono (h s H) (fun b s' hpat => ?_) fun _ _ x => x))
  obtain ⟨b', σ', h1, h2, h3⟩ := hpat
  subst h1
  cases b' with
  | true => exact ⟨true, σ', rfl, h2, h3⟩
  | false => exact h3 s' h2
def plainTest : Expr → Bool
  | .UnaryOp .Not _ _ | .BoolOp .. | .IfExp .. | .Compare .. => false
  | _ => true
theorem isTrue_plainTest {e : Expr} {env : Env} {whole : Sem Value} (h : plainTest e = true) : isTrue e env whole = (do let v ← whole; standAt e.pos; holding [v] (truthy v)) := by
  cases e <;> first | rfl | (simp [plainTest] at h; done) | (rename_i op _ _; cases op <;> first | rfl | simp [plainTest] at h)
theorem Ts_val {e : Expr} {Q : Bool → St → Prop} (he : plainTest e = true) (h : Ex C e σ (fun v σ' => Trt C v σ' Q)) : Ts C e σ Q := fun s H => by
  refine wpAny_isTrue_value (wpAny_mono (h s H) (fun v s' ⟨m, σ', h1, h2, h3⟩ => h3 v h1 s' h2) fun _ _ x => x) (isTrue_plainTest he)
theorem Ex_UnaryOp {op : UnaryOp} {x : Expr} {pos : Pos} {Q : MV → St → Prop} (h : Ex C x σ (fun v σ' => Una C op v σ' Q)) : Ex C (.UnaryOp op x pos) σ Q := fun s H =>
  wpAny_UnaryOp (wpAny_mono (h s H) (fun v s' ⟨m, σ', h1, h2, h3⟩ => h3 v h1 s' h2) fun _ _ x => x)
theorem Una_Not {v : MV} {Q : MV → St → Prop} (h : Trt C v σ (fun b σ' => Q (.bool (!b)) σ')) : Una C .Not v σ Q := fun va hv s H =>
  not_value (wpAny_mono (h va hv s H) (fun b s' ⟨b', σ', h1, h2, h3⟩ => ⟨.bool (!b'), σ', by rw [h1]; rfl, h2, h3⟩) fun _ _ x => x)
/-- boolean connectives as values: the operands are bools -/
theorem Ex_And2 {x y : Expr} {pos : Pos} {Q : MV → St → Prop} (h : Ex C x σ (fun v σ₁ => Trt C v σ₁ (fun t σ₂ => if t then Ex C y σ₂ Q else Q v σ₂))) : Ex C (.BoolOp .And [x, y] pos) σ Q := fun s H => by
  refine wpAny_And2 (wpAny_mono (h s H) (fun v s₁ ⟨m, σ₁, h1, h2, h3⟩ => wpAny_mono (h3 v h1 s₁ h2) (fun t s₂ hpat => ?_) fun _ _ x => x) fun _ _ x => x)
  obtain ⟨t', σ₂, g1, g2, g3⟩ := hpat
  subst g1
  cases t' with
  | true => exact g3 s₂ g2
  | false => exact ⟨m, σ₂, h1, g2, g3⟩
theorem Trt_bool {b : Bool} {Q : Bool → St → Prop} (h : Q b σ) : Trt C (.bool b) σ Q := fun va hv s H => by
  obtain rfl : va = .bool b := hv
  exact wpAny_truthy_bool ⟨b, σ, rfl, H, h⟩

/-! operators on ints -/
theorem Bin_add {a b : Int} {Q : MV → St → Prop} (h : Q (.int (a + b)) σ) : Bin C .Add (.int a) (.int b) σ Q := fun va vb ha hb s H => by
  obtain ⟨t, rfl⟩ := ha; obtain ⟨u, rfl⟩ := hb
  exact wpAny_add_int ⟨.int (a + b), σ, ⟨_, rfl⟩, H.toks _, h⟩
theorem Bin_sub {a b : Int} {Q : MV → St → Prop} (h : Q (.int (a - b)) σ) : Bin C .Sub (.int a) (.int b) σ Q := fun va vb ha hb s H => by
  obtain ⟨t, rfl⟩ := ha; obtain ⟨u, rfl⟩ := hb
  exact P.sub_int ⟨.int (a - b), σ, ⟨_, rfl⟩, H.toks _, h⟩

theorem Exs_nil {pos : Pos} {Q : List MV → St → Prop} (h : Q [] σ) : Exs C pos [] σ Q := fun s H => wpAny_items_nil ⟨[], σ, .nil, H, h⟩
theorem Exs_cons {pos : Pos} {e : Expr} {rest : List Expr} {Q : List MV → St → Prop} (he : starEach (e :: rest) C.env = (false, eval e C.env) :: starEach rest C.env)
    (h : Ex C e σ (fun v σ₁ => Exs C pos rest σ₁ (fun vs σ₂ => Q (v :: vs) σ₂))) : Exs C pos (e :: rest) σ Q := fun s H =>
  wpAny_items_cons (he := he) (wpAny_mono (h s H) (fun v s₁ ⟨m, σ₁, h1, h2, h3⟩ => wpAny_mono (h3 s₁ h2) (fun vs s₂ ⟨ms, σ₂, g1, g2, g3⟩ => ⟨m :: ms, σ₂, .cons h1 g1, g2, g3⟩) fun _ _ x => x) fun _ _ x => x)
theorem Ex_List {elts : List Expr} {pos : Pos} {Q : MV → St → Prop} (OK : C.Ok hb) (h : Exs C pos elts σ (fun vs σ' => vs.length ≤ lim ∧ ∀ a, Fsh C.mod σ' a → Q (.ref a) { σ' with own := (a, .list vs) :: σ'.own })) : Ex C (.List elts pos) σ Q := fun s H =>
  wpAny_List (wpAny_mono (h s H) (fun vs s' ⟨ms, σ', h1, h2, h3, h4⟩ => ⟨by rw [← h1.length]; exact Nat.le_trans h3 lim_le, .ref _, _, rfl, h2.new (mo := .list ms) ⟨_, _, Heap.get?_push_size _ rfl, by simpa using h1, h3⟩, h4 _ (h2.fsh OK)⟩) fun _ _ x => x)
theorem Ex_Tuple {elts : List Expr} {k : Nat} {pos : Pos} {Q : MV → St → Prop} (OK : C.Ok hb) (h : Exs C pos elts σ (fun vs σ' => vs.length ≤ lim ∧ ∀ a, Fsh C.mod σ' a → Q (.ref a) { σ' with own := (a, .tup vs) :: σ'.own })) : Ex C (.Tuple elts k pos) σ Q := fun s H =>
  wpAny_Tuple (wpAny_mono (h s H) (fun vs s' ⟨ms, σ', h1, h2, h3, h4⟩ => ⟨by rw [← h1.length]; exact Nat.le_trans h3 lim_le, .ref _, _, rfl, h2.new (mo := .tup ms) ⟨_, _, Heap.get?_push_size _ rfl, by simpa using h1, h3⟩, h4 _ (h2.fsh OK)⟩) fun _ _ x => x)
end
end Mine
set_option autoImplicit false
set_option linter.unusedVariables false
namespace Mine
open PySem

/-! loading of globals, said once for the base heap -/
def Gl (hb : Heap) (x : Str) (m : MV) : Prop :=
  ∃ v, VR m v ∧ (x == ("__debug__" : Str)) = false ∧ ∀ (M : Model) (A : Around) (E : Value → Shared → Prop) (s : Shared) (env : Env) (Q : Value → Shared → Prop),
    env.globals = mainGlobals → env.builtins = builtinsNs → (∀ b o, hb.get? b = some o → s.heap.get? b = some o) → Q v s → wpAny M A (loadGlobal env x) Q E s

theorem Holds.base {C : Cx} {hb : Heap} {σ : St} {s : Shared} (OK : C.Ok hb) (H : Holds C σ s) : ∀ b o, hb.get? b = some o → s.heap.get? b = some o := fun b o h => H.kp b o (OK.base b o h)

section
variable {C : Cx} {hb : Heap} {σ : St}

theorem Ex_global {x : Str} {pos : Pos} {m : MV} {Q : MV → St → Prop} (OK : C.Ok hb) (g : Gl hb x m) (hk : C.env.kindOf x = some .globalImplicit) (h : Q m σ) : Ex C (.Name x pos) σ Q := fun s H => by
  obtain ⟨v, hv, hd, hl⟩ := g
  exact Calls.Name_function_global OK.kind hk (hl _ _ _ _ _ _ OK.globals OK.builtins (H.base OK) ⟨m, σ, hv, H, h⟩) hd

def okName (x : Str) : Bool := !(x == ("__debug__" : Str)) && !(x == ("__classdict__" : Str))
theorem okName_d {x : Str} (h : okName x = true) : (x == ("__debug__" : Str)) = false := by simp [okName] at h; simpa using h.1
theorem okName_c {x : Str} (h : okName x = true) : (x == ("__classdict__" : Str)) = false := by simp [okName] at h; simpa using h.2

theorem Ex_local {x : Str} {pos : Pos} {m : MV} {Q : MV → St → Prop} (OK : C.Ok hb) (hl : look σ.loc x = some m) (hn : okName x = true) (h : Q m σ) : Ex C (.Name x pos) σ Q := fun s H => by
  rcases H.names x m hl with ⟨hk, mm, u, hns, hm, hv⟩ | ⟨hk | hk, c, u, hc, hu, hv⟩
  · exact wpAny_Name (wpAny_loadName_local OK.kind hk hns hm ⟨m, σ, hv, H, h⟩) (okName_d hn)
  · exact wpAny_Name (wpAny_loadName_cell OK.kind hk hc hu ⟨m, σ, hv, H, h⟩) (okName_d hn)
  · exact wpAny_Name (wpAny_loadName_free OK.kind hk hc hu ⟨m, σ, hv, H, h⟩ (okName_c hn)) (okName_d hn)

/-- a store of a name of the frame -/
def Store (C : Cx) (x : Str) (m : MV) (σ : St) (Q : St → Prop) : Prop := ∀ v, VR m v → Tr C (storeName C.env x v) (fun (_ : Unit) (_ : Unit) => True) σ (fun _ σ' => Q σ')

theorem Store_local {x : Str} {m : MV} {Q : St → Prop} (OK : C.Ok hb) (hk : C.env.kindOf x = some .local) (h : Q { σ with loc := put σ.loc x m }) : Store C x m σ Q := fun v hv s H => by
  obtain ⟨mm, hns⟩ := H.ns
  refine wpAny_storeName_local hk hns (fun h' hn' hs' => ?_) (by rw [OK.kind]; rfl)
  refine ⟨(), { σ with loc := put σ.loc x m }, trivial, ?_, h⟩
  have e := hs'.extBut
  have mfr : C.env.locals ∈ σ.own.map (·.1) ++ C.fr := List.mem_append_right _ OK.locals
  have kne : ∀ b o, C.kp b o → b ≠ C.env.locals := fun b o hk' e' => H.apartK _ mfr o (e' ▸ hk')
  exact {
    kp := fun b o hk' => e _ _ (kne b o hk') (H.kp _ _ hk')
    names := fun y u hy => by
      rw [look_put] at hy
      by_cases hxy : y = x
      · subst hxy; rw [if_pos rfl] at hy; cases hy
        exact .inl ⟨hk, _, v, hn', by simp, hv⟩
      · rw [if_neg hxy] at hy
        rcases H.names y u hy with ⟨hk2, m2, u2, hns2, hm2, hv2⟩ | ⟨hk2, c, u2, hc, hu, hv2⟩
        · refine .inl ⟨hk2, _, u2, hn', ?_, hv2⟩
          show (if y = x then some v else mm y) = some u2
          rw [if_neg hxy]
          obtain ⟨o1, es1, ep1, a1, b1, c1, d1⟩ := hns
          obtain ⟨o2, es2, ep2, a2, b2, c2, d2⟩ := hns2
          rw [a1] at a2; cases a2; rw [b1] at b2; cases b2
          rw [← d1, d2]; exact hm2
        · obtain ⟨ob, o1, o2⟩ := hu
          exact .inr ⟨hk2, c, u2, hc, ⟨ob, e _ _ (OK.cellsNe y c hc) o1, o2⟩, hv2⟩
    ns := ⟨_, hn'⟩
    cells := fun y c hc => let ⟨u, ob, o1, o2⟩ := H.cells y c hc; ⟨u, ob, e _ _ (OK.cellsNe y c hc) o1, o2⟩
    alive := fun a ha => by
      by_cases hal : a = C.env.locals
      · subst hal; obtain ⟨o, es, ep, ho, _⟩ := hn'; exact ⟨o, ho⟩
      · obtain ⟨o, ho⟩ := H.alive a ha; exact ⟨o, e _ _ hal ho⟩
    B := fun a o ha => (H.B a o ha).at fun ob hob => e _ _ (fun e' => by rw [e', H.apartB _ mfr] at ha; cases ha) hob
    own := fun p hp => (H.own p hp).at fun ob hob => e _ _ (fun e' => (List.nodup_append.mp H.nodup).2.2 _ (List.mem_map.mpr ⟨p, hp, rfl⟩) _ OK.locals e') hob
    al := fun a ha => by
      by_cases hal : a = C.env.locals
      · subst hal; obtain ⟨o, es, ep, ho, _⟩ := hn'; exact ⟨o, ho⟩
      · obtain ⟨o, ho⟩ := H.al a ha; exact ⟨o, e _ _ hal ho⟩
    nodup := H.nodup, apartB := H.apartB, apartK := H.apartK, gens := H.gens, os := H.os, B0 := H.B0, Bnew := H.Bnew, ownNew := H.ownNew, noB := H.noB }

theorem Store_cell {x : Str} {m : MV} {Q : St → Prop} (OK : C.Ok hb) (hk : C.env.kindOf x = some .cell) (hc : ∃ c, C.env.cells.lookup x = some c ∧ c ∈ C.fr) (h : Q { σ with loc := put σ.loc x m }) : Store C x m σ Q := fun v hv s H => by
  obtain ⟨c, hc, hfr⟩ := hc
  obtain ⟨u0, hu0⟩ := H.cells x c hc
  refine wpAny_storeName_cell OK.kind hk hc hu0 fun h' hn' hs' => ?_
  refine ⟨(), { σ with loc := put σ.loc x m }, trivial, ?_, h⟩
  have e := hs'.extBut
  have mfr : c ∈ σ.own.map (·.1) ++ C.fr := List.mem_append_right _ hfr
  have lne : C.env.locals ≠ c := fun e' => OK.cellsNe x c hc e'.symm
  exact {
    kp := fun b o hk' => e _ _ (fun e' => H.apartK _ mfr o (e' ▸ hk')) (H.kp _ _ hk')
    names := fun y u hy => by
      rw [look_put] at hy
      by_cases hxy : y = x
      · subst hxy; rw [if_pos rfl] at hy; cases hy
        exact .inr ⟨.inl hk, c, v, hc, hn', hv⟩
      · rw [if_neg hxy] at hy
        exact (H.names y u hy).extBut e lne fun c' hc' e' => hxy (OK.cellsInj y x c (e' ▸ hc') hc)
    ns := let ⟨mm, hns⟩ := H.ns; ⟨mm, hns.extBut e lne⟩
    cells := fun y c' hc' => by
      by_cases hcc : c' = c
      · subst hcc; exact ⟨_, hn'⟩
      · obtain ⟨u, ob, o1, o2⟩ := H.cells y c' hc'; exact ⟨u, ob, e _ _ hcc o1, o2⟩
    alive := fun a ha => by
      by_cases hal : a = c
      · subst hal; obtain ⟨o, ho, _⟩ := hn'; exact ⟨o, ho⟩
      · obtain ⟨o, ho⟩ := H.alive a ha; exact ⟨o, e _ _ hal ho⟩
    B := fun a o ha => (H.B a o ha).at fun ob hob => e _ _ (fun e' => by rw [e', H.apartB _ mfr] at ha; cases ha) hob
    own := fun p hp => (H.own p hp).at fun ob hob => e _ _ (fun e' => (List.nodup_append.mp H.nodup).2.2 _ (List.mem_map.mpr ⟨p, hp, rfl⟩) _ hfr e') hob
    al := fun a ha => by
      by_cases hal : a = c
      · subst hal; obtain ⟨o, ho, _⟩ := hn'; exact ⟨o, ho⟩
      · obtain ⟨o, ho⟩ := H.al a ha; exact ⟨o, e _ _ hal ho⟩
    nodup := H.nodup, apartB := H.apartB, apartK := H.apartK, gens := H.gens, os := H.os, B0 := H.B0, Bnew := H.Bnew, ownNew := H.ownNew, noB := H.noB }

theorem Stm_Assign {x : Str} {p' : Pos} {e : Expr} {pos : Pos} {Q : MF → St → Prop} (hs : swapsWith e (some (.Name x p')) pos.line C.env = pure false)
    (h : Ex C e σ (fun v σ' => Store C x v σ' (fun σ'' => Q .next σ''))) : Stm C (.Assign [.Name x p'] e pos) σ Q := fun s H =>
  wpAny_Assign_Name (hs := hs) (wpAny_mono (h s H) (fun v s₁ ⟨m, σ₁, h1, h2, h3⟩ => wpAny_mono (h3 v h1 s₁ h2) (fun _ s₂ ⟨_, σ₂, _, g2, g3⟩ => ⟨.next, σ₂, rfl, g2, g3⟩) fun _ _ x => x) fun _ _ x => x)

/-! the statement of an expression: no value kept -/
theorem wpAny_dropValue {prog : Program} {w : World} {A : Around} {E : Value → Shared → Prop} {s : Shared} {e : Expr} {pos : Pos} {v : Value} {Q : Flow → Shared → Prop} (h : Q .next s) : wpAny (model prog w) A (dropValue e pos v) Q E s := by
  unfold dropValue
  split
  · exact wpAny_pure h
  · exact wpAny_bind (wpAny_standAt (wpAny_bind (wpAny_runValue (codeAny_builtin entry_let_go (show wpAny _ _ (ret .none) _ _ s from wpAny_pure (wpAny_pure h))))))
  · exact wpAny_pure h
theorem Stm_Expr {e : Expr} {pos : Pos} {Q : MF → St → Prop} (hi : interactive C.env = false) (hs : swapsWith e none pos.line C.env = pure false)
    (h : Ex C e σ (fun _ σ' => Q .next σ')) : Stm C (.Expr e pos) σ Q := fun s H => by
  show wpAny _ _ (exec (.Expr e pos) C.env) _ _ s
  rw [exec_Expr C.env e pos hi hs]
  exact wpAny_bind (wpAny_standAt (wpAny_bind (wpAny_mono (h s H) (fun v s' ⟨m, σ', h1, h2, h3⟩ => wpAny_dropValue ⟨.next, σ', rfl, h2, h3⟩) fun _ _ x => x)))
end
end Mine
set_option autoImplicit false
set_option linter.unusedVariables false
namespace Mine
open PySem

abbrev MH := Addr → Option MO
abbrev Own := List (Addr × MO)
abbrev Spec := List MV → MH → Own → (MV → MH → Own → Prop) → Prop

/-- what a call promises: with room for n frames, from frozen B and owned own₁ -/
def Contract (prog : Program) (w : World) (hb : Heap) (f : Value) (n : Nat) (S : Spec) : Prop :=
  ∀ (A : Around) (s : Shared) (args : List MV) (vals : List Value) (B : MH) (own₁ : Own) (Q : MV → MH → Own → Prop),
    A.handled = none → A.depth + n < recursionLimit → A.units + 3 * n + 100 < cLine →
    (∀ b o, hb.get? b = some o → s.heap.get? b = some o) → (∀ a o, B a = some o → OR s.heap a o) → (∀ p ∈ own₁, OR s.heap p.1 p.2) → (own₁.map (·.1)).Nodup →
    (∀ a ∈ own₁.map (·.1), B a = none ∧ hb.get? a = none) → VsR args vals → S args B own₁ Q →
    wpAny (model prog w) A (call f vals) (fun v s' => ∃ m B' own', VR m v ∧ (∀ b o, b ∉ own₁.map (·.1) → s.heap.get? b = some o → s'.heap.get? b = some o) ∧ s'.gens = s.gens ∧ s'.os = s.os ∧
      (∀ a, (∃ o, s.heap.get? a = some o) → ∃ o, s'.heap.get? a = some o) ∧
      (∀ a o, B a = some o → B' a = some o) ∧ (∀ a o, B' a = some o → OR s'.heap a o) ∧ (∀ a o, B' a = some o → B a = some o ∨ s.heap.get? a = none) ∧
      (∀ p ∈ own', OR s'.heap p.1 p.2) ∧ (own'.map (·.1)).Nodup ∧ (∀ a ∈ own'.map (·.1), B' a = none ∧ (s.heap.get? a = none ∨ a ∈ own₁.map (·.1))) ∧ Q m B' own') (fun _ _ => False) s

section
variable {C : Cx} {hb : Heap} {σ : St}

theorem Holds.perm {s : Shared} {own' : Own} (H : Holds C σ s) (p : σ.own.Perm own') : Holds C { σ with own := own' } s := by
  have pk : (σ.own.map (·.1)).Perm (own'.map (·.1)) := p.map _
  exact {
    kp := H.kp, names := H.names, ns := H.ns, cells := H.cells, alive := H.alive, B := H.B, gens := H.gens, os := H.os, al := H.al, B0 := H.B0, Bnew := H.Bnew, noB := H.noB
    own := fun q hq => H.own q (p.mem_iff.mpr hq)
    nodup := (pk.append_right C.fr).nodup_iff.mp H.nodup
    apartB := fun a ha => H.apartB a ((pk.append_right C.fr).mem_iff.mpr ha)
    apartK := fun a ha => H.apartK a ((pk.append_right C.fr).mem_iff.mpr ha)
    ownNew := fun q hq => H.ownNew q (p.mem_iff.mpr hq) }

theorem none_of_not_alive {h : Heap} {a : Addr} (e : ¬ ∃ o, h.get? a = some o) : h.get? a = none := by
  cases h' : h.get? a with
  | none => rfl
  | some o => exact absurd ⟨o, h'⟩ e

theorem Holds.called {s s' : Shared} (OK : C.Ok hb) {own₁ rest own' : Own} {B' : MH} (H : Holds C σ s) (hp : σ.own = own₁ ++ rest)
    (k : ∀ b o, b ∉ own₁.map (·.1) → s.heap.get? b = some o → s'.heap.get? b = some o) (hg : s'.gens = s.gens) (hos : s'.os = s.os)
    (al : ∀ a, (∃ o, s.heap.get? a = some o) → ∃ o, s'.heap.get? a = some o)
    (b1 : ∀ a o, σ.B a = some o → B' a = some o) (b2 : ∀ a o, B' a = some o → OR s'.heap a o) (b3 : ∀ a o, B' a = some o → σ.B a = some o ∨ s.heap.get? a = none)
    (o1 : ∀ p ∈ own', OR s'.heap p.1 p.2) (o2 : (own'.map (·.1)).Nodup) (o3 : ∀ a ∈ own'.map (·.1), B' a = none ∧ (s.heap.get? a = none ∨ a ∈ own₁.map (·.1))) :
    Holds C { σ with B := B', own := own' ++ rest } s' := by
  have nd := H.nodup
  rw [hp, List.map_append, List.append_assoc] at nd
  have nd' := List.nodup_append.mp nd
  have aB := H.apartB; have aK := H.apartK; have oN := H.ownNew; have hO := H.own
  rw [hp] at aB aK oN hO
  have in1 : ∀ a, a ∈ own₁.map (·.1) → a ∈ (own₁ ++ rest).map (·.1) ++ C.fr := fun a ha => List.mem_append_left _ (by rw [List.map_append]; exact List.mem_append_left _ ha)
  have inR : ∀ a, a ∈ rest.map (·.1) ++ C.fr → a ∈ (own₁ ++ rest).map (·.1) ++ C.fr := fun a ha => by rw [List.map_append, List.append_assoc]; exact List.mem_append_right _ ha
  have rne : ∀ a, a ∈ rest.map (·.1) ++ C.fr → a ∉ own₁.map (·.1) := fun a ha h1 => nd'.2.2 a h1 a ha rfl
  have frne : ∀ a ∈ C.fr, a ∉ own₁.map (·.1) := fun a ha => rne a (List.mem_append_right _ ha)
  have kne : ∀ b o, C.kp b o → b ∉ own₁.map (·.1) := fun b o hk hm => aK b (in1 b hm) o hk
  have cne : ∀ x c, C.env.cells.lookup x = some c → c ∉ own₁.map (·.1) := fun x c hc => (OK.cellsIn x c hc).elim (frne c) fun ⟨o, ho⟩ => kne c o ho
  have aliveR : ∀ a ∈ rest.map (·.1) ++ C.fr, ∃ o, s.heap.get? a = some o := fun a ha => by
    rcases List.mem_append.mp ha with h | h
    · obtain ⟨p, hp', e⟩ := List.mem_map.mp h
      obtain ⟨ob, hob⟩ := (hO p (List.mem_append_right _ hp')).alive
      exact ⟨ob, e ▸ hob⟩
    · exact H.alive a h
  exact {
    kp := fun b o hk => k b o (kne b o hk) (H.kp b o hk)
    names := fun x v hv => by
      rcases H.names x v hv with ⟨hk, m, u, ⟨o, es, ep, h1, h2⟩, hm, hv'⟩ | ⟨hk, c, u, hc, ⟨ob, h1, h2⟩, hv'⟩
      · exact .inl ⟨hk, m, u, ⟨o, es, ep, k _ _ (frne _ OK.locals) h1, h2⟩, hm, hv'⟩
      · exact .inr ⟨hk, c, u, hc, ⟨ob, k _ _ (cne x c hc) h1, h2⟩, hv'⟩
    ns := let ⟨m, o, es, ep, h1, h2⟩ := H.ns; ⟨m, o, es, ep, k _ _ (frne _ OK.locals) h1, h2⟩
    cells := fun x c hc => let ⟨u, ob, h1, h2⟩ := H.cells x c hc; ⟨u, ob, k _ _ (cne x c hc) h1, h2⟩
    alive := fun a ha => al a (H.alive a ha)
    B := b2
    own := fun p hp' => by
      rcases List.mem_append.mp hp' with h | h
      · exact o1 p h
      · exact (hO p (List.mem_append_right _ h)).at fun ob hob => k _ _ (rne p.1 (List.mem_append_left _ (List.mem_map.mpr ⟨p, h, rfl⟩))) hob
    nodup := by
      show ((own' ++ rest).map (·.1) ++ C.fr).Nodup
      rw [List.map_append, List.append_assoc]
      refine List.nodup_append.mpr ⟨o2, nd'.2.1, fun a ha b hb' e => ?_⟩
      subst e
      rcases (o3 a ha).2 with h | h
      · obtain ⟨ob, hob⟩ := aliveR a hb'; rw [h] at hob; cases hob
      · exact rne a hb' h
    apartB := fun a ha => by
      have ha' : a ∈ own'.map (·.1) ++ (rest.map (·.1) ++ C.fr) := by rw [← List.append_assoc, ← List.map_append]; exact ha
      rcases List.mem_append.mp ha' with h | h
      · exact (o3 a h).1
      · cases e : B' a with
        | none => exact e
        | some o =>
          rcases b3 a o e with h' | h'
          · rw [aB a (inR a h)] at h'; cases h'
          · obtain ⟨ob, hob⟩ := aliveR a h; rw [h'] at hob; cases hob
    apartK := fun a ha o hk => by
      have ha' : a ∈ own'.map (·.1) ++ (rest.map (·.1) ++ C.fr) := by rw [← List.append_assoc, ← List.map_append]; exact ha
      rcases List.mem_append.mp ha' with h | h
      · rcases (o3 a h).2 with h' | h'
        · rw [H.kp a o hk] at h'; cases h'
        · exact aK a (in1 a h') o hk
      · exact aK a (inR a h) o hk
    gens := hg.trans H.gens
    os := hos.trans H.os
    al := fun a ha => al a (H.al a ha)
    B0 := fun a o h => b1 a o (H.B0 a o h)
    noB := fun a ha => by
      cases e : B' a with
      | none => exact e
      | some o =>
        rcases b3 a o e with h | h
        · rw [H.noB a ha] at h; cases h
        · obtain ⟨ob, hob⟩ := OK.noKp a ha; rw [H.kp a ob hob] at h; cases h
    Bnew := fun a o h => by
      rcases b3 a o h with h' | h'
      · exact H.Bnew a o h'
      · exact .inr fun ha => by obtain ⟨ob, hob⟩ := H.al a ha; rw [h'] at hob; cases hob
    ownNew := fun p hp' => by
      rcases List.mem_append.mp hp' with h | h
      · rcases (o3 p.1 (List.mem_map.mpr ⟨p, h, rfl⟩)).2 with h' | h'
        · exact .inl fun ha => by obtain ⟨ob, hob⟩ := H.al _ ha; rw [h'] at hob; cases hob
        · obtain ⟨q, hq, e⟩ := List.mem_map.mp h'
          exact e ▸ oN q (List.mem_append_left _ hq)
      · exact oN p (List.mem_append_right _ h) }

/-- a call of a function with a contract; own₁ is handed over -/
theorem CallV_ct {f : Value} {n : Nat} {S : Spec} {args : List MV} {own₁ rest : Own} {Q : MV → St → Prop} (OK : C.Ok hb) (ct : Contract C.prog C.w hb f n S) (hn : n ≤ C.room)
    (hp : σ.own.Perm (own₁ ++ rest)) (h : S args σ.B own₁ (fun m B' own' => Q m { σ with B := B', own := own' ++ rest })) : CallV C f args σ Q := fun vs hvs s H => by
  have H' := H.perm hp
  have nd := List.nodup_append.mp H'.nodup
  have ndo : ((own₁ ++ rest).map (·.1)).Nodup := nd.1
  rw [List.map_append] at ndo
  have in1 : ∀ a, a ∈ own₁.map (·.1) → a ∈ (own₁ ++ rest).map (·.1) ++ C.fr := fun a ha => List.mem_append_left _ (by rw [List.map_append]; exact List.mem_append_left _ ha)
  refine wpAny_mono (ct C.A s args vs σ.B own₁ _ OK.handled (by have := OK.depth; omega) (by have := OK.units; omega) (H.base OK) H.B (fun p hp' => H'.own p (List.mem_append_left _ hp')) (List.nodup_append.mp ndo).1
    (fun a ha => ⟨H'.apartB a (in1 a ha), none_of_not_alive fun ⟨o, ho⟩ => H'.apartK a (in1 a ha) o (OK.base a o ho)⟩) hvs h) (fun v s' hpat => ?_) fun _ _ x => x
  obtain ⟨m, B', own', h1, k, hg, hos, al, b1, b2, b3, o1, o2, o3, hq⟩ := hpat
  exact ⟨m, _, h1, Holds.called (σ := { σ with own := own₁ ++ rest }) OK H' rfl k hg hos al b1 b2 b3 o1 o2 o3, hq⟩
theorem CallV_ct0 {f : Value} {n : Nat} {S : Spec} {args : List MV} {Q : MV → St → Prop} (OK : C.Ok hb) (ct : Contract C.prog C.w hb f n S) (hn : n ≤ C.room)
    (h : S args σ.B [] (fun m B' own' => Q m { σ with B := B', own := own' ++ σ.own })) : CallV C f args σ Q := CallV_ct (own₁ := []) (rest := σ.own) OK ct hn (List.Perm.refl _) h
end

/-! a function's contract from its body -/
def retOf : MF → MV
  | .next => .none
  | .ret v => v

structure FnIs (hb : Heap) (f : Addr) (ps : List Str) (body : List Stmt) (scope : Scope) : Prop where
  ex : ∃ o fd, hb.get? f = some o ∧ o.data = .func fd ∧ fd.body = .stmts body ∧ fd.scope = scope ∧ fd.closure = [] ∧ fd.globals = mainGlobals ∧ fd.builtins = builtinsNs ∧ hb.CodeRec fd.code fd.qualname ∧
    (∀ vals : List Value, vals.length = ps.length → bindArgs fd ⟨vals, []⟩ = pure (ps.zip vals))
  co : scope.isCoroutine = false
  gen : scope.isGenerator = false
  kind : scope.kind = .function
  pkind : ∀ x ∈ ps, scope.names.lookup x = some .local ∨ scope.names.lookup x = some .cell
  nodup : ps.Nodup
  ndNames : (scope.names.map (·.1)).Nodup
  noFree : ∀ x, scope.names.lookup x ≠ some .free

theorem cellsFrom_acc {x : Str} : ∀ (names : List (Str × NameKind)) (n : Nat) (acc : List (Str × Addr)), names.lookup x = some .cell ∨ (acc.lookup x).isSome = true → ((cellsFrom n names acc).lookup x).isSome = true
  | [], _, _, h => h.elim (fun e => by cases e) id
  | (y, k) :: r, n, acc, h => by
    unfold cellsFrom
    split
    · rename_i hk
      refine cellsFrom_acc r (n + 1) _ ?_
      by_cases hy : (x == y) = true
      · exact .inr (by rw [List.lookup_cons, hy]; rfl)
      · have hy' : (x == y) = false := by simpa using hy
        refine h.imp (fun e => ?_) fun e => ?_
        · rw [List.lookup_cons, hy'] at e; exact e
        · rw [List.lookup_cons, hy']; exact e
    · rename_i hk
      refine cellsFrom_acc r n acc ?_
      by_cases hy : (x == y) = true
      · refine .inr (h.elim (fun e => ?_) id)
        rw [List.lookup_cons, hy] at e
        exact absurd (by rw [Option.some.inj e]; rfl) hk
      · have hy' : (x == y) = false := by simpa using hy
        refine h.imp (fun e => ?_) id
        rw [List.lookup_cons, hy'] at e; exact e

theorem cellsFrom_keys : ∀ (names : List (Str × NameKind)) (n : Nat) (acc : List (Str × Addr)), (cellsFrom n names acc).map (·.1) = ((names.filter fun x => x.2 == .cell).map (·.1)).reverse ++ acc.map (·.1)
  | [], _, _ => rfl
  | (y, k) :: r, n, acc => by
    unfold cellsFrom
    split
    · rename_i hk
      rw [cellsFrom_keys r, List.filter_cons]; simp [hk]
    · rename_i hk
      rw [cellsFrom_keys r, List.filter_cons]; simp [hk]
theorem lookup_of_mem : ∀ (l : List (Str × Addr)) (p : Str × Addr), (l.map (·.1)).Nodup → p ∈ l → l.lookup p.1 = some p.2
  | q :: r, p, nd, h => by
    have nd' := List.nodup_cons.mp nd
    rcases List.mem_cons.mp h with e | e
    · subst e; simp [List.lookup]
    · have hne : (p.1 == q.1) = false := by
        cases hb2 : p.1 == q.1 with
        | false => rfl
        | true => exact absurd (List.mem_map.mpr ⟨p, e, beq_iff_eq.mp hb2⟩) nd'.1
      rw [List.lookup_cons, hne]; exact lookup_of_mem r p nd'.2 e

theorem bindL_miss {kindOf : Str → Option NameKind} : ∀ (binds : List (Str × Value)) (acc : Str → Option Value) (x : Str), x ∉ binds.map (·.1) → bindL kindOf binds acc x = acc x
  | [], _, _, _ => rfl
  | (n, v) :: r, acc, x, h => by
    simp only [List.map_cons, List.mem_cons, not_or] at h
    unfold bindL
    rw [bindL_miss r _ x h.2]
    split
    · exact if_neg h.1
    · rfl
theorem bindC_miss {kindOf : Str → Option NameKind} : ∀ (binds : List (Str × Value)) (acc : Str → Option Value) (x : Str), x ∉ binds.map (·.1) → bindC kindOf binds acc x = acc x
  | [], _, _, _ => rfl
  | (n, v) :: r, acc, x, h => by
    simp only [List.map_cons, List.mem_cons, not_or] at h
    unfold bindC
    rw [bindC_miss r _ x h.2]
    split
    · rfl
    · exact if_neg h.1
theorem bindL_hit {kindOf : Str → Option NameKind} : ∀ (binds : List (Str × Value)) (acc : Str → Option Value) (x : Str) (v : Value), (binds.map (·.1)).Nodup → (x, v) ∈ binds → kindOf x = some .local → bindL kindOf binds acc x = some v
  | (n, u) :: r, acc, x, v, nd, hm, hk => by
    have nd' := List.nodup_cons.mp nd
    unfold bindL
    rcases List.mem_cons.mp hm with e | e
    · cases e
      rw [bindL_miss r _ _ nd'.1, if_pos hk]; exact if_pos rfl
    · exact bindL_hit r _ x v nd'.2 e hk
theorem bindC_hit {kindOf : Str → Option NameKind} : ∀ (binds : List (Str × Value)) (acc : Str → Option Value) (x : Str) (v : Value), (binds.map (·.1)).Nodup → (x, v) ∈ binds → kindOf x = some .cell → bindC kindOf binds acc x = some v
  | (n, u) :: r, acc, x, v, nd, hm, hk => by
    have nd' := List.nodup_cons.mp nd
    unfold bindC
    rcases List.mem_cons.mp hm with e | e
    · cases e
      rw [bindC_miss r _ _ nd'.1, if_neg (by rw [hk]; simp)]; exact if_pos rfl
    · exact bindC_hit r _ x v nd'.2 e hk

theorem look_zip {ps : List Str} : ∀ {args : List MV} {vals : List Value}, VsR args vals → ∀ {x : Str} {m : MV}, look (ps.zip args) x = some m → x ∈ ps ∧ ∃ v, (x, v) ∈ ps.zip vals ∧ VR m v := by
  induction ps with
  | nil => intro args vals _ x m h; simp [look] at h
  | cons p r ih =>
    intro args vals hv x m h
    cases hv with
    | nil => simp [look] at h
    | cons h1 h2 =>
      simp only [List.zip_cons_cons, look] at h
      by_cases hx : x = p
      · subst hx; rw [if_pos rfl] at h; cases h
        exact ⟨.head _, _, .head _, h1⟩
      · rw [if_neg hx] at h
        obtain ⟨e1, v, e2, e3⟩ := ih h2 h
        exact ⟨.tail _ e1, v, .tail _ e2, e3⟩

theorem zip_keys {α : Type} : ∀ {ps : List Str} {vs : List α}, vs.length = ps.length → (ps.zip vs).map (·.1) = ps
  | [], [], _ => rfl
  | p :: ps, v :: vs, h => by simp only [List.zip_cons_cons, List.map_cons]; rw [zip_keys (by simpa using h)]
  | [], _ :: _, h => by simp at h
  | _ :: _, [], h => by simp at h

theorem Contract.intro {prog : Program} {w : World} {hb : Heap} {f : Addr} {ps : List Str} {body : List Stmt} {scope : Scope} {n : Nat} {S : Spec} (F : FnIs hb f ps body scope) (hlim : hb.NoLimit)
    (hS : ∀ args B own Q, S args B own Q → args.length = ps.length)
    (h : ∀ (C : Cx), C.Ok hb → C.prog = prog → C.w = w → C.env.scope = scope → C.room = n → (∀ x c, C.env.cells.lookup x = some c → c ∈ C.fr) → (∀ x, scope.names.lookup x = some .cell → ∃ c, C.env.cells.lookup x = some c) →
      ∀ args B own Q, C.mod = own.map (·.1) → C.B0 = B → S args B own Q → Sts C body ⟨ps.zip args, B, own⟩ (fun fl σ' => Q (retOf fl) σ'.B σ'.own)) : Contract prog w hb (.ref f) (n + 1) S := by
  intro A s args vals B own₁ Q hh hd hu hbs hB hO hnd hap hv hs
  obtain ⟨o, fd, ho, hdata, hbody, rfl, hclo, hglob, hbi, hcd, hbind⟩ := F.ex
  have hlen : args.length = ps.length := hS _ _ _ _ hs
  have hvl : vals.length = ps.length := hv.length ▸ hlen
  refine wpAny_call (codeAny_call_cells (by omega) (hbs _ _ ho) hdata (hlim.keeps hbs) (hcd.keeps hbs) hbody (hbind vals hvl) hclo (fun x hx => ?_) (fun s₁ I => ?_) F.co F.gen F.kind)
  · have hm : x.1 ∈ ps := by rw [← zip_keys hvl]; exact List.mem_map.mpr ⟨x, hx, rfl⟩
    rcases F.pkind x.1 hm with h1 | h1
    · exact .inl h1
    · exact .inr ⟨h1, cellsFrom_acc _ _ _ (.inl h1)⟩
  generalize henv : callEnvC fd s.heap.objs.size f = env at I ⊢
  have hsc : env.scope = fd.scope := by rw [← henv]; rfl
  have hL : env.locals = s.heap.objs.size := by rw [← henv]; rfl
  have hcl : env.cells = cellsFrom (s.heap.objs.size + 1) fd.scope.names [] := by rw [← henv]; rfl
  have hgl : env.globals = mainGlobals := by rw [← henv]; exact hglob
  have hbu : env.builtins = builtinsNs := by rw [← henv]; exact hbi
  have keep := I.toInCall.keep
  obtain ⟨h₁, tk, rfl⟩ := I.toInCall.same
  have fresh : ∀ a, s.heap.objs.size ≤ a → s.heap.get? a = none := fun a ha => none_of_not_alive fun ⟨o, ho⟩ => Nat.lt_irrefl _ (Nat.lt_of_lt_of_le (Heap.lt_size ho) ha)
  have cabove : ∀ x c, env.cells.lookup x = some c → s.heap.objs.size < c := fun x c hc => hL ▸ I.above x c (mem_of_lookup hc)
  let C : Cx := Cx.mk prog w (A.deeper env) env (env.locals :: env.cells.map (·.2)) (fun b o => s.heap.get? b = some o ∧ b ∉ own₁.map (·.1)) s.gens s.os n (fun a => ∃ o, s.heap.get? a = some o) (own₁.map (·.1)) B (fun _ => False)
  have frfresh : ∀ a ∈ env.locals :: env.cells.map (·.2), s.heap.get? a = none := fun a ha => by
    rcases List.mem_cons.mp ha with rfl | ha
    · exact fresh _ (hL ▸ Nat.le_refl _)
    · obtain ⟨p, hp, rfl⟩ := List.mem_map.mp ha
      exact fresh _ (hL ▸ Nat.le_of_lt (I.above p.1 p.2 hp))
  have frnd : (env.locals :: env.cells.map (·.2)).Nodup := by
    refine List.nodup_cons.mpr ⟨fun hm => ?_, ?_⟩
    · obtain ⟨p, hp, e⟩ := List.mem_map.mp hm
      exact Nat.lt_irrefl _ (e ▸ I.above p.1 p.2 hp)
    · exact List.Pairwise.map _ (fun a b hab => hab) I.apart
  have OK : C.Ok hb := {
    handled := hh
    depth := by show A.depth + 1 + n < _; omega
    units := by show A.units + 3 + 3 * n + 100 < _; omega
    kind := hsc ▸ F.kind
    globals := hgl, builtins := hbu, locals := .head _
    cellsIn := fun x c hc => .inl (.tail _ (List.mem_map.mpr ⟨(x, c), mem_of_lookup hc, rfl⟩))
    cellsNe := fun x c hc e => Nat.lt_irrefl _ (e ▸ hL ▸ cabove x c hc)
    cellsInj := fun x y c h1 h2 => name_of_addr I.apart (mem_of_lookup h1) (mem_of_lookup h2)
    apart := fun a ha o hk => by have := frfresh a ha; rw [hk.1] at this; cases this
    base := fun b o hbo => ⟨hbs _ _ hbo, fun hm => by rw [(hap b hm).2] at hbo; cases hbo⟩
    modAl := fun a ha => by obtain ⟨p, hp, rfl⟩ := List.mem_map.mp ha; exact (hO p hp).alive
    noKp := fun _ h => h.elim }
  have H : Holds C ⟨ps.zip args, B, own₁⟩ { s with heap := h₁, toks := tk } := {
    kp := fun b o hk => keep b o hk.1
    names := fun x v hx => by
      obtain ⟨hp, u, hm, hr⟩ := look_zip hv hx
      have hz : ((ps.zip vals).map (·.1)).Nodup := by rw [zip_keys hvl]; exact F.nodup
      rcases F.pkind x hp with h1 | h1
      · have hk : env.kindOf x = some .local := by unfold Env.kindOf; rw [hsc]; exact h1
        exact .inl ⟨hk, _, u, I.toInCall.ns, bindL_hit _ _ x u hz hm hk, hr⟩
      · have hk : env.kindOf x = some .cell := by unfold Env.kindOf; rw [hsc]; exact h1
        have hsome := cellsFrom_acc fd.scope.names (s.heap.objs.size + 1) [] (.inl h1)
        rw [← hcl] at hsome
        obtain ⟨c, hc⟩ := Option.isSome_iff_exists.mp hsome
        refine .inr ⟨.inl hk, c, u, hc, ?_, hr⟩
        have := I.cell x c hc
        rw [bindC_hit _ _ x u hz hm hk] at this
        exact this
    ns := ⟨_, I.toInCall.ns⟩
    cells := fun x c hc => ⟨_, I.cell x c hc⟩
    alive := fun a ha => by
      rcases List.mem_cons.mp ha with rfl | ha
      · obtain ⟨o, es, ep, ho, _⟩ := I.toInCall.ns; exact ⟨o, ho⟩
      · obtain ⟨p, hp, rfl⟩ := List.mem_map.mp ha
        have hlk : env.cells.lookup p.1 = some p.2 := by
          refine lookup_of_mem _ p ?_ hp
          rw [hcl, cellsFrom_keys]
          simp only [List.map_nil, List.append_nil]
          refine (List.reverse_perm _).nodup_iff.mpr ?_
          exact List.Sublist.nodup (List.Sublist.map _ List.filter_sublist) F.ndNames
        obtain ⟨ob, h1, _⟩ := I.cell p.1 p.2 hlk
        exact ⟨ob, h1⟩
    B := fun a o ha => (hB a o ha).at fun ob => keep _ _
    own := fun p hp => (hO p hp).at fun ob => keep _ _
    nodup := List.nodup_append.mpr ⟨hnd, frnd, fun a ha b hb' e => by
      subst e
      obtain ⟨p, hp, rfl⟩ := List.mem_map.mp ha
      obtain ⟨ob, hob⟩ := (hO p hp).alive
      rw [frfresh _ hb'] at hob; cases hob⟩
    apartB := fun a ha => by
      rcases List.mem_append.mp ha with h1 | h1
      · exact (hap a h1).1
      · cases e : B a with
        | none => exact e
        | some o => obtain ⟨ob, hob⟩ := (hB a o e).alive; rw [frfresh a h1] at hob; cases hob
    apartK := fun a ha o hk => by
      rcases List.mem_append.mp ha with h1 | h1
      · exact hk.2 h1
      · have := frfresh a h1; rw [hk.1] at this; cases this
    gens := rfl, os := rfl
    al := fun a ⟨o, ho⟩ => ⟨o, keep _ _ ho⟩
    B0 := fun _ _ h => h
    Bnew := fun _ _ h => .inl h
    noB := fun _ h => h.elim
    ownNew := fun p hp => .inr (List.mem_map.mpr ⟨p, hp, rfl⟩) }
  refine wpAny_mono (h C OK rfl rfl hsc rfl (fun x c hc => .tail _ (List.mem_map.mpr ⟨(x, c), mem_of_lookup hc, rfl⟩)) (fun x hx => ?_) args B own₁ Q rfl rfl hs _ H) (fun fl s' ⟨b, σ', hf, H', hq⟩ => ?_) fun _ _ x => x.elim
  · have hsome := cellsFrom_acc fd.scope.names (s.heap.objs.size + 1) [] (.inl hx)
    rw [← hcl] at hsome
    exact Option.isSome_iff_exists.mp hsome
  refine ⟨retOf b, σ'.B, σ'.own, ?_, fun b' o hb' ho' => H'.kp b' o ⟨ho', hb'⟩, H'.gens, H'.os, H'.al, H'.B0, H'.B, fun a o ha => (H'.Bnew a o ha).imp id none_of_not_alive, H'.own, (List.nodup_append.mp H'.nodup).1,
    fun a ha => ⟨H'.apartB a (List.mem_append_left _ ha), ?_⟩, hq⟩
  · cases b with
    | next => obtain rfl : fl = .next := hf; rfl
    | ret m => obtain ⟨v, rfl, hv'⟩ := hf; exact hv'
  · obtain ⟨p, hp, rfl⟩ := List.mem_map.mp ha
    exact (H'.ownNew p hp).imp none_of_not_alive id
end Mine
set_option autoImplicit false
set_option linter.unusedVariables false
namespace Mine
open PySem

/-- what a function's text may know of its frame -/
structure Fx (C : Cx) (hb : Heap) (prog : Program) (w : World) (sc : Scope) (n : Nat) (md : List Addr) (fl : Bool) : Prop where
  ok : C.Ok hb
  eprog : C.prog = prog
  ew : C.w = w
  esc : C.env.scope = sc
  eroom : C.room = n
  emod : C.mod = md
  cell : ∀ x, sc.names.lookup x = some .cell ∨ sc.names.lookup x = some .free → ∃ c, C.env.cells.lookup x = some c
  full : fl = true → ∀ x, sc.names.lookup x = some .cell → ∃ c, C.env.cells.lookup x = some c ∧ c ∈ C.fr

def Cx.hide (C : Cx) (h : Heap) (X wr : List Addr) : Cx := { C with kp := fun b o => C.kp b o ∨ (b ∈ X ∧ h.get? b = some o), no := fun a => C.no a ∨ a ∈ wr }

section
variable {C : Cx} {hb : Heap} {prog : Program} {w : World} {sc : Scope} {n : Nat} {md : List Addr} {fl : Bool} {σ : St}

theorem Cx.Ok.hide (OK : C.Ok hb) {h : Heap} {X wr : List Addr} (hX : ∀ a ∈ X, a ∉ C.fr) (hw : ∀ a ∈ wr, a ∈ X ∧ ∃ o, h.get? a = some o) : (C.hide h X wr).Ok hb where
  handled := OK.handled
  depth := OK.depth
  units := OK.units
  kind := OK.kind
  globals := OK.globals
  builtins := OK.builtins
  locals := OK.locals
  cellsIn := fun x c hc => (OK.cellsIn x c hc).imp id fun ⟨o, ho⟩ => ⟨o, .inl ho⟩
  cellsNe := OK.cellsNe
  cellsInj := OK.cellsInj
  apart := fun a ha o hk => hk.elim (OK.apart a ha o) fun hk => hX a hk.1 ha
  base := fun b o h => .inl (OK.base b o h)
  modAl := OK.modAl
  noKp := fun a ha => ha.elim (fun h => let ⟨o, ho⟩ := OK.noKp a h; ⟨o, .inl ho⟩) fun h => let ⟨h1, o, ho⟩ := hw a h; ⟨o, .inr ⟨h1, ho⟩⟩
theorem Fx.hide (F : Fx C hb prog w sc n md fl) {h : Heap} {X wr : List Addr} (hX : ∀ a ∈ X, a ∉ C.fr) (hw : ∀ a ∈ wr, a ∈ X ∧ ∃ o, h.get? a = some o) : Fx (C.hide h X wr) hb prog w sc n md fl where
  ok := F.ok.hide hX hw
  eprog := F.eprog
  ew := F.ew
  esc := F.esc
  eroom := F.eroom
  emod := F.emod
  cell := F.cell
  full := F.full

theorem Holds.hide {s : Shared} (H : Holds C σ s) {X wr : List Addr} (hX : ∀ a ∈ X, a ∉ σ.own.map (·.1) ++ C.fr) (hw : ∀ a ∈ wr, σ.B a = none) : Holds (C.hide s.heap X wr) σ s where
  kp := fun b o h => h.elim (H.kp b o) fun h => h.2
  names := H.names
  ns := H.ns
  cells := H.cells
  alive := H.alive
  B := H.B
  own := H.own
  nodup := H.nodup
  apartB := H.apartB
  apartK := fun a ha o h => h.elim (H.apartK a ha o) fun h => hX a h.1 ha
  gens := H.gens
  os := H.os
  al := H.al
  B0 := H.B0
  Bnew := H.Bnew
  ownNew := H.ownNew
  noB := fun a ha => ha.elim (H.noB a) (hw a)
theorem Holds.unhide {s : Shared} {h : Heap} {X wr : List Addr} (H : Holds (C.hide h X wr) σ s) : Holds C σ s where
  kp := fun b o h => H.kp b o (.inl h)
  names := H.names
  ns := H.ns
  cells := H.cells
  alive := H.alive
  B := H.B
  own := H.own
  nodup := H.nodup
  apartB := H.apartB
  apartK := fun a ha o h => H.apartK a ha o (.inl h)
  gens := H.gens
  os := H.os
  al := H.al
  B0 := H.B0
  Bnew := H.Bnew
  ownNew := H.ownNew
  noB := fun a ha => H.noB a (.inl ha)

theorem Stm_While {test : Expr} {body orelse : List Stmt} {pos : Pos} {Q : MF → St → Prop} (I : Nat → St → Prop)
    (turn : ∀ k σ', I k σ' → Ts C test σ' (fun b σ₁ => if b then Sts C body σ₁ (fun f σ₂ => match f with | .next => ∃ m, m < k ∧ I m σ₂ | .ret v => Q (.ret v) σ₂) else Sts C orelse σ₁ Q))
    (k : Nat) (h : I k σ) : Stm C (.While test body orelse pos) σ Q := fun s H => by
  refine wpAny_While (codeAny_whileLoop (fun k s => ∃ σ', I k σ' ∧ Holds C σ' s) (fun k s hpat => ?_) k ⟨σ, h, H⟩)
  obtain ⟨σ', hI, H'⟩ := hpat
  refine wpAny_mono (turn k σ' hI s H') (fun b s₂ hpat => ?_) fun _ _ x => x.elim
  obtain ⟨b', σ₁, e, H₁, h₁⟩ := hpat
  subst e
  cases b' with
  | true =>
    refine wpAny_mono (h₁ s₂ H₁) (fun f s₃ hpat => ?_) fun _ _ x => x.elim
    obtain ⟨m, σ₂, hf, H₂, h₂⟩ := hpat
    cases m with
    | next => obtain rfl : f = .next := hf; obtain ⟨j, hj, hI'⟩ := h₂; exact ⟨j, hj, σ₂, hI', H₂⟩
    | ret v => obtain ⟨vv, rfl, hv⟩ := hf; exact ⟨.ret v, σ₂, ⟨vv, rfl, hv⟩, H₂, h₂⟩
  | false =>
    exact wpAny_mono (h₁ s₂ H₁) (fun f s₃ ⟨m, σ₂, hf, H₂, h₂⟩ => ⟨m, σ₂, hf, H₂, h₂⟩) fun _ _ x => x.elim

/-! iteration -/
def Itr (σ : St) (v : MV) (items : List MV) : Prop :=
  ∃ a, v = .ref a ∧ (σ.B a = some (.list items) ∨ (σ.B a = some (.tup items) ∨ ∃ kvs, σ.B a = some (.dict kvs) ∧ items = kvs.map (fun p => keyMV p.1)) ∨ ∃ k : Nat, Has σ a (.range k) ∧ items = (List.range k).map (fun i => MV.int (i : Nat)))

structure Walked (C : Cx) (σ : St) (items : List MV) (I : Addr) (fp wr : List Addr) (P : Nat → Value → Prop) (St : Nat → Heap → Prop) (s : Shared) : Prop where
  walks : Walks C.prog C.w C.A I fp wr items.length P St
  st : St 0 s.heap
  item : ∀ i v, P i v → ∃ m, items[i]? = some m ∧ VR m v
  holds : Holds C σ s
  apart : ∀ a ∈ fp, a ∉ σ.own.map (·.1) ++ C.fr
  alive : ∀ a ∈ fp, ∃ o, s.heap.get? a = some o
  noB : ∀ a ∈ wr, σ.B a = none
  noK : ∀ a ∈ wr, ∀ o, ¬ C.kp a o
  noAl : ∀ a ∈ wr, ¬ C.al a
  stays : ∀ i h, St i h → ∀ a ∈ wr, ∃ o, h.get? a = some o

theorem fresh_facts {s : Shared} (H : Holds C σ s) : s.heap.objs.size ∉ σ.own.map (·.1) ++ C.fr ∧ σ.B s.heap.objs.size = none ∧ (∀ o, ¬ C.kp s.heap.objs.size o) ∧ ¬ C.al s.heap.objs.size := H.far (Nat.le_refl _)

theorem rangeSize_nat (k : Nat) : Builtin.Range.rangeSize 0 k 1 = k := by
  unfold Builtin.Range.rangeSize
  rw [if_pos (by decide)]
  split
  · rw [Int.ediv_one]; omega
  · omega
theorem range_small {k : Nat} (h : k ≤ lim) : Builtin.Range.small 0 k 1 = true := by
  have hl : (k : Int) ≤ 1000000 := by unfold lim at h; omega
  have fit : ∀ i : Int, 0 ≤ i → i ≤ 1000001 → Builtin.Range.rangeFitsLong i = true := fun i h0 h1 => by
    unfold Builtin.Range.rangeFitsLong
    rw [Bool.and_eq_true]
    exact ⟨decide_eq_true (by omega), decide_eq_true (by omega)⟩
  unfold Builtin.Range.small
  rw [rangeSize_nat, fit 0 (by decide) (by decide), fit 1 (by decide) (by decide), fit k (by omega) (by omega), if_pos (by decide), fit (k + (1 - 1)) (by omega) (by omega)]
  simp

theorem Itr.walk (OK : C.Ok hb) {s : Shared} (H : Holds C σ s) {v : MV} {items : List MV} (it : Itr σ v items) {vv : Value} (hv : VR v vv) {Q : Value → Shared → Prop} {E : Value → Shared → Prop}
    (h : ∀ I fp wr P St s₂, Walked C σ items I fp wr P St s₂ → Q (.ref I) s₂) : wpAny (model C.prog C.w) C.A (pyIter vv) Q E s := by
  obtain ⟨a, rfl, it⟩ := it
  obtain rfl : vv = .ref a := hv
  obtain ⟨f1, f2, f3, f4⟩ := fresh_facts H
  have fn := fresh_none s.heap
  rcases it with hB | (hB | ⟨kvs, hB, rfl⟩) | ⟨k, hr, rfl⟩
  · obtain ⟨vs, nn, ho, hr, hlim⟩ := H.B a _ hB
    have hl : s.heap.IsList a vs := ⟨_, ho, rfl, nn, rfl⟩
    have hne : a ≠ s.heap.objs.size := fun e => by rw [e, fn] at ho; cases ho
    refine wpAny_pyIter_list hl (h s.heap.objs.size [s.heap.objs.size, a] [s.heap.objs.size] (fun i v => vs[i]? = some v) (fun i h => h.IsListIter s.heap.objs.size a i ∧ h.IsList a vs) _ ?_)
    have hsz : items.length = vs.size := by simpa using hr.length
    have W := Walks.list (prog := C.prog) (w := C.w) OK.handled s.heap.objs.size a hne vs
    rw [← hsz] at W
    refine { walks := W, st := ⟨⟨_, Heap.get?_push_size _ rfl, rfl, rfl⟩, hl.push _⟩, item := fun i u hu => ?_, holds := H.push _, apart := ?_, alive := ?_, noB := ?_, noK := ?_, noAl := ?_, stays := ?_ }
    · exact hr.getv (by rw [Array.getElem?_toList]; exact hu)
    · intro b hb'
      rcases List.mem_cons.mp hb' with rfl | hb'
      · exact f1
      · rcases List.mem_cons.mp hb' with rfl | hb'
        · exact fun hm => by rw [H.apartB _ hm] at hB; cases hB
        · cases hb'
    · intro b hb'
      rcases List.mem_cons.mp hb' with rfl | hb'
      · exact ⟨_, Heap.get?_push_size _ rfl⟩
      · rcases List.mem_cons.mp hb' with rfl | hb'
        · exact ⟨_, Heap.get?_push_of_some _ ho⟩
        · cases hb'
    · intro b hb'; rcases List.mem_cons.mp hb' with rfl | hb'
      · exact f2
      · cases hb'
    · intro b hb'; rcases List.mem_cons.mp hb' with rfl | hb'
      · exact f3
      · cases hb'
    · intro b hb'; rcases List.mem_cons.mp hb' with rfl | hb'
      · exact f4
      · cases hb'
    · intro i h' st b hb'; rcases List.mem_cons.mp hb' with rfl | hb'
      · obtain ⟨⟨o, ho', _⟩, _⟩ := st; exact ⟨o, ho'⟩
      · cases hb'
  · obtain ⟨vs, nn, ho, hr, hlim⟩ := H.B a _ hB
    have hl : s.heap.IsTuple a vs := ⟨_, ho, rfl, nn, rfl⟩
    have hne : a ≠ s.heap.objs.size := fun e => by rw [e, fn] at ho; cases ho
    refine wpAny_pyIter_tuple hl (h s.heap.objs.size [s.heap.objs.size, a] [s.heap.objs.size] (fun i v => vs[i]? = some v) (fun i h => h.IsTupleIter s.heap.objs.size a i ∧ h.IsTuple a vs) _ ?_)
    have hsz : items.length = vs.size := by simpa using hr.length
    have W := Walks.tuple (prog := C.prog) (w := C.w) OK.handled s.heap.objs.size a hne vs
    rw [← hsz] at W
    refine { walks := W, st := ⟨⟨_, Heap.get?_push_size _ rfl, rfl, rfl⟩, hl.push _⟩, item := fun i u hu => ?_, holds := H.push _, apart := ?_, alive := ?_, noB := ?_, noK := ?_, noAl := ?_, stays := ?_ }
    · exact hr.getv (by rw [Array.getElem?_toList]; exact hu)
    · intro b hb'
      rcases List.mem_cons.mp hb' with rfl | hb'
      · exact f1
      · rcases List.mem_cons.mp hb' with rfl | hb'
        · exact fun hm => by rw [H.apartB _ hm] at hB; cases hB
        · cases hb'
    · intro b hb'
      rcases List.mem_cons.mp hb' with rfl | hb'
      · exact ⟨_, Heap.get?_push_size _ rfl⟩
      · rcases List.mem_cons.mp hb' with rfl | hb'
        · exact ⟨_, Heap.get?_push_of_some _ ho⟩
        · cases hb'
    · intro b hb'; rcases List.mem_cons.mp hb' with rfl | hb'
      · exact f2
      · cases hb'
    · intro b hb'; rcases List.mem_cons.mp hb' with rfl | hb'
      · exact f3
      · cases hb'
    · intro b hb'; rcases List.mem_cons.mp hb' with rfl | hb'
      · exact f4
      · cases hb'
    · intro i h' st b hb'; rcases List.mem_cons.mp hb' with rfl | hb'
      · obtain ⟨⟨o, ho', _⟩, _⟩ := st; exact ⟨o, ho'⟩
      · cases hb'
  · obtain ⟨hms, vk, ⟨p0, w0, hdo⟩, hkv, hlim⟩ := H.B a _ hB
    obtain ⟨ep, hda⟩ := (dictOf_any (p' := C.prog) (w' := C.w) hdo).dictAt
    have ho : ∃ o, s.heap.get? a = some o := let ⟨o, _, h1, _⟩ := hda; ⟨o, h1⟩
    obtain ⟨ob, ho⟩ := ho
    have hne : a ≠ s.heap.objs.size := fun e => by rw [e, fn] at ho; cases ho
    refine wpAny_pyIter_dict hms hda (h s.heap.objs.size [s.heap.objs.size, a] [s.heap.objs.size] (fun i v => ∃ k x, vk[i]? = some (k, x) ∧ (optKind C.prog C.w).is k v = true) (fun i h => h.IsKeyIter s.heap.objs.size a i vk.length ep ∧ h.DictAt (optKind C.prog C.w) a vk ep) _ ?_)
    have hsz : (kvs.map (fun p => keyMV p.1)).length = vk.length := by have := congrArg List.length hkv.k; simpa using this
    have W := Walks.dictKeys (knd := optKind C.prog C.w) OK.handled s.heap.objs.size a hne vk ep
    rw [← hsz] at W
    refine { walks := by rw [← hsz]; exact W, st := ⟨⟨_, Heap.get?_push_size _ rfl, rfl, rfl⟩, hda.push _⟩, item := fun i u hu => ?_, holds := H.push _, apart := ?_, alive := ?_, noB := ?_, noK := ?_, noAl := ?_, stays := ?_ }
    · obtain ⟨k, x, hx, hk⟩ := hu
      have e1 : (kvs.map (·.1))[i]? = some k := by rw [hkv.k]; simp [hx]
      refine ⟨keyMV k, by rw [List.getElem?_map] at e1 ⊢; obtain ⟨p, hp, rfl⟩ := Option.map_eq_some_iff.mp e1; rw [hp]; rfl, ?_⟩
      cases k with
      | none => exact keyIs_none hk
      | some k => exact keyIs_some hk
    · intro b hb'
      rcases List.mem_cons.mp hb' with rfl | hb'
      · exact f1
      · rcases List.mem_cons.mp hb' with rfl | hb'
        · exact fun hm => by rw [H.apartB _ hm] at hB; cases hB
        · cases hb'
    · intro b hb'
      rcases List.mem_cons.mp hb' with rfl | hb'
      · exact ⟨_, Heap.get?_push_size _ rfl⟩
      · rcases List.mem_cons.mp hb' with rfl | hb'
        · exact ⟨_, Heap.get?_push_of_some _ ho⟩
        · cases hb'
    · intro b hb'; rcases List.mem_cons.mp hb' with rfl | hb'
      · exact f2
      · cases hb'
    · intro b hb'; rcases List.mem_cons.mp hb' with rfl | hb'
      · exact f3
      · cases hb'
    · intro b hb'; rcases List.mem_cons.mp hb' with rfl | hb'
      · exact f4
      · cases hb'
    · intro i h' st b hb'; rcases List.mem_cons.mp hb' with rfl | hb'
      · obtain ⟨⟨o, ho', _⟩, _⟩ := st; exact ⟨o, ho'⟩
      · cases hb'
  · obtain ⟨t, u, vv, ho, hlim⟩ := H.has hr
    refine wpAny_pyIter_range ho (range_small hlim) (h s.heap.objs.size [s.heap.objs.size] [s.heap.objs.size] (fun i v => i < k ∧ ∃ t, v = .int (0 + i * 1) t) (fun i h => IsRangeIter h s.heap.objs.size (0 + (i : Nat) * 1) ((k : Int) - (i : Nat)) 1) _ ?_)
    have W := Walks.range (prog := C.prog) (w := C.w) (A := C.A) OK.handled s.heap.objs.size 0 1 k
    refine { walks := ?_, st := ?_, item := fun i u hu => ?_, holds := H.push _, apart := ?_, alive := ?_, noB := ?_, noK := ?_, noAl := ?_, stays := ?_ }
    · rw [List.length_map, List.length_range]
      exact { sub := W.sub, frame := W.frame, done := W.done, self := W.self, item := fun i s Q E hi st hQ => W.item i s Q E hi st fun v h' tk hP hs hk => hQ v h' tk ⟨hi, hP⟩ hs hk }
    · rw [rangeSize_nat]; simp; exact Heap.get?_push_size _ rfl
    · obtain ⟨hi, t, rfl⟩ := hu
      refine ⟨.int i, ?_, t, by simp⟩
      simp [hi]
    · intro b hb'; rcases List.mem_cons.mp hb' with rfl | hb'
      · exact f1
      · cases hb'
    · intro b hb'; rcases List.mem_cons.mp hb' with rfl | hb'
      · exact ⟨_, Heap.get?_push_size _ rfl⟩
      · cases hb'
    · intro b hb'; rcases List.mem_cons.mp hb' with rfl | hb'
      · exact f2
      · cases hb'
    · intro b hb'; rcases List.mem_cons.mp hb' with rfl | hb'
      · exact f3
      · cases hb'
    · intro b hb'; rcases List.mem_cons.mp hb' with rfl | hb'
      · exact f4
      · cases hb'
    · intro i h' st b hb'; rcases List.mem_cons.mp hb' with rfl | hb'
      · exact ⟨_, st⟩
      · cases hb'

/-- the heap changes at hidden places alone -/
theorem Holds.hidden {s s' : Shared} {wr : List Addr} (OK : C.Ok hb) (H : Holds C σ s) (k : ∀ b o, b ∉ wr → s.heap.get? b = some o → s'.heap.get? b = some o) (hg : s'.gens = s.gens) (hos : s'.os = s.os)
    (a1 : ∀ a ∈ wr, a ∉ σ.own.map (·.1) ++ C.fr) (a2 : ∀ a ∈ wr, σ.B a = none) (a3 : ∀ a ∈ wr, ∀ o, ¬ C.kp a o) (a4 : ∀ a ∈ wr, ¬ C.al a) : Holds C σ s' := by
  have nfr : ∀ b ∈ C.fr, b ∉ wr := fun b hb' hm => a1 b hm (List.mem_append_right _ hb')
  have cne : ∀ x c, C.env.cells.lookup x = some c → c ∉ wr := fun x c hc => (OK.cellsIn x c hc).elim (nfr c) fun ⟨o, ho⟩ hm => a3 c hm o ho
  exact {
    kp := fun b o h => k b o (fun hm => a3 b hm o h) (H.kp b o h)
    names := fun x v hv => by
      rcases H.names x v hv with ⟨hk, m, u, ⟨o, es, ep, h1, h2⟩, hm, hv'⟩ | ⟨hk, c, u, hc, ⟨ob, h1, h2⟩, hv'⟩
      · exact .inl ⟨hk, m, u, ⟨o, es, ep, k _ _ (nfr _ OK.locals) h1, h2⟩, hm, hv'⟩
      · exact .inr ⟨hk, c, u, hc, ⟨ob, k _ _ (cne x c hc) h1, h2⟩, hv'⟩
    ns := let ⟨m, o, es, ep, h1, h2⟩ := H.ns; ⟨m, o, es, ep, k _ _ (nfr _ OK.locals) h1, h2⟩
    cells := fun x c hc => let ⟨u, ob, h1, h2⟩ := H.cells x c hc; ⟨u, ob, k _ _ (cne x c hc) h1, h2⟩
    alive := fun a ha => let ⟨o, ho⟩ := H.alive a ha; ⟨o, k _ _ (nfr a ha) ho⟩
    B := fun a o ha => (H.B a o ha).at fun ob hob => k _ _ (fun hm => by rw [a2 a hm] at ha; cases ha) hob
    own := fun p hp => (H.own p hp).at fun ob hob => k _ _ (fun hm => a1 _ hm (List.mem_append_left _ (List.mem_map.mpr ⟨p, hp, rfl⟩))) hob
    nodup := H.nodup, apartB := H.apartB, apartK := H.apartK, gens := hg.trans H.gens, os := hos.trans H.os
    al := fun a ha => let ⟨o, ho⟩ := H.al a ha; ⟨o, k _ _ (fun hm => a4 a hm ha) ho⟩
    B0 := H.B0, Bnew := H.Bnew, ownNew := H.ownNew, noB := H.noB }

theorem Stm_For {x : Str} {px pos : Pos} {iter : Expr} {body orelse : List Stmt} {Q : MF → St → Prop} (F : Fx C hb prog w sc n md fl) (hs : ∀ v, foldedSetIterable iter C.env v = pure v)
    (h : Ex C iter σ (fun v σ₁ => ∃ (items : List MV) (J : Nat → St → Prop), Itr σ₁ v items ∧ J 0 σ₁ ∧
      (∀ C', Fx C' hb prog w sc n md fl → ∀ i σ' m, J i σ' → items[i]? = some m → Store C' x m σ' (fun σ₂ => Sts C' body σ₂ (fun f σ₃ => match f with | .next => J (i + 1) σ₃ | .ret v => Q (.ret v) σ₃))) ∧
      (∀ C', Fx C' hb prog w sc n md fl → ∀ σ', J items.length σ' → Sts C' orelse σ' Q))) : Stm C (.For (.Name x px) iter body orelse pos) σ Q := fun s H => by
  refine wpAny_For (hs := hs) (wpAny_mono (h s H) (fun vv s₁ hpat => ?_) fun _ _ x => x)
  obtain ⟨v, σ₁, hv, H₁, items, J, it, J0, turn, fin⟩ := hpat
  refine it.walk F.ok H₁ hv fun I fp wr P St s₂ W => ?_
  have wsub := W.walks.sub
  refine codeAny_forLoop (fun k s => ∃ i σ', k = items.length + 1 - i ∧ i ≤ items.length ∧ J i σ' ∧ Holds C σ' s ∧ St i s.heap ∧ (∀ a ∈ fp, a ∉ σ'.own.map (·.1) ++ C.fr) ∧ (∀ a ∈ fp, ∃ o, s.heap.get? a = some o) ∧ (∀ a ∈ wr, σ'.B a = none))
    (fun k s hpat => ?_) (items.length + 1) ⟨0, σ₁, rfl, Nat.zero_le _, J0, W.holds, W.st, W.apart, W.alive, W.noB⟩
  obtain ⟨i, σ', hk, hi, hJ, H', hst, hap, hal, hnb⟩ := hpat
  have apw : ∀ a ∈ wr, a ∉ σ'.own.map (·.1) ++ C.fr := fun a ha => hap a (wsub a ha)
  by_cases hlt : i < items.length
  · refine W.walks.item i s _ _ hlt hst fun u h' tk hP hst' hk' => ?_
    obtain ⟨m, hm, hr⟩ := W.item i u hP
    have H₂ : Holds C σ' { s with heap := h', toks := tk } := H'.hidden F.ok hk' rfl rfl apw hnb W.noK W.noAl
    have hal' : ∀ a ∈ fp, ∃ o, h'.get? a = some o := fun a ha => by
      by_cases hw : a ∈ wr
      · exact W.stays _ _ hst' a hw
      · obtain ⟨o, ho⟩ := hal a ha; exact ⟨o, hk' a o hw ho⟩
    have H₃ := H₂.hide (X := fp) (wr := wr) hap hnb
    have F' : Fx (C.hide h' fp wr) hb prog w sc n md fl := F.hide (fun a ha hf => hap a ha (List.mem_append_right _ hf)) fun a ha => ⟨wsub a ha, hal' a (wsub a ha)⟩
    refine wpAny_assign_Name (wpAny_mono (turn _ F' i σ' m hJ hm u hr _ H₃) (fun _ s₃ hpat => ?_) fun _ _ x => x.elim)
    obtain ⟨_, σ₃, _, H₃', h₃⟩ := hpat
    refine wpAny_mono (h₃ s₃ H₃') (fun f s₄ hpat => ?_) fun _ _ x => x.elim
    obtain ⟨mf, σ₄, hf, H₄, h₄⟩ := hpat
    cases mf with
    | next =>
      obtain rfl : f = .next := hf
      have kept : ∀ a ∈ fp, ∀ o, h'.get? a = some o → s₄.heap.get? a = some o := fun a ha o ho => H₄.kp a o (.inr ⟨ha, ho⟩)
      refine ⟨items.length + 1 - (i + 1), by rw [hk]; exact Nat.sub_lt_sub_left (Nat.lt_succ_of_lt hlt) (Nat.lt_succ_self i), i + 1, σ₄, rfl, hlt, h₄, H₄.unhide, W.walks.frame _ _ _ hst' kept, fun a ha hm' => ?_, fun a ha => ?_, fun a ha => H₄.noB a (.inr ha)⟩
      · obtain ⟨o, ho⟩ := hal' a ha; exact H₄.apartK a hm' o (.inr ⟨ha, ho⟩)
      · obtain ⟨o, ho⟩ := hal' a ha; exact ⟨o, kept a ha o ho⟩
    | ret v =>
      obtain ⟨vv, rfl, hv'⟩ := hf
      exact ⟨.ret v, σ₄, ⟨vv, rfl, hv'⟩, H₄.unhide, h₄⟩
  · have hin : i = items.length := Nat.le_antisymm hi (Nat.not_lt.mp hlt)
    subst hin
    refine W.walks.done s _ _ hst fun h' tk hk' => ?_
    have H₂ : Holds C σ' { s with heap := h', toks := tk } := H'.hidden F.ok hk' rfl rfl apw hnb W.noK W.noAl
    exact wpAny_mono (fin C F σ' hJ _ H₂) (fun f s₃ ⟨mf, σ₃, hf, H₃, h₃⟩ => ⟨mf, σ₃, hf, H₃, h₃⟩) fun _ _ x => x.elim
end
end Mine
set_option autoImplicit false
set_option linter.unusedVariables false
set_option linter.unusedSimpArgs false
namespace Mine
open PySem

def relab (cs sc : Scope) : Scope :=
  { cs with names := cs.names.map fun (n, k) => if (k == .free && sc.kind == .function && sc.names.lookup n == some .cell) then (n, .cell) else (n, k) }
theorem relabel_eq {cs : Scope} {env : Env} {sc : Scope} (h : env.scope = sc) : relabel cs env = relab cs sc := by subst h; rfl

def cloOf (cells : List (Str × Addr)) : List (Str × NameKind) → List (Str × Addr) → List (Str × Addr)
  | [], acc => acc
  | (n, k) :: r, acc => if k == .free then (match cells.lookup n with | some c => cloOf cells r ((n, c) :: acc) | none => cloOf cells r acc) else cloOf cells r acc

theorem closure_go (env : Env) : ∀ (names : List (Str × NameKind)) (acc : List (Str × Addr)), (∀ x, (x, NameKind.free) ∈ names → ∃ c, env.cells.lookup x = some c) →
    (forIn names acc fun (p : Str × NameKind) (cs : List (Str × Addr)) => (if (p.2 == NameKind.free) = true then do let a ← cellOf env p.1; pure (ForInStep.yield ((p.1, a) :: cs)) else pure (ForInStep.yield cs) : Sem _)) = pure (cloOf env.cells names acc)
  | [], acc, _ => by rw [List.forIn_nil]; rfl
  | (n, k) :: r, acc, h => by
    rw [List.forIn_cons]
    unfold cloOf
    by_cases hk : (k == NameKind.free) = true
    · have hk' : k = .free := by simpa using hk
      obtain ⟨c, hc⟩ := h n (by rw [hk']; exact .head _)
      simp only [hk, if_true, hc, cellOf, pure_bind]
      exact closure_go env r _ fun x hx => h x (.tail _ hx)
    · simp only [hk, if_false, pure_bind]
      exact closure_go env r _ fun x hx => h x (.tail _ hx)
theorem closureFor_clo {scope : Scope} {env : Env} (h : ∀ x, (x, NameKind.free) ∈ scope.names → ∃ c, env.cells.lookup x = some c) : closureFor scope env = pure (cloOf env.cells scope.names []) := by
  have := closure_go env scope.names [] h
  unfold closureFor
  exact (bind_pure _).trans this

theorem cloOf_lookup (cells : List (Str × Addr)) {x : Str} {c : Addr} : ∀ (names : List (Str × NameKind)) (acc : List (Str × Addr)), (cloOf cells names acc).lookup x = some c → acc.lookup x = some c ∨ (cells.lookup x = some c ∧ (x, NameKind.free) ∈ names)
  | [], acc, h => .inl h
  | (n, k) :: r, acc, h => by
    unfold cloOf at h
    by_cases hk : (k == NameKind.free) = true
    · have hk' : k = .free := by simpa using hk
      rw [if_pos hk] at h
      cases hc : cells.lookup n with
      | none =>
        rw [hc] at h
        rcases cloOf_lookup cells r acc h with h1 | ⟨h1, h2⟩
        · exact .inl h1
        · exact .inr ⟨h1, .tail _ h2⟩
      | some d =>
        rw [hc] at h
        rcases cloOf_lookup cells r _ h with h1 | ⟨h1, h2⟩
        · by_cases hx : (x == n) = true
          · rw [List.lookup_cons, hx] at h1
            have hx' : x = n := by simpa using hx
            subst hx'
            exact .inr ⟨hc.trans h1, by rw [hk']; exact .head _⟩
          · have hx' : (x == n) = false := by simpa using hx
            rw [List.lookup_cons, hx'] at h1
            exact .inl h1
        · exact .inr ⟨h1, .tail _ h2⟩
    · rw [if_neg hk] at h
      rcases cloOf_lookup cells r acc h with h1 | ⟨h1, h2⟩
      · exact .inl h1
      · exact .inr ⟨h1, .tail _ h2⟩
theorem cloOf_hit (cells : List (Str × Addr)) {x : Str} : ∀ (names : List (Str × NameKind)) (acc : List (Str × Addr)), ((x, NameKind.free) ∈ names ∧ (∃ c, cells.lookup x = some c)) ∨ (∃ c, acc.lookup x = some c) → ∃ c, (cloOf cells names acc).lookup x = some c
  | [], acc, h => h.elim (fun h => nomatch h.1) id
  | (n, k) :: r, acc, h => by
    unfold cloOf
    have keep : ∀ d, (∃ c, acc.lookup x = some c) → ∃ c, ((n, d) :: acc).lookup x = some c := fun d ⟨c, hc⟩ => by
      by_cases hx : (x == n) = true
      · exact ⟨d, by rw [List.lookup_cons, hx]⟩
      · have hx' : (x == n) = false := by simpa using hx
        exact ⟨c, by rw [List.lookup_cons, hx']; exact hc⟩
    split
    · rename_i hk
      have hk' : k = .free := by simpa using hk
      cases hc : cells.lookup n with
      | none =>
        refine cloOf_hit cells r acc (h.imp (fun ⟨h1, c, h2⟩ => ⟨?_, c, h2⟩) id)
        rcases List.mem_cons.mp h1 with e | e
        · cases e; rw [hc] at h2; cases h2
        · exact e
      | some d =>
        refine cloOf_hit cells r _ ?_
        rcases h with ⟨h1, c, h2⟩ | h
        · rcases List.mem_cons.mp h1 with e | e
          · cases e; exact .inr ⟨d, by simp [List.lookup]⟩
          · exact .inl ⟨e, c, h2⟩
        · exact .inr (keep d h)
    · rename_i hk
      refine cloOf_hit cells r acc (h.imp (fun ⟨h1, c, h2⟩ => ⟨?_, c, h2⟩) id)
      rcases List.mem_cons.mp h1 with e | e
      · cases e; exact absurd rfl hk
      · exact e
end Mine
set_option autoImplicit false
set_option linter.unusedVariables false
set_option linter.unusedSimpArgs false
namespace Mine
open PySem

structure CompOk (cs sc : Scope) (x : Str) : Prop where
  kind : cs.kind = .function
  nd : (cs.names.map (·.1)).Nodup
  noCell : ∀ y ∈ cs.names, y.2 ≠ .cell
  cap : ∀ y ∈ cs.names, y.2 = .free → sc.names.lookup y.1 = some .cell ∨ sc.names.lookup y.1 = some .free
  x : cs.names.lookup x = some .local

def capt (cs : Scope) : Loc → Loc
  | [] => []
  | (y, v) :: r => if cs.names.lookup y = some .free then (y, v) :: capt cs r else capt cs r
theorem look_capt {cs : Scope} {y : Str} {v : MV} : ∀ {l : Loc}, look (capt cs l) y = some v → look l y = some v ∧ cs.names.lookup y = some .free
  | [], h => by simp [capt, look] at h
  | (z, u) :: r, h => by
    unfold capt at h
    by_cases hz : cs.names.lookup z = some .free
    · rw [if_pos hz] at h
      unfold look at h ⊢
      by_cases hy : y = z
      · subst hy; rw [if_pos rfl] at h ⊢; exact ⟨h, hz⟩
      · rw [if_neg hy] at h ⊢; exact look_capt h
    · rw [if_neg hz] at h
      have ih := look_capt h
      unfold look
      by_cases hy : y = z
      · subst hy; exact absurd ih.2 hz
      · rw [if_neg hy]; exact ih

theorem lookup_mem {α : Type} : ∀ {l : List (Str × α)} {n : Str} {k : α}, l.lookup n = some k → (n, k) ∈ l
  | (m, v) :: r, n, k, h => by
    rw [List.lookup_cons] at h
    cases hb : n == m with
    | true => rw [hb] at h; cases h; rw [beq_iff_eq.mp hb]; exact .head _
    | false => rw [hb] at h; exact .tail _ (lookup_mem h)
theorem mem_lookup {α : Type} : ∀ {l : List (Str × α)} {n : Str} {k : α}, (l.map (·.1)).Nodup → (n, k) ∈ l → l.lookup n = some k
  | (m, v) :: r, n, k, nd, h => by
    have nd' := List.nodup_cons.mp nd
    rw [List.lookup_cons]
    rcases List.mem_cons.mp h with e | e
    · cases e; simp
    · have : (n == m) = false := by
        cases hb : n == m with
        | false => rfl
        | true => exact absurd (List.mem_map.mpr ⟨(n, k), e, beq_iff_eq.mp hb⟩) nd'.1
      rw [this]; exact mem_lookup nd'.2 e
theorem lookup_relab {cs sc : Scope} {y : Str} : (relab cs sc).names.lookup y = (cs.names.lookup y).map fun k => if (k == .free && sc.kind == .function && sc.names.lookup y == some .cell) then .cell else k := by
  unfold relab
  generalize cs.names = l
  induction l with
  | nil => rfl
  | cons p r ih =>
    obtain ⟨n, k⟩ := p
    rw [List.map_cons]
    dsimp only
    by_cases hy : (y == n) = true
    · have e : y = n := by simpa using hy
      subst e
      split
      · rename_i h; rw [List.lookup_cons, List.lookup_cons, hy]; simp only [Option.map_some]; rw [if_pos h]
      · rename_i h; rw [List.lookup_cons, List.lookup_cons, hy]; simp only [Option.map_some]; rw [if_neg h]
    · have hy' : (y == n) = false := by simpa using hy
      split
      · rw [List.lookup_cons, hy', List.lookup_cons, hy']; exact ih
      · rw [List.lookup_cons, hy', List.lookup_cons, hy']; exact ih

def Cx.comp (C : Cx) (cenv : Env) (h : Heap) (X Y : List Addr) : Cx := { C with env := cenv, fr := [cenv.locals], kp := fun b o => C.kp b o ∨ (b ∈ X ∧ h.get? b = some o), no := fun a => C.no a ∨ a ∈ Y }

section
variable {C : Cx} {hb : Heap} {prog : Program} {w : World} {sc cs : Scope} {n : Nat} {md : List Addr} {fl : Bool} {x : Str} {σ : St}

theorem Fx.clo (F : Fx C hb prog w sc n md fl) (K : CompOk cs sc x) : closureFor cs C.env = pure (cloOf C.env.cells cs.names []) :=
  closureFor_clo fun y hy => F.cell y (K.cap _ hy rfl)
theorem clo_outer {cells : List (Str × Addr)} {names : List (Str × NameKind)} {y : Str} {c : Addr} (h : (cloOf cells names []).lookup y = some c) : cells.lookup y = some c := by
  rcases cloOf_lookup cells names [] h with h | h
  · cases h
  · exact h.1

theorem Fx.comp (F : Fx C hb prog w sc n md fl) (K : CompOk cs sc x) {s : Shared} (H : Holds C σ s) {L : Addr} {X Y : List Addr} (hfr : ∀ a ∈ C.fr, a ∈ X) (hLX : L ∉ X) (hLk : ∀ o, ¬ C.kp L o) (hLc : L ∉ C.fr)
    (hY : ∀ a ∈ Y, a ∈ X ∧ ∃ o, s.heap.get? a = some o) : Fx (C.comp (compEnvC cs (cloOf C.env.cells cs.names []) L C.env) s.heap X Y) hb prog w (relab cs sc) n md false where
  ok := {
    handled := F.ok.handled
    depth := F.ok.depth
    units := F.ok.units
    kind := K.kind
    globals := F.ok.globals
    builtins := F.ok.builtins
    locals := .head _
    cellsIn := fun y c hc => by
      have h1 := clo_outer hc
      rcases F.ok.cellsIn y c h1 with h | ⟨o, h⟩
      · obtain ⟨o, ho⟩ := H.alive c h; exact .inr ⟨o, .inr ⟨hfr c h, ho⟩⟩
      · exact .inr ⟨o, .inl h⟩
    cellsNe := fun y c hc e => by
      have e : c = L := e
      subst e
      rcases F.ok.cellsIn y c (clo_outer hc) with h | ⟨o, h⟩
      · exact hLc h
      · exact hLk o h
    cellsInj := fun y z c h1 h2 => F.ok.cellsInj y z c (clo_outer h1) (clo_outer h2)
    apart := fun a ha o hk => by
      have e : a = L := by simpa [Cx.comp, compEnvC] using ha
      subst e
      rcases hk with hk | hk
      · exact hLk o hk
      · exact hLX hk.1
    base := fun b o h => .inl (F.ok.base b o h)
    modAl := F.ok.modAl
    noKp := fun a ha => ha.elim (fun h => let ⟨o, ho⟩ := F.ok.noKp a h; ⟨o, .inl ho⟩) fun h => let ⟨h1, o, ho⟩ := hY a h; ⟨o, .inr ⟨h1, ho⟩⟩ }
  eprog := F.eprog
  ew := F.ew
  esc := relabel_eq F.esc
  eroom := F.eroom
  emod := F.emod
  cell := fun y hy => by
    have hfree : (y, NameKind.free) ∈ cs.names := by
      rw [lookup_relab] at hy
      cases hk : cs.names.lookup y with
      | none => rw [hk] at hy; simp at hy
      | some k =>
        have hm := lookup_mem hk
        have : k = .free := by
          rw [hk] at hy
          simp only [Option.map_some, Option.some.injEq] at hy
          by_cases hkf : k = .free
          · exact hkf
          · rw [if_neg (by simp [hkf])] at hy
            rcases hy with e | e
            · exact absurd e (K.noCell _ hm)
            · exact e
        rw [← this]; exact hm
    exact cloOf_hit C.env.cells cs.names [] (.inl ⟨hfree, F.cell y (K.cap _ hfree rfl)⟩)
  full := fun h => by cases h

theorem Holds.toComp (F : Fx C hb prog w sc n md fl) (K : CompOk cs sc x) {s : Shared} {D : Addr} {o : MO} (H : Holds C { σ with own := (D, o) :: σ.own } s) {L : Addr} {fp wr : List Addr} {mm : Str → Option Value} {m : MV} {u : Value}
    (hns : s.heap.Ns L mm) (hmx : mm x = some u) (hr : VR m u) (hfp : ∀ a ∈ fp, a ∉ D :: σ.own.map (·.1) ++ C.fr) (hwr : ∀ a ∈ wr, σ.B a = none)
    (hLo : L ∉ D :: σ.own.map (·.1) ++ C.fr) (hLf : L ∉ fp) (hLB : σ.B L = none) (hLk : ∀ o, ¬ C.kp L o) :
    Holds (C.comp (compEnvC cs (cloOf C.env.cells cs.names []) L C.env) s.heap (D :: fp ++ C.fr) (D :: wr ++ C.fr)) ⟨put (capt cs σ.loc) x m, σ.B, σ.own⟩ s := by
  have nd : (D :: (σ.own.map (·.1) ++ C.fr)).Nodup := H.nodup
  have nd1 := List.nodup_cons.mp nd
  have nd2 := List.nodup_append.mp nd1.2
  have hx : (relab cs sc).names.lookup x = some .local := by rw [lookup_relab, K.x]; rfl
  have kx : (compEnvC cs (cloOf C.env.cells cs.names []) L C.env).kindOf x = some .local := by
    show (relabel cs C.env).names.lookup x = _
    rw [relabel_eq F.esc]; exact hx
  exact {
    kp := fun b o' h => h.elim (H.kp b o') fun h => h.2
    names := fun y v hy => by
      rw [look_put] at hy
      by_cases hxy : y = x
      · subst hxy; rw [if_pos rfl] at hy; cases hy
        exact .inl ⟨kx, mm, u, hns, hmx, hr⟩
      · rw [if_neg hxy] at hy
        obtain ⟨h1, h2⟩ := look_capt hy
        have hm := lookup_mem h2
        have hcap := K.cap _ hm rfl
        have outer : ∃ c u', C.env.cells.lookup y = some c ∧ s.heap.IsCell c (some u') ∧ VR v u' := by
          rcases H.names y v h1 with ⟨hk, _⟩ | ⟨hk, r⟩
          · exfalso
            have hk' : sc.names.lookup y = some .local := by rw [← F.esc]; exact hk
            rw [hk'] at hcap; simp at hcap
          · exact r
        obtain ⟨c, u', hc, hu, hv⟩ := outer
        obtain ⟨c', hc'⟩ := cloOf_hit C.env.cells cs.names [] (.inl ⟨hm, c, hc⟩)
        have : c' = c := by have := clo_outer hc'; rw [hc] at this; exact (Option.some.inj this).symm
        subst this
        refine .inr ⟨?_, c', u', hc', hu, hv⟩
        show (relabel cs C.env).names.lookup y = _ ∨ (relabel cs C.env).names.lookup y = _
        rw [relabel_eq F.esc, lookup_relab, h2]
        simp only [Option.map_some, Option.some.injEq]
        split
        · exact .inl rfl
        · exact .inr rfl
    ns := ⟨mm, hns⟩
    cells := fun y c hc => H.cells y c (clo_outer hc)
    alive := fun a ha => by
      have e : a = L := by simpa [Cx.comp, compEnvC] using ha
      subst e; obtain ⟨ob, es, ep, ho, _⟩ := hns; exact ⟨ob, ho⟩
    B := H.B
    own := fun p hp => H.own p (.tail _ hp)
    nodup := List.nodup_append.mpr ⟨nd2.1, List.nodup_cons.mpr ⟨(by simp), List.nodup_nil⟩, fun a ha b hb' e => by
      have e' : b = L := by simpa [Cx.comp, compEnvC] using hb'
      subst e e'
      exact hLo (.tail _ (List.mem_append_left _ ha))⟩
    apartB := fun a ha => by
      rcases List.mem_append.mp ha with h | h
      · exact H.apartB a (.tail _ (List.mem_append_left _ h))
      · have e' : a = L := by simpa [Cx.comp, compEnvC] using h
        subst e'; exact hLB
    apartK := fun a ha o' hk => by
      rcases List.mem_append.mp ha with h | h
      · rcases hk with hk | ⟨hk, _⟩
        · exact H.apartK a (.tail _ (List.mem_append_left _ h)) o' hk
        · rcases List.mem_append.mp hk with hk | hk
          · rcases List.mem_cons.mp hk with rfl | hk
            · exact nd1.1 (List.mem_append_left _ h)
            · exact hfp a hk (.tail _ (List.mem_append_left _ h))
          · exact nd2.2.2 a h a hk rfl
      · have e' : a = L := by simpa [Cx.comp, compEnvC] using h
        subst e'
        rcases hk with hk | ⟨hk, _⟩
        · exact hLk o' hk
        · rcases List.mem_append.mp hk with hk | hk
          · rcases List.mem_cons.mp hk with rfl | hk
            · exact hLo (.head _)
            · exact hLf hk
          · exact hLo (.tail _ (List.mem_append_right _ hk))
    gens := H.gens
    os := H.os
    al := H.al
    B0 := H.B0
    Bnew := H.Bnew
    ownNew := fun p hp => H.ownNew p (.tail _ hp)
    noB := fun a ha => by
      rcases ha with ha | ha
      · exact H.noB a ha
      · rcases List.mem_append.mp ha with ha | ha
        · rcases List.mem_cons.mp ha with rfl | ha
          · exact H.apartB _ (.head _)
          · exact hwr a ha
        · exact H.apartB a (.tail _ (List.mem_append_right _ ha)) }

theorem Holds.fromComp {s s' : Shared} {D : Addr} {o : MO} (OK : C.Ok hb) (H : Holds C { σ with own := (D, o) :: σ.own } s) {L : Addr} {cenv : Env} {fp wr : List Addr} {σ' : St}
    (H' : Holds (C.comp cenv s.heap (D :: fp ++ C.fr) (D :: wr ++ C.fr)) σ' s') : Holds C ⟨σ.loc, σ'.B, (D, o) :: σ'.own⟩ s' := by
  have nd : (D :: (σ.own.map (·.1) ++ C.fr)).Nodup := H.nodup
  have nd1 := List.nodup_cons.mp nd
  have DX : D ∈ D :: fp ++ C.fr := .head _
  have fX : ∀ a ∈ C.fr, a ∈ D :: fp ++ C.fr := fun a ha => List.mem_append_right _ ha
  have kX : ∀ a ob, a ∈ D :: fp ++ C.fr → s.heap.get? a = some ob → s'.heap.get? a = some ob := fun a ob ha ho => H'.kp a ob (.inr ⟨ha, ho⟩)
  have hD := H.own (D, o) (.head _)
  obtain ⟨oD, hoD⟩ := hD.alive
  have oK : ∀ a ∈ σ'.own.map (·.1), ∀ ob, ¬ (C.kp a ob ∨ (a ∈ D :: fp ++ C.fr ∧ s.heap.get? a = some ob)) := fun a ha ob => H'.apartK a (List.mem_append_left _ ha) ob
  have cellsK : ∀ y c, C.env.cells.lookup y = some c → ∀ ob, s.heap.get? c = some ob → s'.heap.get? c = some ob := fun y c hc ob ho => by
    rcases OK.cellsIn y c hc with h | ⟨ob', h⟩
    · exact kX c ob (fX c h) ho
    · have e1 := H.kp c ob' h
      rw [ho] at e1; cases e1
      exact H'.kp c ob (.inl h)
  exact {
    kp := fun b ob h => H'.kp b ob (.inl h)
    names := fun y v hv => by
      rcases H.names y v hv with ⟨hk, m, u, ⟨ob, es, ep, h1, h2⟩, hm, hv'⟩ | ⟨hk, c, u, hc, ⟨ob, h1, h2⟩, hv'⟩
      · exact .inl ⟨hk, m, u, ⟨ob, es, ep, kX _ _ (fX _ OK.locals) h1, h2⟩, hm, hv'⟩
      · exact .inr ⟨hk, c, u, hc, ⟨ob, cellsK y c hc ob h1, h2⟩, hv'⟩
    ns := let ⟨m, ob, es, ep, h1, h2⟩ := H.ns; ⟨m, ob, es, ep, kX _ _ (fX _ OK.locals) h1, h2⟩
    cells := fun y c hc => let ⟨u, ob, h1, h2⟩ := H.cells y c hc; ⟨u, ob, cellsK y c hc ob h1, h2⟩
    alive := fun a ha => let ⟨ob, ho⟩ := H.alive a ha; ⟨ob, kX a ob (fX a ha) ho⟩
    B := H'.B
    own := fun p hp => by
      rcases List.mem_cons.mp hp with rfl | hp
      · exact hD.at fun ob ho => kX D ob DX ho
      · exact H'.own p hp
    nodup := by
      show (D :: (σ'.own.map (·.1) ++ C.fr)).Nodup
      refine List.nodup_cons.mpr ⟨fun hm => ?_, List.nodup_append.mpr ⟨(List.nodup_append.mp H'.nodup).1, (List.nodup_append.mp nd1.2).2.1, fun a ha b hb' e => ?_⟩⟩
      · rcases List.mem_append.mp hm with hm | hm
        · exact oK D hm oD (.inr ⟨DX, hoD⟩)
        · exact nd1.1 (List.mem_append_right _ hm)
      · subst e
        obtain ⟨ob, ho⟩ := H.alive a hb'
        exact oK a ha ob (.inr ⟨fX a hb', ho⟩)
    apartB := fun a ha => by
      have ha' : a ∈ D :: (σ'.own.map (·.1) ++ C.fr) := ha
      rcases List.mem_cons.mp ha' with rfl | ha'
      · exact H'.noB _ (.inr (.head _))
      · rcases List.mem_append.mp ha' with h | h
        · exact H'.apartB a (List.mem_append_left _ h)
        · exact H'.noB a (.inr (List.mem_append_right _ h))
    apartK := fun a ha ob hk => by
      have ha' : a ∈ D :: (σ'.own.map (·.1) ++ C.fr) := ha
      rcases List.mem_cons.mp ha' with rfl | ha'
      · exact H.apartK _ (.head _) ob hk
      · rcases List.mem_append.mp ha' with h | h
        · exact oK a h ob (.inl hk)
        · exact OK.apart a h ob hk
    gens := H'.gens
    os := H'.os
    al := H'.al
    B0 := H'.B0
    Bnew := H'.Bnew
    ownNew := fun p hp => by
      rcases List.mem_cons.mp hp with rfl | hp
      · exact H.ownNew (D, o) (.head _)
      · exact H'.ownNew p hp
    noB := fun a ha => H'.noB a (.inl ha) }
end
end Mine
set_option autoImplicit false
set_option linter.unusedVariables false
set_option linter.unusedSimpArgs false
namespace Mine
open PySem

section
variable {C : Cx} {hb : Heap} {prog : Program} {w : World} {sc cs : Scope} {n : Nat} {md : List Addr} {fl : Bool} {x : Str} {σ : St}

/-- the tests of a comprehension's clause -/
def CTs (C : Cx) : List Expr → St → (Bool → St → Prop) → Prop
  | [], σ, Q => Q true σ
  | c :: r, σ, Q => Ts C c σ (fun b σ' => if b then CTs C r σ' Q else Q false σ')

theorem CTs_false {M : Model} {A : Around} {E : Value → Shared → Prop} {env : Env} {s : Shared} {Q : Bool → Shared → Prop} : ∀ (ifs : List Expr), Q false s →
    wpAny M A (forIn ifs false fun c r => if r = true then do let ok ← isTrue c env (eval c env); pure (ForInStep.yield ok) else pure (ForInStep.yield r)) Q E s
  | [], h => by rw [List.forIn_nil]; exact wpAny_pure h
  | c :: r, h => by
    rw [List.forIn_cons]
    simp only [Bool.false_eq_true, if_false, pure_bind]
    exact CTs_false r h
theorem CTs_run : ∀ (ifs : List Expr) {σ : St} {Q : Bool → St → Prop}, CTs C ifs σ Q →
    Tr C (forIn ifs true fun c r => if r = true then do let ok ← isTrue c C.env (eval c C.env); pure (ForInStep.yield ok) else pure (ForInStep.yield r)) (fun b a => b = a) σ Q
  | [], σ, Q, h => by rw [List.forIn_nil]; exact Tr.pure (b := true) rfl h
  | c :: r, σ, Q, h => fun s H => by
    rw [List.forIn_cons]
    simp only [if_true, bind_assoc, pure_bind]
    refine wpAny_bind (wpAny_mono (h s H) (fun b s' hpat => ?_) fun _ _ x => x)
    obtain ⟨b', σ', e, H', h'⟩ := hpat
    subst e
    cases b' with
    | true => exact CTs_run r h' s' H'
    | false => exact CTs_false r ⟨false, σ', rfl, H', h'⟩

theorem wpAny_list_append_OR {prog : Program} {w : World} {A : Around} {E : Value → Shared → Prop} {s : Shared} {l : Addr} {xs : List MV} {m : MV} {v : Value} {Q : Value → Shared → Prop} (hl : OR s.heap l (.list xs)) (hv : VR m v) (hlim : xs.length + 1 ≤ lim)
    (hQ : ∀ h', OR h' l (.list (xs ++ [m])) → (∀ b o, b ≠ l → s.heap.get? b = some o → h'.get? b = some o) → Q .none { s with heap := h' }) : wpAny (model prog w) A (call (.builtin "list.append") [.ref l, v]) Q E s := by
  obtain ⟨vs, nn, ho, hr, hle⟩ := hl
  refine wpAny_list_append_plain (items := vs) ⟨nn, ho⟩ (fun h' hl' hs' => hQ h' ?_ hs'.extBut) (hsz := ?_)
  · obtain ⟨n', ho'⟩ := hl'
    exact ⟨_, n', ho', by simpa using hr.snoc hv, by simpa using hlim⟩
  · have := hr.length; have := lim_le; simp at *; omega

theorem ne_of_lt_size {h : Heap} {b L : Addr} {o : Obj} (e : h.get? b = some o) (hL : h.objs.size = L) : b ≠ L := fun e' => by subst e'; subst hL; exact absurd (Heap.lt_size e) (Nat.lt_irrefl _)
theorem sing {P : Addr → Prop} {L : Addr} (h : P L) : ∀ a ∈ [L], P a := fun a ha => by rw [List.mem_singleton.mp ha]; exact h

theorem comp_core {elt iter : Expr} {px pos : Pos} {ifs : List Expr} (F : Fx C hb prog w sc n md fl) (K : CompOk cs sc x) {s : Shared} (H : Holds C σ s) {v : MV} {items : List MV} (it : Itr σ v items) {vv : Value} (hv : VR v vv) (hlen : items.length ≤ lim)
    (J : Nat → List MV → St → Prop) (J0 : J 0 [] σ)
    (turn : ∀ C', Fx C' hb prog w (relab cs sc) n md false → ∀ i ys σ' m, J i ys σ' → items[i]? = some m →
      CTs C' ifs { σ' with loc := put (capt cs σ'.loc) x m } (fun ok σ₁ => if ok then Ex C' elt σ₁ (fun y σ₂ => J (i + 1) (ys ++ [y]) { σ₂ with loc := σ'.loc }) else J (i + 1) ys { σ₁ with loc := σ'.loc }))
    {RR : Value → Addr → Result → Shared → Prop} {E : Value → Shared → Prop}
    (fin : ∀ D L ys σ' s', J items.length ys σ' → Holds C { σ' with own := (D, .list ys) :: σ'.own } s' → Fsh C.mod σ' D → (∃ m, s'.heap.Ns L m) → L ∉ D :: σ'.own.map (·.1) ++ C.fr → σ'.B L = none → (∀ o, ¬ C.kp L o) → ¬ C.al L → RR (.ref D) L (.ok .next) s') :
    wpAny (model C.prog C.w) C.A (pyIter vv) (fun itv s₂ => wpAny (model C.prog C.w) C.A (newList []) (fun acc s₃ =>
      wpAny (model C.prog C.w) C.A (newFunctionEnv cs C.env.globals (cloOf C.env.cells cs.names []) [] C.env.qual none .none (some C.env)) (fun cenv s₄ =>
        codeAny (model C.prog C.w) C.A (.compStart (.ListComp elt [⟨.Name x px, iter, ifs, 0⟩] cs pos) 0 itv acc { cenv with scope := relabel cs C.env }) (RR acc cenv.locals) s₄) E s₃) E s₂) E s := by
  refine it.walk F.ok H hv fun I fp wr P St s₂ W => ?_
  have wsub := W.walks.sub
  refine wpAny_newObj_type (wpAny_newFunctionEnv K.noCell (by intro y hy; simp at hy) (fun h₁ hns₁ hsb₁ => ?_) K.kind)
  -- the list D, the namespace L
  have HD := W.holds.new (o := { cls := .type "list", data := .seq ([] : List Value).toArray }) (mo := .list []) ⟨_, _, Heap.get?_push_size _ rfl, .nil, Nat.zero_le _⟩
  have hDm : s₂.heap.objs.size ∉ C.mod := W.holds.freshMod F.ok
  generalize hD : s₂.heap.objs.size = D at HD hDm hns₁ hsb₁ ⊢
  generalize hH2 : s₂.heap.push { cls := .type "list", data := .seq ([] : List Value).toArray } = H2 at HD hns₁ hsb₁ ⊢
  obtain ⟨g1, g2, g3, g4⟩ := fresh_facts HD
  dsimp only at g1 g2 g3 g4 hns₁ hsb₁
  generalize hL : H2.objs.size = L at g1 g2 g3 g4 hns₁ hsb₁ ⊢
  have keep1 : ∀ b o, H2.get? b = some o → h₁.get? b = some o := fun b o e => hsb₁.extBut b o (ne_of_lt_size e hL) (Heap.get?_push_of_some _ e)
  have keep2 : ∀ b o, s₂.heap.get? b = some o → H2.get? b = some o := fun b o e => hH2 ▸ Heap.get?_push_of_some _ e
  have Hs : Holds C { σ with own := (D, .list []) :: σ.own } { s₂ with heap := h₁, toks := s₂.toks + 0 } := HD.ext keep1 rfl rfl
  have hfpD : ∀ a ∈ fp, a ≠ D ∧ a ≠ L := fun a ha => by
    obtain ⟨o, ho⟩ := W.alive a ha
    exact ⟨ne_of_lt_size ho hD, ne_of_lt_size (keep2 a o ho) hL⟩
  have loop : ∀ s₅ : Shared, s₅ = { s₂ with heap := h₁, toks := s₂.toks + 0 } →
      codeAny (model C.prog C.w) C.A (.compLoop (.ListComp elt [⟨.Name x px, iter, ifs, 0⟩] cs pos) 0 (.ref I) (.ref D) (compEnvC cs (cloOf C.env.cells cs.names []) L C.env)) (RR (.ref D) L) s₅ := by
    rintro s₅ rfl
    refine codeAny_compLoop_tests (fun k s => ∃ i ys σ', k = items.length + 1 - i ∧ i ≤ items.length ∧ J i ys σ' ∧ ys.length ≤ i ∧ Holds C { σ' with own := (D, .list ys) :: σ'.own } s ∧ St i s.heap ∧ (∃ m, s.heap.Ns L m) ∧
        (∀ a ∈ fp, a ∉ D :: σ'.own.map (·.1) ++ C.fr) ∧ (∀ a ∈ fp, ∃ o, s.heap.get? a = some o) ∧ (∀ a ∈ wr, σ'.B a = none) ∧ L ∉ D :: σ'.own.map (·.1) ++ C.fr ∧ σ'.B L = none) ?_ (items.length + 1)
      ⟨0, [], σ, rfl, Nat.zero_le _, J0, Nat.zero_le _, Hs, W.walks.frame _ _ _ W.st fun b _ o e => keep1 b o (keep2 b o e), ⟨_, hns₁⟩, fun a ha hm => ?_, fun a ha => let ⟨o, ho⟩ := W.alive a ha; ⟨o, keep1 _ _ (keep2 _ _ ho)⟩, W.noB, g1, g2⟩
    · rintro k s' ⟨i, ys, σ', hk, hi, hJ, hyl, H', hst, ⟨mL, hnsL⟩, hap, hal, hnb, hLo, hLB⟩
      have hap' : ∀ a ∈ wr, a ∉ (({ σ' with own := (D, .list ys) :: σ'.own } : Mine.St).own.map (·.1)) ++ C.fr := fun a ha => hap a (wsub a ha)
      by_cases hlt : i < items.length
      · refine W.walks.item i s' _ _ hlt hst fun u h' tk hP hst' hk' => ?_
        obtain ⟨m, hm, hr⟩ := W.item i u hP
        have H₂ : Holds C { σ' with own := (D, .list ys) :: σ'.own } { s' with heap := h', toks := tk } := H'.hidden F.ok hk' rfl rfl hap' hnb W.noK W.noAl
        have hLf : L ∉ fp := fun hm => (hfpD L hm).2 rfl
        have hns' : h'.Ns L mL := hnsL.at' fun o e => hk' _ o (fun hm => hLf (wsub _ hm)) e
        have hkx : (compEnvC cs (cloOf C.env.cells cs.names []) L C.env).kindOf x = some .local := by
          show (relabel cs C.env).names.lookup x = _
          rw [relabel_eq F.esc, lookup_relab, K.x]; rfl
        refine wpAny_assign_Name (wpAny_storeName_local hkx hns' (fun h₂ hn₂ hs₂ => ?_) (by simp [compEnvC, relabel, K.kind]))
        have hn₂ : h₂.Ns L (fun y => if y = x then some u else mL y) := hn₂
        have hs₂ : Heap.SameBut L h' h₂ := hs₂
        have H₃ : Holds C { σ' with own := (D, .list ys) :: σ'.own } { s' with heap := h₂, toks := tk + 1 } :=
          H₂.hidden (wr := [L]) F.ok (fun b o hb' e => hs₂.extBut b o (fun e' => hb' (by simp [e'])) e) rfl rfl (sing hLo) (sing hLB) (sing (P := fun a => ∀ o, ¬ C.kp a o) g3) (sing (P := fun a => ¬ C.al a) g4)
        have hal₂ : ∀ a ∈ fp, ∃ o, h₂.get? a = some o := fun a ha => by
          have : ∃ o, h'.get? a = some o := by
            by_cases hw : a ∈ wr
            · exact W.stays _ _ hst' a hw
            · obtain ⟨o, ho⟩ := hal a ha; exact ⟨o, hk' a o hw ho⟩
          obtain ⟨o, ho⟩ := this
          exact ⟨o, hs₂.extBut a o (hfpD a ha).2 ho⟩
        have hst₂ : St (i + 1) h₂ := W.walks.frame _ _ _ hst' fun b hb' o e => hs₂.extBut b o (hfpD b hb').2 e
        have HC := Holds.toComp F K H₃ (m := m) hn₂ (by simp) hr hap hnb hLo hLf hLB g3
        have hYX : ∀ a ∈ D :: wr ++ C.fr, a ∈ D :: fp ++ C.fr ∧ ∃ o, h₂.get? a = some o := fun a ha => by
          rcases List.mem_append.mp ha with ha | ha
          · rcases List.mem_cons.mp ha with rfl | ha
            · exact ⟨.head _, (H₃.own (_, .list ys) (.head _)).alive⟩
            · exact ⟨List.mem_append_left _ (.tail _ (wsub a ha)), hal₂ a (wsub a ha)⟩
          · exact ⟨List.mem_append_right _ ha, H₃.alive a ha⟩
        have hLX : L ∉ D :: fp ++ C.fr := fun hm => by
          rcases List.mem_append.mp hm with hm | hm
          · rcases List.mem_cons.mp hm with e | hm
            · exact hLo (e ▸ .head _)
            · exact hLf hm
          · exact hLo (.tail _ (List.mem_append_right _ hm))
        have FC := F.comp K H₃ (L := L) (X := D :: fp ++ C.fr) (Y := D :: wr ++ C.fr) (fun a ha => List.mem_append_right _ ha) hLX g3 (fun hm => hLo (.tail _ (List.mem_append_right _ hm))) hYX
        -- what is kept of the loop behind a tree of the clause
        have back : ∀ (σ₃ : Mine.St) (s₃ : Shared), Holds (C.comp (compEnvC cs (cloOf C.env.cells cs.names []) L C.env) h₂ (D :: fp ++ C.fr) (D :: wr ++ C.fr)) σ₃ s₃ →
            Holds C ⟨σ'.loc, σ₃.B, (D, .list ys) :: σ₃.own⟩ s₃ ∧ St (i + 1) s₃.heap ∧ (∃ m, s₃.heap.Ns L m) ∧ (∀ a ∈ fp, a ∉ D :: σ₃.own.map (·.1) ++ C.fr) ∧ (∀ a ∈ fp, ∃ o, s₃.heap.get? a = some o) ∧ (∀ a ∈ wr, σ₃.B a = none) ∧
              L ∉ D :: σ₃.own.map (·.1) ++ C.fr ∧ σ₃.B L = none := fun σ₃ s₃ H₄ => by
          have H₅ := Holds.fromComp F.ok H₃ (L := L) H₄
          have kept : ∀ a ∈ fp, ∀ o, h₂.get? a = some o → s₃.heap.get? a = some o := fun a ha o ho => H₄.kp a o (.inr ⟨List.mem_append_left _ (.tail _ ha), ho⟩)
          refine ⟨H₅, W.walks.frame _ _ _ hst₂ kept, H₄.ns, fun a ha hm => ?_, fun a ha => ?_, fun a ha => H₄.noB a (.inr (List.mem_append_left _ (.tail _ ha))), fun hm => ?_, H₄.apartB L (List.mem_append_right _ (.head _))⟩
          · obtain ⟨o, ho⟩ := hal₂ a ha
            rcases List.mem_append.mp hm with hm | hm
            · rcases List.mem_cons.mp hm with e | hm
              · exact (hfpD a ha).1 e
              · exact H₄.apartK a (List.mem_append_left _ hm) o (.inr ⟨List.mem_append_left _ (.tail _ ha), ho⟩)
            · exact hap a ha (List.mem_append_right _ hm)
          · obtain ⟨o, ho⟩ := hal₂ a ha; exact ⟨o, kept a ha o ho⟩
          · rcases List.mem_append.mp hm with hm | hm
            · rcases List.mem_cons.mp hm with e | hm
              · exact hLo (e ▸ .head _)
              · exact (List.nodup_append.mp H₄.nodup).2.2 L hm L (.head _) rfl
            · exact hLo (.tail _ (List.mem_append_right _ hm))
        refine wpAny_mono (CTs_run ifs (turn _ FC i ys σ' m hJ hm) _ HC) (fun ok s₃ hpat => ?_) fun _ _ x => x.elim
        obtain ⟨ok', σ₃, e, H₄, h₄⟩ := hpat
        subst e
        cases ok' with
        | false =>
          simp only [Bool.false_eq_true, if_false] at h₄ ⊢
          obtain ⟨b1, b2, b3, b4, b5, b6, b7, b8⟩ := back σ₃ s₃ H₄
          exact ⟨items.length + 1 - (i + 1), by rw [hk]; exact Nat.sub_lt_sub_left (Nat.lt_succ_of_lt hlt) (Nat.lt_succ_self i), i + 1, ys, { σ₃ with loc := σ'.loc }, rfl, hlt, h₄, Nat.le_succ_of_le hyl, b1, b2, b3, b4, b5, b6, b7, b8⟩
        | true =>
          simp only [if_true] at h₄ ⊢
          refine wpAny_mono (h₄ s₃ H₄) (fun yv s₄ hpat => ?_) fun _ _ x => x.elim
          obtain ⟨y, σ₄, hy, H₅, h₅⟩ := hpat
          obtain ⟨b1, b2, b3, b4, b5, b6, b7, b8⟩ := back σ₄ s₄ H₅
          refine wpAny_list_append_OR (b1.own (D, .list ys) (.head _)) hy (Nat.le_trans (Nat.succ_le_succ hyl) (Nat.le_trans hlt hlen)) fun h₆ ho₆ hk₆ => ?_
          have H₆ : Holds C ⟨σ'.loc, σ₄.B, (D, .list (ys ++ [y])) :: σ₄.own⟩ { s₄ with heap := h₆ } := b1.upd (s' := { s₄ with heap := h₆ }) F.ok .head hk₆ ho₆ rfl rfl
          have hfD : ∀ a ∈ fp, a ≠ D := fun a ha => (hfpD a ha).1
          have hLD : L ≠ D := fun e => b7 (e ▸ .head _)
          refine ⟨items.length + 1 - (i + 1), by rw [hk]; exact Nat.sub_lt_sub_left (Nat.lt_succ_of_lt hlt) (Nat.lt_succ_self i), i + 1, ys ++ [y], { σ₄ with loc := σ'.loc }, rfl, hlt, h₅, by rw [List.length_append]; exact Nat.succ_le_succ hyl, H₆, W.walks.frame _ _ _ b2 fun a ha o ho => hk₆ a o (hfD a ha) ho, ?_, b4, fun a ha => ?_, b6, b7, b8⟩
          · obtain ⟨m', o, es, ep, h1, h2⟩ := b3; exact ⟨m', o, es, ep, hk₆ _ _ hLD h1, h2⟩
          · obtain ⟨o, ho⟩ := b5 a ha; exact ⟨o, hk₆ a o (hfD a ha) ho⟩
      · have hin : i = items.length := Nat.le_antisymm hi (Nat.not_lt.mp hlt)
        subst hin
        refine W.walks.done s' _ _ hst fun h' tk hk' => ?_
        have H₂ : Holds C { σ' with own := (D, .list ys) :: σ'.own } { s' with heap := h', toks := tk } := H'.hidden F.ok hk' rfl rfl hap' hnb W.noK W.noAl
        exact fin D L ys σ' _ hJ H₂ ⟨hDm, H₂.apartB D (.head _), fun hm => (List.nodup_cons.mp H₂.nodup).1 (List.mem_append_left _ hm)⟩ ⟨mL, hnsL.at' fun o e => hk' _ o (fun hm => (hfpD L (wsub _ hm)).2 rfl) e⟩ hLo hLB g3 g4
    · rcases List.mem_append.mp hm with hm | hm
      · rcases List.mem_cons.mp hm with e | hm
        · exact (hfpD a ha).1 e
        · exact W.apart a ha (List.mem_append_left _ hm)
      · exact W.apart a ha (List.mem_append_right _ hm)
  exact codeAny_compStart_list (loop _ rfl) (W.walks.self 0 _ _ _ (W.walks.frame _ _ _ W.st fun b _ o e => keep1 b o (keep2 b o e)) (loop _ rfl))
end
end Mine
set_option autoImplicit false
set_option linter.unusedVariables false
set_option linter.unusedSimpArgs false
namespace Mine
open PySem

section
variable {C : Cx} {hb : Heap} {prog : Program} {w : World} {sc cs : Scope} {n : Nat} {md : List Addr} {fl : Bool} {x : Str} {σ : St}

def CompTurns (hb : Heap) (prog : Program) (w : World) (sc cs : Scope) (n : Nat) (md : List Addr) (x : Str) (ifs : List Expr) (elt : Expr) (items : List MV) (J : Nat → List MV → St → Prop) : Prop :=
  ∀ C', Fx C' hb prog w (relab cs sc) n md false → ∀ i ys σ' m, J i ys σ' → items[i]? = some m →
      CTs C' ifs { σ' with loc := put (capt cs σ'.loc) x m } (fun ok σ₁ => if ok then Ex C' elt σ₁ (fun y σ₂ => J (i + 1) (ys ++ [y]) { σ₂ with loc := σ'.loc }) else J (i + 1) ys { σ₁ with loc := σ'.loc })

theorem Ex_ListComp {elt iter : Expr} {px pos : Pos} {ifs : List Expr} {Q : MV → St → Prop} (F : Fx C hb prog w sc n md fl) (K : CompOk cs sc x) (hs : ∀ v, foldedSetIterable iter C.env v = pure v)
    (h : Ex C iter σ (fun v σ₁ => ∃ (items : List MV) (J : Nat → List MV → St → Prop), Itr σ₁ v items ∧ items.length ≤ lim ∧ J 0 [] σ₁ ∧ CompTurns hb prog w sc cs n md x ifs elt items J ∧
      ∀ ys σ', J items.length ys σ' → ∀ a, Fsh md σ' a → Q (.ref a) { σ' with own := (a, .list ys) :: σ'.own })) : Ex C (.ListComp elt [⟨.Name x px, iter, ifs, 0⟩] cs pos) σ Q := fun s H => by
  rw [eval_ListComp]
  show wpAny _ _ (comprehension _ cs C.env _ (newList []) false (eval iter C.env) none) _ _ s
  refine wpAny_comprehension_free rfl hs (F.clo K) K.kind (fun y hy hk => by obtain ⟨y1, y2⟩ := y; dsimp only at hk; subst hk; exact mem_lookup K.nd hy) (wpAny_mono (h s H) (fun vv s₁ hpat => ?_) fun _ _ x => x)
  obtain ⟨v, σ₁, hv, H₁, items, J, it, hlen, J0, turn, fin⟩ := hpat
  refine comp_core F K H₁ it hv hlen J J0 turn fun D L ys σ' s' hJ H' hD hns hLo hLB hLk hLal => ?_
  obtain ⟨m, hns⟩ := hns
  refine ⟨m, hns, fun h' hs' => ⟨.ref D, _, rfl, ?_, fin ys σ' hJ D (F.emod ▸ hD)⟩⟩
  exact H'.hidden (wr := [L]) F.ok (fun b o hb' e => hs'.extBut b o (fun e' => hb' (by simp [e'])) e) rfl rfl (sing hLo) (sing hLB) (sing (P := fun a => ∀ o, ¬ C.kp a o) hLk) (sing (P := fun a => ¬ C.al a) hLal)

theorem Stm_AssignComp {elt iter : Expr} {y : Str} {py px pos spos : Pos} {ifs : List Expr} {Q : MF → St → Prop} (F : Fx C hb prog w sc n md fl) (K : CompOk cs sc x) (hs : ∀ v, foldedSetIterable iter C.env v = pure v)
    (hsw : swapsWith (.ListComp elt [⟨.Name x px, iter, ifs, 0⟩] cs pos) (some (.Name y py)) spos.line C.env = pure true)
    (h : Ex C iter σ (fun v σ₁ => ∃ (items : List MV) (J : Nat → List MV → St → Prop), Itr σ₁ v items ∧ items.length ≤ lim ∧ J 0 [] σ₁ ∧ CompTurns hb prog w sc cs n md x ifs elt items J ∧
      ∀ C', Fx C' hb prog w sc n md fl → ∀ ys σ', J items.length ys σ' → ∀ a, Fsh md σ' a → Store C' y (.ref a) { σ' with own := (a, .list ys) :: σ'.own } (fun σ'' => Q .next σ''))) : Stm C (.Assign [.Name y py] (.ListComp elt [⟨.Name x px, iter, ifs, 0⟩] cs pos) spos) σ Q := fun s H => by
  show wpAny _ _ (exec _ C.env) _ _ s
  rw [exec_Assign_Name_used _ _ _ _ hsw]
  refine wpAny_bind (wpAny_standAt (wpAny_bind ?_))
  show wpAny _ _ (do let _ ← comprehension (.ListComp elt [⟨.Name x px, iter, ifs, 0⟩] cs pos) cs C.env _ (newList []) false (eval iter C.env) (some (assign (.Name y py) C.env))) _ _ s
  refine wpAny_bind (wpAny_mono (wpAny_comprehension_free (Q := fun _ s' => ∃ b σ', FR b .next ∧ Holds C σ' s' ∧ Q b σ') rfl hs (F.clo K) K.kind (fun y hy hk => by obtain ⟨y1, y2⟩ := y; dsimp only at hk; subst hk; exact mem_lookup K.nd hy) (wpAny_mono (h s H) (fun vv s₁ hpat => ?_) fun _ _ x => x))
    (fun _ s' hq => wpAny_pure (wpAny_pure hq)) fun _ _ e => e)
  obtain ⟨v, σ₁, hv, H₁, items, J, it, hlen, J0, turn, fin⟩ := hpat
  refine comp_core F K H₁ it hv hlen J J0 turn fun D L ys σ' s' hJ H' hD hns hLo hLB hLk hLal => ?_
  obtain ⟨m, hns⟩ := hns
  have hLfr : ∀ a ∈ [L], a ∉ C.fr := sing (P := fun a => a ∉ C.fr) fun hm => hLo (.tail _ (List.mem_append_right _ hm))
  have hLalive : ∃ o, s'.heap.get? L = some o := let ⟨o, _, _, ho, _⟩ := hns; ⟨o, ho⟩
  have H₂ := H'.hide (X := [L]) (wr := [L]) (sing (P := fun a => a ∉ _) hLo) (sing (P := fun a => σ'.B a = none) hLB)
  have F₂ : Fx (C.hide s'.heap [L] [L]) hb prog w sc n md fl := F.hide hLfr fun a ha => ⟨ha, by rw [List.mem_singleton.mp ha]; exact hLalive⟩
  refine wpAny_assign_Name (wpAny_mono (fin _ F₂ ys σ' hJ D (F.emod ▸ hD) (.ref D) rfl s' H₂) (fun _ s'' hpat => ?_) fun _ _ x => x)
  obtain ⟨_, σ'', _, H₃, hq⟩ := hpat
  obtain ⟨oL, es, ep, ho, r⟩ := hns
  have kL := H₃.kp L oL (.inr ⟨.head _, ho⟩)
  refine ⟨m, ⟨oL, es, ep, kL, r⟩, fun h' hs' => ⟨.next, σ'', rfl, ?_, hq⟩⟩
  exact H₃.unhide.hidden (wr := [L]) F.ok (fun b o hb' e => hs'.extBut b o (fun e' => hb' (by simp [e'])) e) rfl rfl (sing (P := fun a => a ∉ _) fun hm => H₃.apartK L hm oL (.inr ⟨.head _, ho⟩)) (sing (P := fun a => σ''.B a = none) (H₃.noB L (.inr (.head _))))
    (sing (P := fun a => ∀ o, ¬ C.kp a o) hLk) (sing (P := fun a => ¬ C.al a) hLal)
end
end Mine
set_option autoImplicit false
set_option linter.unusedVariables false
set_option linter.unusedSimpArgs false
namespace Mine
open PySem

section
variable {C : Cx} {hb : Heap} {prog : Program} {w : World} {sc cs : Scope} {n : Nat} {md : List Addr} {fl : Bool} {x : Str} {σ : St}

/-! ints -/
theorem Bin_mul {a b : Int} {Q : MV → St → Prop} (hm : IntMulOk a b) (h : Q (.int (a * b)) σ) : Bin C .Mult (.int a) (.int b) σ Q := fun va vb ha hb s H => by
  obtain ⟨t, rfl⟩ := ha; obtain ⟨u, rfl⟩ := hb
  exact P.mul_int (hm := hm) ⟨.int (a * b), σ, ⟨_, rfl⟩, H.toks _, h⟩
theorem Bin_div {a b : Int} {Q : MV → St → Prop} (h0 : b ≠ 0) (hs : b.natAbs.log2 < 9000) (h : Q (.int (a.fdiv b)) σ) : Bin C .FloorDiv (.int a) (.int b) σ Q := fun va vb ha hb s H => by
  obtain ⟨t, rfl⟩ := ha; obtain ⟨u, rfl⟩ := hb
  exact PyProof.Rows.floordiv_int h0 ⟨.int (a.fdiv b), σ, ⟨_, rfl⟩, H.toks _, h⟩ (.inl (PyProof.noPylong_of_log2 hs))
theorem Bin_mod {a b : Int} {Q : MV → St → Prop} (h0 : b ≠ 0) (hs : b.natAbs.log2 < 9000) (h : Q (.int (a.fmod b)) σ) : Bin C .Mod (.int a) (.int b) σ Q := fun va vb ha hb s H => by
  obtain ⟨t, rfl⟩ := ha; obtain ⟨u, rfl⟩ := hb
  exact PyProof.Rows.mod_int h0 ⟨.int (a.fmod b), σ, ⟨_, rfl⟩, H.toks _, h⟩
theorem Bin_pow {a k : Int} {Q : MV → St → Prop} (h0 : 0 ≤ k) (h1 : k ≤ 1000000) (ha : a.natAbs < 2 ^ 64) (h : Q (.int (a ^ k.toNat)) σ) : Bin C .Pow (.int a) (.int k) σ Q := fun va vb ha' hb s H => by
  obtain ⟨t, rfl⟩ := ha'; obtain ⟨u, rfl⟩ := hb
  exact PyProof.Rows.pow_int_small h0 h1 ha ⟨.int (a ^ k.toNat), σ, ⟨_, rfl⟩, H.toks _, h⟩
theorem Cmp_eq {a b : Int} {Q : MV → St → Prop} (h : Q (.bool (decide (a = b))) σ) : Cmp C .Eq (.int a) (.int b) σ Q := fun va vb ha hb s H => by
  obtain ⟨t, rfl⟩ := ha; obtain ⟨u, rfl⟩ := hb
  exact P.eq_int ⟨.bool (decide (a = b)), σ, rfl, H, h⟩
theorem Cmp_ne {a b : Int} {Q : MV → St → Prop} (h : Q (.bool (!decide (a = b))) σ) : Cmp C .NotEq (.int a) (.int b) σ Q := fun va vb ha hb s H => by
  obtain ⟨t, rfl⟩ := ha; obtain ⟨u, rfl⟩ := hb
  exact P.ne_int ⟨.bool (!decide (a = b)), σ, rfl, H, h⟩
theorem Cmp_lt {a b : Int} {Q : MV → St → Prop} (h : Q (.bool (decide (a < b))) σ) : Cmp C .Lt (.int a) (.int b) σ Q := fun va vb ha hb s H => by
  obtain ⟨t, rfl⟩ := ha; obtain ⟨u, rfl⟩ := hb
  exact P.lt_int ⟨.bool (decide (a < b)), σ, rfl, H, h⟩
theorem Cmp_le {a b : Int} {Q : MV → St → Prop} (h : Q (.bool (decide (a ≤ b))) σ) : Cmp C .LtE (.int a) (.int b) σ Q := fun va vb ha hb s H => by
  obtain ⟨t, rfl⟩ := ha; obtain ⟨u, rfl⟩ := hb
  exact P.le_int ⟨.bool (decide (a ≤ b)), σ, rfl, H, h⟩
theorem Cmp_gt {a b : Int} {Q : MV → St → Prop} (h : Q (.bool (decide (b < a))) σ) : Cmp C .Gt (.int a) (.int b) σ Q := fun va vb ha hb s H => by
  obtain ⟨t, rfl⟩ := ha; obtain ⟨u, rfl⟩ := hb
  exact P.gt_int ⟨.bool (decide (b < a)), σ, rfl, H, h⟩
theorem Cmp_ge {a b : Int} {Q : MV → St → Prop} (h : Q (.bool (decide (b ≤ a))) σ) : Cmp C .GtE (.int a) (.int b) σ Q := fun va vb ha hb s H => by
  obtain ⟨t, rfl⟩ := ha; obtain ⟨u, rfl⟩ := hb
  exact P.ge_int ⟨.bool (decide (b ≤ a)), σ, rfl, H, h⟩
theorem Cmp_isNone {v : MV} {b : Bool} {Q : MV → St → Prop} (hb' : b = match v with | .none => true | .oth u => u == .none | _ => false) (h : Q (.bool b) σ) : Cmp C .Is v .none σ Q := fun va vb ha hb s H => by
  obtain rfl : vb = .none := hb
  refine is_none ⟨.bool b, σ, ?_, H, h⟩
  show Value.bool _ = .bool b
  congr 1
  cases v <;> simp only at hb' <;> subst hb'
  · obtain rfl : va = .none := ha; rfl
  · obtain rfl : va = _ := ha; rfl
  · obtain ⟨t, rfl⟩ := ha; rfl
  · obtain ⟨t, rfl⟩ := ha; rfl
  · obtain rfl : va = _ := ha; rfl
  · obtain rfl : va = _ := ha; rfl
theorem Cmp_isNotNone {v : MV} {b : Bool} {Q : MV → St → Prop} (hb' : b = match v with | .none => false | .oth u => !(u == .none) | _ => true) (h : Q (.bool b) σ) : Cmp C .IsNot v .none σ Q := fun va vb ha hb s H => by
  obtain rfl : vb = .none := hb
  refine isNot_none ⟨.bool b, σ, ?_, H, h⟩
  show Value.bool _ = .bool b
  congr 1
  cases v <;> simp only at hb' <;> subst hb'
  · obtain rfl : va = .none := ha; rfl
  · obtain rfl : va = _ := ha; rfl
  · obtain ⟨t, rfl⟩ := ha; rfl
  · obtain ⟨t, rfl⟩ := ha; rfl
  · obtain rfl : va = _ := ha; rfl
  · obtain rfl : va = _ := ha; rfl

/-! chains of two comparisons -/
theorem Ts_chain2 {l r₁ r₂ : Expr} {o₁ o₂ : CmpOp} {pos : Pos} {Q : Bool → St → Prop} (hm : lastMarks [o₁, o₂] [r₁, r₂] = false)
    (h : Ex C l σ (fun a σ₁ => Ex C r₁ σ₁ (fun b σ₂ => Cmp C o₁ a b σ₂ (fun c σ₃ => Trt C c σ₃ (fun t σ₄ => if t then Ex C r₂ σ₄ (fun d σ₅ => Cmp C o₂ b d σ₅ (fun e σ₆ => Trt C e σ₆ Q)) else Q false σ₄))))) :
    Ts C (.Compare l [o₁, o₂] [r₁, r₂] pos) σ Q := fun s H => by
  refine PyProof.Rows.isTrue_chain (wpAny_mono (h s H) (fun va s₁ hpat => ?_) fun _ _ x => x) hm
  obtain ⟨a, σ₁, ha, H₁, h₁⟩ := hpat
  refine PyProof.Rows.test_link (wpAny_mono (h₁ s₁ H₁) (fun vb s₂ ⟨b, σ₂, hb', H₂, h₂⟩ => wpAny_mono (h₂ va vb ha hb' s₂ H₂) (fun vc s₃ ⟨c, σ₃, hc, H₃, h₃⟩ => wpAny_mono (h₃ vc hc s₃ H₃) (fun t s₄ hpat => ?_) fun _ _ x => x) fun _ _ x => x) fun _ _ x => x)
  obtain ⟨t', σ₄, e, H₄, h₄⟩ := hpat
  subst e
  cases t' with
  | true =>
    refine PyProof.Rows.test_last (wpAny_mono (h₄ s₄ H₄) (fun vd s₅ ⟨d, σ₅, hd, H₅, h₅⟩ => wpAny_mono (h₅ vb vd hb' hd s₅ H₅) (fun ve s₆ ⟨e, σ₆, he, H₆, h₆⟩ => h₆ ve he s₆ H₆) fun _ _ x => x) fun _ _ x => x)
  | false => exact ⟨false, σ₄, rfl, H₄, h₄⟩
theorem Ex_chain2 {l r₁ r₂ : Expr} {o₁ o₂ : CmpOp} {pos : Pos} {Q : MV → St → Prop} (hm : lastMarks [o₁, o₂] [r₁, r₂] = false)
    (h : Ex C l σ (fun a σ₁ => Ex C r₁ σ₁ (fun b σ₂ => Cmp C o₁ a b σ₂ (fun c σ₃ => Trt C c σ₃ (fun t σ₄ => if t then Ex C r₂ σ₄ (fun d σ₅ => Cmp C o₂ b d σ₅ Q) else Q c σ₄))))) :
    Ex C (.Compare l [o₁, o₂] [r₁, r₂] pos) σ Q := fun s H => by
  refine PyProof.Rows.Compare_chain (wpAny_mono (h s H) (fun va s₁ hpat => ?_) fun _ _ x => x) hm
  obtain ⟨a, σ₁, ha, H₁, h₁⟩ := hpat
  refine PyProof.Rows.chain_link (wpAny_mono (h₁ s₁ H₁) (fun vb s₂ ⟨b, σ₂, hb', H₂, h₂⟩ => wpAny_mono (h₂ va vb ha hb' s₂ H₂) (fun vc s₃ ⟨c, σ₃, hc, H₃, h₃⟩ => wpAny_mono (h₃ vc hc s₃ H₃) (fun t s₄ hpat => ?_) fun _ _ x => x) fun _ _ x => x) fun _ _ x => x)
  obtain ⟨t', σ₄, e, H₄, h₄⟩ := hpat
  subst e
  cases t' with
  | true =>
    refine PyProof.Rows.chain_last (wpAny_mono (h₄ s₄ H₄) (fun vd s₅ ⟨d, σ₅, hd, H₅, h₅⟩ => h₅ vb vd hb' hd s₅ H₅) fun _ _ x => x)
  | false => exact ⟨c, σ₄, hc, H₄, h₄⟩

/-! items -/
def noSlice : Expr → Bool
  | .Slice .. => false
  | _ => true
theorem subscripted_plain {e : Expr} {o i : Value} (h : noSlice e = true) : subscripted e false o i = operate [o, i] (getItem o i) := by
  cases e <;> first | rfl | (simp [noSlice] at h)
def SubG (C : Cx) (o i : MV) (σ : St) (Q : MV → St → Prop) : Prop :=
  ∀ s, Holds C σ s → ∀ vo vi, VR o vo → VR i vi → ∃ T id, s.TypeIs vo T ∧ typeLookup (.type T) "__getitem__" = pure (some (.builtin id)) ∧
    wpAny (model C.prog C.w) C.A (getItem vo vi) (fun a s' => ∃ b σ', VR b a ∧ Holds C σ' s' ∧ Q b σ') (fun _ _ => False) s
theorem Ex_Subscript {value slice : Expr} {pos : Pos} {Q : MV → St → Prop} (hs : noSlice slice = true) (h : Ex C value σ (fun o σ₁ => Ex C slice σ₁ (fun i σ₂ => SubG C o i σ₂ Q))) : Ex C (.Subscript value slice pos) σ Q := fun s H => by
  refine PyProof.Rows.Subscript_ (wpAny_mono (h s H) (fun vo s₁ ⟨o, σ₁, ho, H₁, h₁⟩ => wpAny_mono (h₁ s₁ H₁) (fun vi s₂ hpat => ?_) fun _ _ x => x) fun _ _ x => x)
  obtain ⟨i, σ₂, hi, H₂, h₂⟩ := hpat
  obtain ⟨T, id, hT, hl, hw⟩ := h₂ s₂ H₂ vo vi ho hi
  exact PyProof.Rows.tail_any hT hl hw (subscripted_plain hs)
theorem idx_of {k : Int} {len : Nat} {j : Nat} (h0 : 0 ≤ k) (hj : k.toNat = j) (hlt : j < len) : seqIndex? k len = some j := by
  subst hj; exact seqIndex_of h0 (by omega)
theorem lim_lt63 {k : Nat} (h : k ≤ lim) : (k : Int) < 2 ^ 63 := by unfold lim at h; omega
theorem SubG_list {a : Addr} {xs : List MV} {k : Int} {m : MV} {Q : MV → St → Prop} (hh : Has σ a (.list xs)) (h0 : 0 ≤ k) (hm : xs[k.toNat]? = some m) (h : Q m σ) : SubG C (.ref a) (.int k) σ Q := fun s H vo vi ho hi => by
  obtain rfl : vo = .ref a := ho
  obtain ⟨t, rfl⟩ := hi
  obtain ⟨vs, nn, hob, hr, hlim⟩ := H.has hh
  obtain ⟨v, hv, hvr⟩ := hr.get hm
  have hl : s.heap.IsList a vs := ⟨_, hob, rfl, nn, rfl⟩
  have hlt : k.toNat < xs.length := (List.getElem?_eq_some_iff.mp hm).1
  refine ⟨"list", _, hl.typeIs, list_getitem_lookup, wpAny_getItem_list hl h0 ?_ (by rw [← Array.getElem?_toList]; exact hv) ⟨m, σ, hvr, H, h⟩⟩
  unfold lim at hlim; omega
theorem SubG_tup {a : Addr} {xs : List MV} {k : Int} {m : MV} {Q : MV → St → Prop} (hh : Has σ a (.tup xs)) (h0 : 0 ≤ k) (hm : xs[k.toNat]? = some m) (h : Q m σ) : SubG C (.ref a) (.int k) σ Q := fun s H vo vi ho hi => by
  obtain rfl : vo = .ref a := ho
  obtain ⟨t, rfl⟩ := hi
  obtain ⟨vs, nn, hob, hr, hlim⟩ := H.has hh
  obtain ⟨v, hv, hvr⟩ := hr.get hm
  have hlt : k.toNat < xs.length := (List.getElem?_eq_some_iff.mp hm).1
  have hsz : vs.size = xs.length := by have := hr.length; simp at this; exact this.symm
  unfold lim at hlim
  exact ⟨"tuple", _, ⟨_, hob, rfl⟩, F.slot_tuple_getitem.lookup, P.getItem_tuple (n := nn) hob (by omega) (by omega) (idx_of h0 rfl (by omega)) (by rw [← Array.getElem?_toList]; exact hv) ⟨m, σ, hvr, H, h⟩⟩

/-! a store at an index of an owned list -/
theorem Stm_SetItem {o i e : Expr} {p' pos : Pos} {Q : MF → St → Prop} (hs : swapsWith e (some (.Subscript o i p')) pos.line C.env = pure false)
    (h : Ex C e σ (fun v σ₁ => Ex C o σ₁ (fun ov σ₂ => Ex C i σ₂ (fun iv σ₃ => ∀ s, Holds C σ₃ s → ∀ vv vo vi, VR v vv → VR ov vo → VR iv vi →
      wpAny (model C.prog C.w) C.A (setItem vo vi vv) (fun _ s' => ∃ σ', Holds C σ' s' ∧ Q .next σ') (fun _ _ => False) s)))) : Stm C (.Assign [.Subscript o i p'] e pos) σ Q := fun s H => by
  refine wpAny_Assign_Subscript (hs := hs) (wpAny_mono (h s H) (fun vv s₁ ⟨v, σ₁, hv, H₁, h₁⟩ => wpAny_mono (h₁ s₁ H₁) (fun vo s₂ ⟨ov, σ₂, ho, H₂, h₂⟩ => wpAny_mono (h₂ s₂ H₂) (fun vi s₃ hpat => ?_) fun _ _ x => x) fun _ _ x => x) fun _ _ x => x)
  obtain ⟨iv, σ₃, hi, H₃, h₃⟩ := hpat
  exact wpAny_mono (h₃ s₃ H₃ vv vo vi hv ho hi) (fun _ s' ⟨σ', H', hq⟩ => ⟨.next, σ', rfl, H', hq⟩) fun _ _ x => x
end
end Mine
set_option autoImplicit false
set_option linter.unusedVariables false
set_option linter.unusedSimpArgs false
namespace Mine
open PySem

section
variable {C : Cx} {hb : Heap} {prog : Program} {w : World} {sc cs : Scope} {n : Nat} {md : List Addr} {fl : Bool} {x : Str} {σ : St}

structure IsFn (hb : Heap) (fa : Addr) : Prop where
  ex : ∃ o fd, hb.get? fa = some o ∧ o.data = .func fd

theorem Ex_CallFn {f : Str} {p pos : Pos} {e : Expr} {rest : List Expr} {fa : Addr} {Q : MV → St → Prop} (OK : C.Ok hb) (g : Gl hb f (.ref fa)) (hk : C.env.kindOf f = some .globalImplicit) (hf : IsFn hb fa)
    (he : starEach (e :: rest) C.env = (false, eval e C.env) :: starEach rest C.env)
    (h : Exs C pos (e :: rest) σ (fun vs σ₁ => CallV C (.ref fa) vs σ₁ Q)) : Ex C (.Call (.Name f p) (e :: rest) [] pos) σ Q := fun s H => by
  obtain ⟨o, fd, ho, hd⟩ := hf.ex
  refine PyProof.Rows.Call_ (wpAny_mono (Ex_global (Q := fun v σ' => v = .ref fa ∧ σ' = σ) OK g hk ⟨rfl, rfl⟩ s H) (fun vf s₁ hpat => ?_) fun _ _ x => x)
  obtain ⟨_, _, hv, H₁, e1, e2⟩ := hpat
  subst e1 e2
  obtain rfl : vf = .ref fa := hv
  exact PyProof.Rows.callWith_def (o := o) hd (wpAny_mono (h s₁ H₁) (fun vs s₂ ⟨ms, σ₂, hms, H₂, h₂⟩ => ⟨H₂.base OK _ _ ho, h₂ vs hms s₂ H₂⟩) fun _ _ x => x) he
theorem Ex_CallB {f : Str} {p pos : Pos} {e : Expr} {rest : List Expr} {id : String} {Q : MV → St → Prop} (OK : C.Ok hb) (g : Gl hb f (.oth (.builtin id))) (hk : C.env.kindOf f = some .globalImplicit)
    (he : starEach (e :: rest) C.env = (false, eval e C.env) :: starEach rest C.env) (hplain : (backTo pos (starEach rest C.env)).any (·.1) = false)
    (h : Exs C pos (e :: rest) σ (fun vs σ₁ => CallV C (.builtin id) vs σ₁ Q)) : Ex C (.Call (.Name f p) (e :: rest) [] pos) σ Q := fun s H => by
  refine PyProof.Rows.Call_ (wpAny_mono (Ex_global (Q := fun v σ' => v = .oth (.builtin id) ∧ σ' = σ) OK g hk ⟨rfl, rfl⟩ s H) (fun vf s₁ hpat => ?_) fun _ _ x => x)
  obtain ⟨_, _, hv, H₁, e1, e2⟩ := hpat
  subst e1 e2
  obtain rfl : vf = .builtin id := hv
  exact PyProof.Rows.callWith_builtin1 (wpAny_mono (h s₁ H₁) (fun vs s₂ ⟨ms, σ₂, hms, H₂, h₂⟩ => h₂ vs hms s₂ H₂) fun _ _ x => x) he hplain
theorem Ex_CallT {f : Str} {p pos : Pos} {e : Expr} {rest : List Expr} {T : String} {Q : MV → St → Prop} (OK : C.Ok hb) (g : Gl hb f (.oth (.type T))) (hk : C.env.kindOf f = some .globalImplicit)
    (he : starEach (e :: rest) C.env = (false, eval e C.env) :: starEach rest C.env) (hplain : (backTo pos (starEach (e :: rest) C.env)).any (·.1) = false)
    (h : Exs C pos (e :: rest) σ (fun vs σ₁ => CallV C (.type T) vs σ₁ Q)) : Ex C (.Call (.Name f p) (e :: rest) [] pos) σ Q := fun s H => by
  refine PyProof.Rows.Call_ (wpAny_mono (Ex_global (Q := fun v σ' => v = .oth (.type T) ∧ σ' = σ) OK g hk ⟨rfl, rfl⟩ s H) (fun vf s₁ hpat => ?_) fun _ _ x => x)
  obtain ⟨_, _, hv, H₁, e1, e2⟩ := hpat
  subst e1 e2
  obtain rfl : vf = .type T := hv
  refine callWith_type hplain ?_
  have hx : backTo pos (starEach (e :: rest) C.env) = (false, eval e C.env) :: backTo pos (starEach rest C.env) := by rw [he]; rfl
  rw [hx]
  refine Calls.evalArgs_plain ?_
  rw [← hx]
  exact wpAny_mono (h s₁ H₁) (fun vs s₂ ⟨ms, σ₂, hms, H₂, h₂⟩ => h₂ vs hms s₂ H₂) fun _ _ x => x

theorem VsR.one {m : MV} {vs : List Value} (h : VsR [m] vs) : ∃ v, vs = [v] ∧ VR m v := by
  cases h with | cons h1 h2 => cases h2; exact ⟨_, rfl, h1⟩
theorem VsR.two {m m' : MV} {vs : List Value} (h : VsR [m, m'] vs) : ∃ v v', vs = [v, v'] ∧ VR m v ∧ VR m' v' := by
  cases h with | cons h1 h2 => cases h2 with | cons h3 h4 => cases h4; exact ⟨_, _, rfl, h1, h3⟩

theorem Call_len_list {a : Addr} {xs : List MV} {Q : MV → St → Prop} (hh : Has σ a (.list xs)) (h : Q (.int xs.length) σ) : CallV C (.builtin "len") [.ref a] σ Q := fun vs hvs s H => by
  obtain ⟨v, rfl, hv⟩ := hvs.one
  obtain rfl : v = .ref a := hv
  obtain ⟨vs, nn, hob, hr, hlim⟩ := H.has hh
  have hsz : vs.size = xs.length := by have := hr.length; simp at this; exact this.symm
  refine Calls.call_len_list (items := vs) ⟨_, hob, rfl, nn, rfl⟩ (by rw [hsz]; exact lim_lt63 hlim) ⟨.int xs.length, σ, ?_, H.toks _, h⟩
  rw [hsz]; exact ⟨_, rfl⟩
theorem Call_len_tup {a : Addr} {xs : List MV} {Q : MV → St → Prop} (hh : Has σ a (.tup xs)) (h : Q (.int xs.length) σ) : CallV C (.builtin "len") [.ref a] σ Q := fun vs hvs s H => by
  obtain ⟨v, rfl, hv⟩ := hvs.one
  obtain rfl : v = .ref a := hv
  obtain ⟨vs, nn, hob, hr, hlim⟩ := H.has hh
  have hsz : vs.size = xs.length := by have := hr.length; simp at this; exact this.symm
  refine P.len_tuple (items := vs) (n := nn) hob (by rw [hsz]; have := lim_lt63 hlim; omega) ⟨.int xs.length, σ, ?_, H.toks _, h⟩
  rw [hsz]; exact ⟨_, rfl⟩

theorem Call_list_list {a : Addr} {xs : List MV} {Q : MV → St → Prop} (OK : C.Ok hb) (hh : Has σ a (.list xs)) (h : ∀ b, Fsh C.mod σ b → Q (.ref b) { σ with own := (b, .list xs) :: σ.own }) : CallV C (.type "list") [.ref a] σ Q := fun vs hvs s H => by
  obtain ⟨v, rfl, hv⟩ := hvs.one
  obtain rfl : v = .ref a := hv
  obtain ⟨vs, nn, hob, hr, hlim⟩ := H.has hh
  have hsz : vs.size = xs.length := by have := hr.length; simp at this; exact this.symm
  refine call_list_seq a (.inl rfl) hob rfl rfl (fun h' c' hk hD => ?_) (by rw [hsz]; exact Nat.le_trans hlim lim_le)
  refine ⟨.ref s.heap.objs.size, { σ with own := (s.heap.objs.size, .list xs) :: σ.own }, rfl, ?_, h _ (H.fsh OK)⟩
  exact (H.ext (s' := { s with heap := h' }) hk rfl rfl).addO (fresh_facts H) ⟨vs, c', hD, hr, hlim⟩

theorem Call_range {k : Int} {Q : MV → St → Prop} (h0 : 0 ≤ k) (h1 : k.toNat ≤ lim) (h : ∀ a, Q (.ref a) { σ with own := (a, .range k.toNat) :: σ.own }) : CallV C (.type "range") [.int k] σ Q := fun vs hvs s H => by
  obtain ⟨v, rfl, t, rfl⟩ := hvs.one
  refine call_range_1 ⟨.ref s.heap.objs.size, _, rfl, (H.new (mo := .range k.toNat) ⟨s.toks, t, s.toks + 1, ?_, h1⟩).toks _, h _⟩
  have : ((k.toNat : Nat) : Int) = k := by omega
  show (s.heap.push _).get? _ = _
  rw [this]; exact Heap.get?_push_size _ rfl

theorem Call_isi {m : MV} {T : String} {b : Bool} {Q : MV → St → Prop} (hi : ∀ s, Holds C σ s → ∀ v, VR m v → ∀ Q' : Value → Shared → Prop, (∀ t, Q' (.bool b) { s with toks := t }) → wpAny (model C.prog C.w) C.A (call (.builtin "isinstance") [v, .type T]) Q' (fun _ _ => False) s)
    (h : Q (.bool b) σ) : CallV C (.builtin "isinstance") [m, .oth (.type T)] σ Q := fun vs hvs s H => by
  obtain ⟨v, v', rfl, hv, hv'⟩ := hvs.two
  obtain rfl : v' = .type T := hv'
  exact hi s H v hv _ fun t => ⟨.bool b, σ, rfl, H.toks t, h⟩
theorem isi_int_int {i : Int} {Q : MV → St → Prop} (h : Q (.bool true) σ) : CallV C (.builtin "isinstance") [.int i, .oth (.type "int")] σ Q :=
  Call_isi (b := true) (fun s H v hv Q' hq => by obtain ⟨t, rfl⟩ := hv; exact IsiPair.int_int (hq s.toks)) h
theorem isi_int_bool {i : Int} {Q : MV → St → Prop} (h : Q (.bool false) σ) : CallV C (.builtin "isinstance") [.int i, .oth (.type "bool")] σ Q :=
  Call_isi (b := false) (fun s H v hv Q' hq => by obtain ⟨t, rfl⟩ := hv; exact IsiPair.int_bool (hq _)) h
theorem isi_list_list {a : Addr} {xs : List MV} {Q : MV → St → Prop} (hh : Has σ a (.list xs)) (h : Q (.bool true) σ) : CallV C (.builtin "isinstance") [.ref a, .oth (.type "list")] σ Q :=
  Call_isi (b := true) (fun s H v hv Q' hq => by obtain rfl : v = .ref a := hv; obtain ⟨vs, nn, hob, _⟩ := H.has hh; exact IsiPair.list_list hob rfl (hq s.toks)) h
theorem isi_tup_tup {a : Addr} {xs : List MV} {Q : MV → St → Prop} (hh : Has σ a (.tup xs)) (h : Q (.bool true) σ) : CallV C (.builtin "isinstance") [.ref a, .oth (.type "tuple")] σ Q :=
  Call_isi (b := true) (fun s H v hv Q' hq => by obtain rfl : v = .ref a := hv; obtain ⟨vs, nn, hob, _⟩ := H.has hh; exact IsiPair.tuple_tuple hob rfl (hq s.toks)) h

theorem Cmp_eqStr {a b : Str} {Q : MV → St → Prop} (h : Q (.bool (decide (a = b))) σ) : Cmp C .Eq (.str a) (.str b) σ Q := fun va vb ha hb s H => by
  obtain ⟨t, rfl⟩ := ha; obtain ⟨u, rfl⟩ := hb
  refine P.eq_str ⟨.bool (decide (a = b)), σ, ?_, H, h⟩
  show Value.bool _ = _
  congr 1
  by_cases hab : a = b
  · subst hab; simp
  · rw [decide_eq_false hab]
    refine beq_eq_false_iff_ne.mpr fun hl => hab ?_
    cases a; cases b
    simp only [Str.mk.injEq]
    exact Array.toList_inj.mp hl
theorem Call_max {a b : Int} {Q : MV → St → Prop} (OK : C.Ok hb) (h : Q (.int (max a b)) σ) : CallV C (.builtin "max") [.int a, .int b] σ Q := fun vs hvs s H => by
  obtain ⟨v, v', rfl, ⟨t, rfl⟩, ⟨u, rfl⟩⟩ := hvs.two
  refine max_two_ints OK.handled fun h' tk hk => ?_
  refine ⟨.int (max a b), σ, ?_, H.ext hk rfl rfl, h⟩
  split
  · exact ⟨_, by congr 1; omega⟩
  · exact ⟨_, by congr 1; omega⟩
theorem Call_min {a b : Int} {Q : MV → St → Prop} (OK : C.Ok hb) (h : Q (.int (min a b)) σ) : CallV C (.builtin "min") [.int a, .int b] σ Q := fun vs hvs s H => by
  obtain ⟨v, v', rfl, ⟨t, rfl⟩, ⟨u, rfl⟩⟩ := hvs.two
  refine min_two_ints OK.handled fun h' tk hk => ?_
  refine ⟨.int (min a b), σ, ?_, H.ext hk rfl rfl, h⟩
  split
  · exact ⟨_, by congr 1; omega⟩
  · exact ⟨_, by congr 1; omega⟩

set_option maxRecDepth 100000 in
end
end Mine
set_option autoImplicit false
set_option linter.unusedVariables false
set_option linter.unusedSimpArgs false
namespace Mine
open PySem PySem.SeqAt

section
variable {C : Cx} {hb : Heap} {prog : Program} {w : World} {sc cs : Scope} {n : Nat} {md : List Addr} {fl : Bool} {x : Str} {σ : St}

theorem Ex_append {o e : Expr} {apos pos : Pos} {Q : MV → St → Prop} (OK : C.Ok hb) (hbase : attributeBase o "append" C.env (eval o C.env) = eval o C.env) (hline : (apos.endLine == pos.line) = true)
    (he : backTo pos (starEach [e] C.env) = [(false, eval e C.env)])
    (h : Ex C o σ (fun ov σ₁ => ∃ a xs, ov = .ref a ∧ Has σ₁ a (.list xs) ∧ Ex C e σ₁ (fun v σ₂ => ∃ ys own', Upd σ₂.own a (.list ys) (.list (ys ++ [v])) own' ∧ ys.length + 1 ≤ lim ∧ Q .none { σ₂ with own := own' }))) :
    Ex C (.Call (.Attribute o "append" apos) [e] [] pos) σ Q := fun s H => by
  refine wpAny_Call_method hbase (by rw [he]; rfl) hline F.plainAttrs_list F.slot_list_append F.type_list_append (wpAny_mono (h s H) (fun vo s₁ hpat => ?_) fun _ _ x => x)
  obtain ⟨ov, σ₁, ho, H₁, a, xs, e1, hh, h₁⟩ := hpat
  subst e1
  obtain rfl : vo = .ref a := ho
  obtain ⟨vs, nn, hob, hr, hlim⟩ := H₁.has hh
  refine ⟨⟨_, hob, rfl⟩, fun b e' => by cases e'; exact ⟨_, hob, rfl⟩, ?_⟩
  rw [he]
  refine P.append_list (wpAny_mono (h₁ s₁ H₁) (fun v s₂ hpat => ?_) fun _ _ x => x)
  obtain ⟨m, σ₂, hv, H₂, ys, own', u, hl, hq⟩ := hpat
  obtain ⟨vs', n', hob', hr', hlim'⟩ := H₂.own _ u.mem
  have hsz : vs'.size = ys.length := by have := hr'.length; simp at this; exact this.symm
  refine ⟨vs', n', by rw [hsz]; exact Nat.le_trans hlim' lim_le, hob', .none, { σ₂ with own := own' }, rfl, ?_, hq⟩
  refine H₂.upd OK u (fun b ob hb' e' => by rw [Heap.get?_update_other _ _ (Ne.symm hb')]; exact e') ?_ rfl rfl
  refine ⟨vs'.push v, _, IsL.update hob' fun xs => xs.push v, ?_, by simpa using hl⟩
  simpa using hr'.snoc hv

/-! equality -/
inductive EqM (σ : St) : MV → MV → Bool → Prop
  | same (a : Addr) : EqM σ (.ref a) (.ref a) true
  | int (i j : Int) : EqM σ (.int i) (.int j) (decide (i = j))
  | str (x y : Str) : EqM σ (.str x) (.str y) (decide (x = y))
  | none : EqM σ .none .none true
  | bool (b : Bool) : EqM σ (.bool b) (.bool b) true

theorem EqM.at {s : Shared} (H : Holds C σ s) {m m' : MV} {b : Bool} (h : EqM σ m m' b) {v v' : Value} (hv : VR m v) (hv' : VR m' v') (A : Around) : EqAt A s v v' b := by
  cases h with
  | same a => obtain rfl : v = _ := hv; obtain rfl : v' = _ := hv'; exact EqAt.same _
  | int i j => obtain ⟨t, rfl⟩ := hv; obtain ⟨u, rfl⟩ := hv'; exact (MeetsSeq.EqGives.int i j t u).at A s
  | str x y => obtain ⟨t, rfl⟩ := hv; obtain ⟨u, rfl⟩ := hv'; exact fun prog w E Q hq => wpAny_eqBool_str hq
  | none => obtain rfl : v = _ := hv; obtain rfl : v' = _ := hv'; exact EqAt.same _
  | bool b => obtain rfl : v = _ := hv; obtain rfl : v' = _ := hv'; exact EqAt.same _

end
end Mine
set_option autoImplicit false
set_option linter.unusedVariables false
set_option linter.unusedSimpArgs false
namespace Mine
open PySem

def Sub0 (B B' : MH) : Prop := ∀ a o, B a = some o → B' a = some o
theorem Sub0.rfl' (B : MH) : Sub0 B B := fun _ _ h => h
section
variable {C : Cx} {hb : Heap} {prog : Program} {w : World} {sc cs : Scope} {n : Nat} {md : List Addr} {fl : Bool} {x : Str} {σ : St}

theorem Holds.drop {s : Shared} {B₂ : MH} {own₂ : Own} (H : Holds C σ s) (h1 : Sub0 B₂ σ.B) (h2 : Sub0 C.B0 B₂) (h3 : own₂.Sublist σ.own) : Holds C { σ with B := B₂, own := own₂ } s := by
  have hsub : (own₂.map (·.1) ++ C.fr).Sublist (σ.own.map (·.1) ++ C.fr) := (h3.map _).append (List.Sublist.refl _)
  have bn : ∀ a, σ.B a = none → B₂ a = none := fun a ha => by
    cases e : B₂ a with
    | none => rfl
    | some o => rw [h1 a o e] at ha; cases ha
  exact {
    kp := H.kp, names := H.names, ns := H.ns, cells := H.cells, alive := H.alive, gens := H.gens, os := H.os, al := H.al
    B := fun a o h => H.B a o (h1 a o h)
    own := fun p hp => H.own p (h3.mem hp)
    nodup := hsub.nodup H.nodup
    apartB := fun a ha => bn a (H.apartB a (hsub.mem ha))
    apartK := fun a ha => H.apartK a (hsub.mem ha)
    B0 := h2
    Bnew := fun a o h => H.Bnew a o (h1 a o h)
    ownNew := fun p hp => H.ownNew p (h3.mem hp)
    noB := fun a ha => bn a (H.noB a ha) }

end
end Mine
set_option autoImplicit false
set_option linter.unusedVariables false
set_option linter.unusedSimpArgs false
namespace Mine
open PySem

def bodyAt (p : Program) (i : Nat) : List Stmt := match p.main.body[i]? with | some (.FunctionDef _ _ b _ _ _ _ _ _ _) => b | _ => []
def scopeAt (p : Program) (i : Nat) : Scope := match p.main.body[i]? with | some (.FunctionDef _ _ _ _ _ _ s _ _ _) => s | _ => default
def paramsAt (p : Program) (i : Nat) : List Str := match p.main.body[i]? with | some (.FunctionDef _ a _ _ _ _ _ _ _ _) => a.args.map (·.arg) | _ => []

/-- a global function with its contract -/
structure FnC (prog : Program) (w : World) (hb : Heap) (f : Str) (n : Nat) (S : Spec) : Prop where
  ex : ∃ fa, Gl hb f (.ref fa) ∧ IsFn hb fa ∧ Contract prog w hb (.ref fa) n S

section
variable {C : Cx} {hb : Heap} {prog : Program} {w : World} {sc cs : Scope} {n : Nat} {md : List Addr} {fl : Bool} {x : Str} {σ : St}

theorem Fx.kind (F : Fx C hb prog w sc n md fl) {x : Str} {k : NameKind} (h : sc.names.lookup x = some k) : C.env.kindOf x = some k := by unfold Env.kindOf; rw [F.esc]; exact h

theorem look_hd {l : Loc} {x : Str} {v : MV} : look ((x, v) :: l) x = some v := by simp [look]
theorem look_tl {l : Loc} {x y : Str} {u v : MV} (h : x ≠ y) (h' : look l x = some v) : look ((y, u) :: l) x = some v := by simp only [look, h, if_false]; exact h'
theorem put_nil {x : Str} {v : MV} : put [] x v = [(x, v)] := rfl
theorem put_hd {l : Loc} {x : Str} {u v : MV} : put ((x, u) :: l) x v = (x, v) :: l := by simp [put]
theorem put_tl {l l' : Loc} {x y : Str} {u v : MV} (h : x ≠ y) (h' : put l x v = l') : put ((y, u) :: l) x v = (y, u) :: l' := by simp only [put, h, if_false, h']
theorem capt_nil : capt cs [] = [] := rfl
theorem capt_keep {l l' : Loc} {y : Str} {u : MV} (h : cs.names.lookup y = some .free) (h' : capt cs l = l') : capt cs ((y, u) :: l) = (y, u) :: l' := by simp only [capt, h, if_true, h']
theorem capt_skip {l l' : Loc} {y : Str} {u : MV} (h : cs.names.lookup y ≠ some .free) (h' : capt cs l = l') : capt cs ((y, u) :: l) = l' := by simp only [capt, h, if_false, h']

theorem map_toNat_inj : ∀ {a b : List Char}, a.map Char.toNat = b.map Char.toNat → a = b
  | [], [], _ => rfl
  | x :: a, y :: b, h => by
    simp only [List.map_cons, List.cons.injEq] at h
    have e : x = y := Char.ext (UInt32.toNat_inj.mp h.1)
    rw [e, map_toNat_inj h.2]
  | [], _ :: _, h => by simp at h
  | _ :: _, [], h => by simp at h
theorem ofString_ne {a b : String} (h : a ≠ b) : Str.ofString a ≠ Str.ofString b := fun e => h (by
  rw [Str.ofString_eq_toList, Str.ofString_eq_toList] at e
  have e1 := congrArg Array.toList (Str.mk.inj e)
  simp only [] at e1
  exact String.toList_injective (map_toNat_inj e1))

theorem Ex_loc {x : Str} {pos : Pos} {m : MV} {Q : MV → St → Prop} (F : Fx C hb prog w sc n md fl) (hl : look σ.loc x = some m) (hn : okName x = true) (h : Q m σ) : Ex C (.Name x pos) σ Q := Ex_local F.ok hl hn h
theorem Ex_glb {x : Str} {pos : Pos} {m : MV} {Q : MV → St → Prop} (F : Fx C hb prog w sc n md fl) (g : Gl hb x m) (hk : sc.names.lookup x = some .globalImplicit) (h : Q m σ) : Ex C (.Name x pos) σ Q := Ex_global F.ok g (F.kind hk) h
theorem Store_loc {x : Str} {m : MV} {l' : Loc} {Q : St → Prop} (F : Fx C hb prog w sc n md fl) (hk : sc.names.lookup x = some .local) (hp : put σ.loc x m = l') (h : Q { σ with loc := l' }) : Store C x m σ Q := Store_local F.ok (F.kind hk) (hp ▸ h)
theorem Store_cel {x : Str} {m : MV} {l' : Loc} {Q : St → Prop} (F : Fx C hb prog w sc n md true) (hk : sc.names.lookup x = some .cell) (hp : put σ.loc x m = l') (h : Q { σ with loc := l' }) : Store C x m σ Q :=
  Store_cell F.ok (F.kind hk) (F.full rfl x hk) (hp ▸ h)
theorem Ex_CallC {f : Str} {p pos : Pos} {e : Expr} {rest : List Expr} {k : Nat} {S : Spec} {Q : MV → St → Prop} (F : Fx C hb prog w sc n md fl) (hf : FnC prog w hb f k S) (hk : sc.names.lookup f = some .globalImplicit) (hn : k ≤ n)
    (he : starEach (e :: rest) C.env = (false, eval e C.env) :: starEach rest C.env)
    (h : Exs C pos (e :: rest) σ (fun vs σ₁ => S vs σ₁.B [] (fun m B' own' => Q m { σ₁ with B := B', own := own' ++ σ₁.own }))) : Ex C (.Call (.Name f p) (e :: rest) [] pos) σ Q := by
  obtain ⟨fa, g, hi, ct⟩ := hf.ex
  refine Ex_CallFn F.ok g (F.kind hk) hi he (Tr.mono h fun vs σ₁ h₁ => ?_)
  have ct' : Contract C.prog C.w hb (.ref fa) k S := by rw [F.eprog, F.ew]; exact ct
  exact CallV_ct0 F.ok ct' (by rw [F.eroom]; exact hn) h₁
end
end Mine
namespace Mine
section
set_option autoImplicit false
set_option linter.unusedVariables false
set_option linter.unusedSimpArgs false
open PySem

def setB (B : MH) (a : Addr) (o : MO) : MH := fun b => if b = a then some o else B b
theorem setB_self {B : MH} {a : Addr} {o : MO} : setB B a o a = some o := by simp [setB]
theorem setB_ne {B : MH} {a b : Addr} {o : MO} (h : b ≠ a) : setB B a o b = B b := by simp [setB, h]
inductive Del : Own → Addr → MO → Own → Prop
  | head {a : Addr} {o : MO} {r : Own} : Del ((a, o) :: r) a o r
  | tail {a : Addr} {o : MO} {p : Addr × MO} {r r' : Own} : Del r a o r' → Del (p :: r) a o (p :: r')
/-- states that follow from a state -/
inductive Cv (md : List Addr) : St → St → Prop
  | refl (σ : St) : Cv md σ σ
  | trans {σ₁ σ₂ σ₃ : St} : Cv md σ₁ σ₂ → Cv md σ₂ σ₃ → Cv md σ₁ σ₃
  | loc {l l' : Loc} {B : MH} {own : Own} : (∀ x v, look l' x = some v → look l x = some v) → Cv md ⟨l, B, own⟩ ⟨l', B, own⟩
  | own {l : Loc} {B : MH} {own own₂ : Own} : own₂.Sublist own → Cv md ⟨l, B, own⟩ ⟨l, B, own₂⟩
  | perm {l : Loc} {B : MH} {own own₂ : Own} : own.Perm own₂ → Cv md ⟨l, B, own⟩ ⟨l, B, own₂⟩
  | frz {l : Loc} {B : MH} {a : Addr} {o : MO} {own : Own} : a ∉ md → Cv md ⟨l, B, (a, o) :: own⟩ ⟨l, setB B a o, own⟩

section
variable {C : Cx} {hb : Heap} {prog : Program} {w : World} {sc cs : Scope} {n : Nat} {md : List Addr} {fl : Bool} {x : Str} {σ : St}

theorem Holds.frz {s : Shared} {l : Loc} {B : MH} {a : Addr} {o : MO} {own : Own} (OK : C.Ok hb) (H : Holds C ⟨l, B, (a, o) :: own⟩ s) (ha : a ∉ C.mod) : Holds C ⟨l, setB B a o, own⟩ s := by
  have nd : (a :: (own.map (·.1) ++ C.fr)).Nodup := H.nodup
  have nd1 := List.nodup_cons.mp nd
  have hBa : B a = none := H.apartB a (.head _)
  have nal : ¬ C.al a := (H.ownNew (a, o) (.head _)).resolve_right ha
  exact {
    kp := H.kp, names := H.names, ns := H.ns, cells := H.cells, alive := H.alive, gens := H.gens, os := H.os, al := H.al
    B := fun b ob h => by
      by_cases hab : b = a
      · subst hab; have h : setB B b o b = some ob := h; rw [setB_self] at h; cases h; exact H.own (b, o) (.head _)
      · have h : setB B a o b = some ob := h; rw [setB_ne hab] at h; exact H.B b ob h
    own := fun p hp => H.own p (.tail _ hp)
    nodup := nd1.2
    apartB := fun b hb' => by
      show setB B a o b = none
      have hne : b ≠ a := fun e => by subst e; exact nd1.1 hb'
      rw [setB_ne hne]; exact H.apartB b (.tail _ hb')
    apartK := fun b hb' => H.apartK b (.tail _ hb')
    B0 := fun b ob h => by
      have := H.B0 b ob h
      show setB B a o b = some ob
      have hne : b ≠ a := fun e => by subst e; rw [show B b = some ob from this] at hBa; cases hBa
      rw [setB_ne hne]; exact this
    Bnew := fun b ob h => by
      by_cases hab : b = a
      · subst hab; exact .inr nal
      · have h : setB B a o b = some ob := h; rw [setB_ne hab] at h; exact H.Bnew b ob h
    ownNew := fun p hp => H.ownNew p (.tail _ hp)
    noB := fun b hb' => by
      show setB B a o b = none
      have hne : b ≠ a := fun e => by subst e; obtain ⟨ob, hob⟩ := OK.noKp b hb'; exact H.apartK b (.head _) ob hob
      rw [setB_ne hne]; exact H.noB b hb' }

theorem Holds.loc {s : Shared} {l l' : Loc} {B : MH} {own : Own} (H : Holds C ⟨l, B, own⟩ s) (h : ∀ x v, look l' x = some v → look l x = some v) : Holds C ⟨l', B, own⟩ s := { H with names := fun x v hx => H.names x v (h x v hx) }
theorem Cv.holds (OK : C.Ok hb) (hm : C.mod = md) {σ σ' : St} (c : Cv md σ σ') : ∀ {s : Shared}, Holds C σ s → Holds C σ' s := by
  induction c with
  | refl => exact id
  | trans _ _ ih1 ih2 => exact fun H => ih2 (ih1 H)
  | loc h => exact fun H => H.loc h
  | own h => exact fun H => H.drop (Sub0.rfl' _) H.B0 h
  | perm h => exact fun H => H.perm h
  | frz h => exact fun H => H.frz OK (hm ▸ h)
theorem Tr.cv {α β : Type} {t : Sem α} {R : β → α → Prop} {σ' : St} {Q : β → St → Prop} (F : Fx C hb prog w sc n md fl) (c : Cv md σ σ') (h : Tr C t R σ' Q) : Tr C t R σ Q := fun s H => h s (c.holds F.ok F.emod H)
theorem Sts_cv {sts : List Stmt} {σ' : St} {Q : MF → St → Prop} (F : Fx C hb prog w sc n md fl) (c : Cv md σ σ') (h : Sts C sts σ' Q) : Sts C sts σ Q := Tr.cv F c h
theorem Stm_cv {st : Stmt} {σ' : St} {Q : MF → St → Prop} (F : Fx C hb prog w sc n md fl) (c : Cv md σ σ') (h : Stm C st σ' Q) : Stm C st σ Q := Tr.cv F c h

/-- the end of a function's text -/
def End (md : List Addr) (Q : MV → MH → Own → Prop) (r : MV) (σ : St) : Prop := ∃ σ₂, Cv md σ σ₂ ∧ Q r σ₂.B σ₂.own
theorem Contract.of {f : Addr} {ps : List Str} {body : List Stmt} {scope : Scope} {S : Spec} (F : FnIs hb f ps body scope) (hlim : hb.NoLimit)
    (hS : ∀ args B own Q, S args B own Q → args.length = ps.length)
    (h : ∀ (C : Cx) args B own Q, Fx C hb prog w scope n (own.map (·.1)) true → S args B own Q → Sts C body ⟨ps.zip args, B, own⟩ (fun fl σ' => End (own.map (·.1)) Q (retOf fl) σ')) : Contract prog w hb (.ref f) (n + 1) S := by
  refine Contract.intro F hlim hS fun C OK h1 h2 h3 h4 h5 h6 args B own Q hm hB0 hs => ?_
  intro s H
  have F' : Fx C hb prog w scope n (own.map (·.1)) true := ⟨OK, h1, h2, h3, h4, hm, fun x hx => hx.elim (h6 x) fun e => absurd e (F.noFree x), fun _ x hx => let ⟨c, hc⟩ := h6 x hx; ⟨c, hc, h5 x c hc⟩⟩
  refine wpAny_mono (h C args B own Q F' hs s H) (fun fl s' hpat => ?_) fun _ _ x => x
  obtain ⟨b, σ', hf, H', σ₂, cv, hq⟩ := hpat
  exact ⟨b, σ₂, hf, cv.holds OK hm H', hq⟩

theorem if_dec {p : Prop} [Decidable p] {A B : Prop} (h1 : p → A) (h2 : ¬ p → B) : if decide p = true then A else B := by
  by_cases h : p
  · rw [if_pos (by simpa using h)]; exact h1 h
  · rw [if_neg (by simpa using h)]; exact h2 h
theorem if_ndec {p : Prop} [Decidable p] {A B : Prop} (h1 : ¬ p → A) (h2 : p → B) : if (!decide p) = true then A else B := by
  by_cases h : p
  · rw [if_neg (by simpa using h)]; exact h2 h
  · rw [if_pos (by simpa using h)]; exact h1 h
theorem if_tt {A B : Prop} (h : A) : if true = true then A else B := h
theorem if_ff {A B : Prop} (h : B) : if false = true then A else B := h
theorem if_ntt {A B : Prop} (h : B) : if (!true) = true then A else B := h
theorem if_pos' {p : Prop} [Decidable p] {A B : Prop} (hp : p) (h : A) : if decide p = true then A else B := by rw [if_pos (by simpa using hp)]; exact h
theorem if_neg' {p : Prop} [Decidable p] {A B : Prop} (hp : ¬ p) (h : B) : if decide p = true then A else B := by rw [if_neg (by simpa using hp)]; exact h
end

section
variable {C : Cx} {hb : Heap} {prog : Program} {w : World} {sc cs : Scope} {n : Nat} {md : List Addr} {fl : Bool} {x : Str} {σ : St}
theorem Ex_ListF {elts : List Expr} {pos : Pos} {Q : MV → St → Prop} (F : Fx C hb prog w sc n md fl) (h : Exs C pos elts σ (fun vs σ' => vs.length ≤ lim ∧ ∀ a, Fsh md σ' a → Q (.ref a) { σ' with own := (a, .list vs) :: σ'.own })) : Ex C (.List elts pos) σ Q :=
  Ex_List F.ok (by rw [F.emod]; exact h)
theorem Ex_TupleF {elts : List Expr} {k : Nat} {pos : Pos} {Q : MV → St → Prop} (F : Fx C hb prog w sc n md fl) (h : Exs C pos elts σ (fun vs σ' => vs.length ≤ lim ∧ ∀ a, Fsh md σ' a → Q (.ref a) { σ' with own := (a, .tup vs) :: σ'.own })) : Ex C (.Tuple elts k pos) σ Q :=
  Ex_Tuple F.ok (by rw [F.emod]; exact h)
theorem Call_listF {a : Addr} {xs : List MV} {Q : MV → St → Prop} (F : Fx C hb prog w sc n md fl) (hh : Has σ a (.list xs)) (h : ∀ b, Fsh md σ b → Q (.ref b) { σ with own := (b, .list xs) :: σ.own }) : CallV C (.type "list") [.ref a] σ Q :=
  Call_list_list F.ok hh (by rw [F.emod]; exact h)
theorem and_lim {vs : List MV} {P : Prop} (h : vs.length ≤ lim) (h' : P) : vs.length ≤ lim ∧ P := ⟨h, h'⟩
theorem put_capt {l l₁ l₂ : Loc} {m : MV} (h1 : capt cs l = l₁) (h2 : put l₁ x m = l₂) : put (capt cs l) x m = l₂ := by rw [h1]; exact h2
theorem Ex_le {e : Expr} {l l' : Loc} {B : MH} {own : Own} {Q : MV → St → Prop} (h : l = l') (h' : Ex C e ⟨l', B, own⟩ Q) : Ex C e ⟨l, B, own⟩ Q := h ▸ h'
theorem Ts_le {e : Expr} {l l' : Loc} {B : MH} {own : Own} {Q : Bool → St → Prop} (h : l = l') (h' : Ts C e ⟨l', B, own⟩ Q) : Ts C e ⟨l, B, own⟩ Q := h ▸ h'
theorem CTs_nil {Q : Bool → St → Prop} (h : Q true σ) : CTs C [] σ Q := h
theorem CTs_cons {c : Expr} {r : List Expr} {Q : Bool → St → Prop} (h : Ts C c σ (fun b σ' => if b then CTs C r σ' Q else Q false σ')) : CTs C (c :: r) σ Q := h
def SetG (C : Cx) (v o i : MV) (σ : St) (Q : MF → St → Prop) : Prop := ∀ s, Holds C σ s → ∀ vv vo vi, VR v vv → VR o vo → VR i vi → wpAny (model C.prog C.w) C.A (setItem vo vi vv) (fun _ s' => ∃ σ', Holds C σ' s' ∧ Q .next σ') (fun _ _ => False) s
theorem Stm_SetI {o i e : Expr} {p' pos : Pos} {Q : MF → St → Prop} (hs : swapsWith e (some (.Subscript o i p')) pos.line C.env = pure false)
    (h : Ex C e σ (fun v σ₁ => Ex C o σ₁ (fun ov σ₂ => Ex C i σ₂ (fun iv σ₃ => SetG C v ov iv σ₃ Q)))) : Stm C (.Assign [.Subscript o i p'] e pos) σ Q := Stm_SetItem hs h
theorem mem_hd {p : Addr × MO} {l : Own} : p ∈ p :: l := List.mem_cons_self
theorem mem_tl {p q : Addr × MO} {l : Own} (h : p ∈ l) : p ∈ q :: l := List.mem_cons_of_mem _ h
structure FnO (prog : Program) (w : World) (hb : Heap) (f : Str) (n : Nat) (S : Spec) : Prop where
  c : FnC prog w hb f n S
theorem interactive_false (F : Fx C hb prog w sc n md fl) : interactive C.env = false := by unfold interactive; rw [F.ok.kind]; rfl
theorem mul_small {a b : Int} (h : b.natAbs < 1000000) : IntMulOk a b := IntMulOk.of_right (PyProof.Rows.intBits_le (by omega))
theorem log2_small {b : Int} (h : b.natAbs < 1073741824) : b.natAbs.log2 < 9000 := by
  by_cases h0 : b.natAbs = 0
  · rw [h0]; decide
  · have := (Nat.log2_lt h0 (k := 30)).mpr (by omega); omega
end
end
section
set_option autoImplicit false
set_option linter.unusedVariables false
set_option linter.unusedSimpArgs false
open PySem

section
variable {C : Cx} {hb : Heap} {prog : Program} {w : World} {sc cs : Scope} {n : Nat} {md : List Addr} {fl : Bool} {x : Str} {σ : St}

theorem look_append {l r : Loc} {y : Str} {v : MV} (h : look l y = some v) : look (l ++ r) y = some v := by
  induction l with
  | nil => simp [look] at h
  | cons p l ih =>
    obtain ⟨z, u⟩ := p
    simp only [List.cons_append, look] at h ⊢
    split
    · rename_i e; rw [if_pos e] at h; exact h
    · rename_i e; rw [if_neg e] at h; exact ih h
theorem Cv.pre {l₀ l : Loc} (r : Loc) {B : MH} {own : Own} (h : l₀ = l ++ r) : Cv md ⟨l₀, B, own⟩ ⟨l, B, own⟩ := .loc fun y v hy => h ▸ look_append hy
theorem Cv.none {l : Loc} {B : MH} {own : Own} : Cv md ⟨l, B, own⟩ ⟨l, B, []⟩ := .own (List.nil_sublist _)
theorem Cv.tl {l : Loc} {B : MH} {own : Own} {p : Addr × MO} : Cv md ⟨l, B, p :: own⟩ ⟨l, B, own⟩ := .own (List.sublist_cons_self ..)
theorem Store_cv {y : Str} {m : MV} {σ' : St} {Q : St → Prop} (F : Fx C hb prog w sc n md fl) (c : Cv md σ σ') (h : Store C y m σ' Q) : Store C y m σ Q := fun v hv => Tr.cv F c (h v hv)
theorem Ts_cv {e : Expr} {σ' : St} {Q : Bool → St → Prop} (F : Fx C hb prog w sc n md fl) (c : Cv md σ σ') (h : Ts C e σ' Q) : Ts C e σ Q := Tr.cv F c h

/-- a turn's end -/
def Tn (md : List Addr) (J : St → Prop) (σ : St) : Prop := ∃ σ₀, Cv md σ σ₀ ∧ J σ₀

theorem Stm_ForC {px pos : Pos} {iter : Expr} {body orelse : List Stmt} {Q : MF → St → Prop} (F : Fx C hb prog w sc n md fl) (hs : ∀ v, foldedSetIterable iter C.env v = pure v)
    (h : Ex C iter σ (fun v σ₁ => ∃ (items : List MV) (J : Nat → St → Prop), Itr σ₁ v items ∧ Tn md (J 0) σ₁ ∧
      (∀ C', Fx C' hb prog w sc n md fl → ∀ i σ' m, J i σ' → items[i]? = some m → Store C' x m σ' (fun σ₂ => Sts C' body σ₂ (fun f σ₃ => match f with | .next => Tn md (J (i + 1)) σ₃ | .ret v => Q (.ret v) σ₃))) ∧
      (∀ C', Fx C' hb prog w sc n md fl → ∀ σ', J items.length σ' → Sts C' orelse σ' Q))) : Stm C (.For (.Name x px) iter body orelse pos) σ Q := by
  refine Stm_For F hs (Tr.mono h fun v σ₁ ⟨items, J, it, J0, turn, fin⟩ => ⟨items, fun i => Tn md (J i), it, J0, ?_, ?_⟩)
  · intro C' F' i σ' m ⟨σ₀, c, hJ⟩ hm
    exact Store_cv F' c (turn C' F' i σ₀ m hJ hm)
  · intro C' F' σ' ⟨σ₀, c, hJ⟩
    exact Sts_cv F' c (fin C' F' σ₀ hJ)

theorem Stm_WhileC {test : Expr} {body orelse : List Stmt} {pos : Pos} {Q : MF → St → Prop} (F : Fx C hb prog w sc n md fl) (I : Nat → St → Prop)
    (turn : ∀ k σ', I k σ' → Ts C test σ' (fun b σ₁ => if b then Sts C body σ₁ (fun f σ₂ => match f with | .next => Tn md (fun σ₃ => ∃ m, m < k ∧ I m σ₃) σ₂ | .ret v => Q (.ret v) σ₂) else Sts C orelse σ₁ Q))
    (k : Nat) (h : Tn md (I k) σ) : Stm C (.While test body orelse pos) σ Q := by
  refine Stm_While (fun k => Tn md (I k)) ?_ k h
  rintro k σ' ⟨σ₀, c, hI⟩
  refine Ts_cv F c (Tr.mono (turn k σ₀ hI) fun b σ₁ hb' => ?_)
  cases b with
  | false => exact hb'
  | true =>
    refine Tr.mono (show Sts C body σ₁ _ from hb') fun f σ₂ h₂ => ?_
    cases f with
    | next => obtain ⟨σ₃, c', m, hm, hI'⟩ := h₂; exact ⟨m, hm, σ₃, c', hI'⟩
    | ret v => exact h₂

def TurnsC (hb : Heap) (prog : Program) (w : World) (sc cs : Scope) (n : Nat) (md : List Addr) (x : Str) (ifs : List Expr) (elt : Expr) (items : List MV) (l : Loc) (J : Nat → List MV → MH → Own → Prop) : Prop :=
  ∀ C', Fx C' hb prog w (relab cs sc) n md false → ∀ i ys B own m, J i ys B own → items[i]? = some m →
      CTs C' ifs ⟨put (capt cs l) x m, B, own⟩ (fun ok σ₁ => if ok then Ex C' elt σ₁ (fun y σ₂ => ∃ σ₃, Cv md σ₂ σ₃ ∧ J (i + 1) (ys ++ [y]) σ₃.B σ₃.own) else ∃ σ₃, Cv md σ₁ σ₃ ∧ J (i + 1) ys σ₃.B σ₃.own)

theorem Tr.post {α β : Type} {t : Sem α} {R : β → α → Prop} {Q : β → St → Prop} (F : Fx C hb prog w sc n md fl) (h : Tr C t R σ (fun b σ' => ∃ σ'', Cv md σ' σ'' ∧ Q b σ'')) : Tr C t R σ Q := fun s H =>
  wpAny_mono (h s H) (fun a s' ⟨b, σ', hr, H', σ'', c, hq⟩ => ⟨b, σ'', hr, c.holds F.ok F.emod H', hq⟩) fun _ _ x => x
theorem turns_of {ifs : List Expr} {elt : Expr} {items : List MV} {l : Loc} {J : Nat → List MV → MH → Own → Prop} (h : TurnsC hb prog w sc cs n md x ifs elt items l J) :
    CompTurns hb prog w sc cs n md x ifs elt items (fun i ys σ => σ.loc = l ∧ J i ys σ.B σ.own) := by
  intro C' F' i ys σ' m ⟨hl, hJ⟩ hm
  have key := h C' F' i ys σ'.B σ'.own m hJ hm
  subst hl
  have : ∀ (ifs : List Expr) (σ₁ : St), CTs C' ifs σ₁ (fun ok σ₁ => if ok then Ex C' elt σ₁ (fun y σ₂ => ∃ σ₃, Cv md σ₂ σ₃ ∧ J (i + 1) (ys ++ [y]) σ₃.B σ₃.own) else ∃ σ₃, Cv md σ₁ σ₃ ∧ J (i + 1) ys σ₃.B σ₃.own) →
      CTs C' ifs σ₁ (fun ok σ₁ => if ok then Ex C' elt σ₁ (fun y σ₂ => σ'.loc = σ'.loc ∧ J (i + 1) (ys ++ [y]) σ₂.B σ₂.own) else σ'.loc = σ'.loc ∧ J (i + 1) ys σ₁.B σ₁.own) := by
    intro ifs
    induction ifs with
    | nil =>
      intro σ₁ h
      have h' : Ex C' elt σ₁ (fun y σ₂ => ∃ σ₃, Cv md σ₂ σ₃ ∧ J (i + 1) (ys ++ [y]) σ₃.B σ₃.own) := h
      have h2 : Ex C' elt σ₁ (fun y σ₂ => σ'.loc = σ'.loc ∧ J (i + 1) (ys ++ [y]) σ₂.B σ₂.own) := Tr.post F' (Tr.mono h' fun y σ₄ ⟨σ₃, c3, hj⟩ => ⟨σ₃, c3, rfl, hj⟩)
      exact h2
    | cons t r ih =>
      intro σ₁ h
      refine Tr.post F' (Tr.mono (show Ts C' t σ₁ _ from h) fun b σ₄ h₄ => ?_)
      cases b with
      | true => exact ⟨σ₄, .refl _, ih σ₄ h₄⟩
      | false => obtain ⟨σ₃, c3, hj⟩ := (h₄ : ∃ σ₃, Cv md σ₄ σ₃ ∧ _); exact ⟨σ₃, c3, rfl, hj⟩
  exact this ifs _ key

def CompPost (hb : Heap) (prog : Program) (w : World) (sc cs : Scope) (n : Nat) (md : List Addr) (x : Str) (ifs : List Expr) (elt : Expr) (R : List MV → MH → Own → Loc → Prop) (v : MV) (σ₁ : St) : Prop :=
  ∃ (items : List MV) (J : Nat → List MV → MH → Own → Prop), Itr σ₁ v items ∧ items.length ≤ lim ∧ J 0 [] σ₁.B σ₁.own ∧ TurnsC hb prog w sc cs n md x ifs elt items σ₁.loc J ∧ ∀ ys B own, J items.length ys B own → R ys B own σ₁.loc

theorem Ex_Comp {elt iter : Expr} {px pos : Pos} {ifs : List Expr} {Q : MV → St → Prop} (F : Fx C hb prog w sc n md fl) (K : CompOk cs sc x) (hs : ∀ v, foldedSetIterable iter C.env v = pure v)
    (h : Ex C iter σ (CompPost hb prog w sc cs n md x ifs elt (fun ys B own l => ∀ a, Fsh md ⟨l, B, own⟩ a → Q (.ref a) ⟨l, B, (a, .list ys) :: own⟩))) : Ex C (.ListComp elt [⟨.Name x px, iter, ifs, 0⟩] cs pos) σ Q := by
  refine Ex_ListComp F K hs (Tr.mono h fun v σ₁ ⟨items, J, it, hl, J0, turn, fin⟩ => ⟨items, _, it, hl, ⟨rfl, J0⟩, turns_of turn, ?_⟩)
  rintro ys ⟨l, B, own⟩ ⟨hl', hJ⟩ a ha
  dsimp only at hl' hJ
  subst hl'
  exact fin ys B own hJ a ha
theorem Stm_Comp {elt iter : Expr} {y : Str} {py px pos spos : Pos} {ifs : List Expr} {Q : MF → St → Prop} (F : Fx C hb prog w sc n md fl) (K : CompOk cs sc x) (hs : ∀ v, foldedSetIterable iter C.env v = pure v)
    (hsw : swapsWith (.ListComp elt [⟨.Name x px, iter, ifs, 0⟩] cs pos) (some (.Name y py)) spos.line C.env = pure true)
    (h : Ex C iter σ (CompPost hb prog w sc cs n md x ifs elt (fun ys B own l => ∀ C', Fx C' hb prog w sc n md fl → ∀ a, Fsh md ⟨l, B, own⟩ a → Store C' y (.ref a) ⟨l, B, (a, .list ys) :: own⟩ (fun σ'' => Q .next σ'')))) :
    Stm C (.Assign [.Name y py] (.ListComp elt [⟨.Name x px, iter, ifs, 0⟩] cs pos) spos) σ Q := by
  refine Stm_AssignComp F K hs hsw (Tr.mono h fun v σ₁ ⟨items, J, it, hl, J0, turn, fin⟩ => ⟨items, _, it, hl, ⟨rfl, J0⟩, turns_of turn, ?_⟩)
  rintro C' F' ys ⟨l, B, own⟩ ⟨hl', hJ⟩ a ha
  dsimp only at hl' hJ
  subst hl'
  exact fin ys B own hJ C' F' a ha
theorem if_ntrue {p : Prop} [Decidable p] {A B : Prop} (hp : p) (h : B) : if (!decide p) = true then A else B := by rw [if_neg (by simp [hp])]; exact h
theorem if_nfalse {p : Prop} [Decidable p] {A B : Prop} (hp : ¬ p) (h : A) : if (!decide p) = true then A else B := by rw [if_pos (by simp [hp])]; exact h
def App2 (C : Cx) (a : Addr) (v : MV) (σ : St) (Q : MV → St → Prop) : Prop := ∃ ys own', Upd σ.own a (.list ys) (.list (ys ++ [v])) own' ∧ ys.length + 1 ≤ lim ∧ Q .none { σ with own := own' }
def AppG (C : Cx) (ov : MV) (e : Expr) (σ : St) (Q : MV → St → Prop) : Prop := ∃ a xs, ov = .ref a ∧ Has σ a (.list xs) ∧ Ex C e σ (fun v σ₂ => App2 C a v σ₂ Q)
theorem Ex_appG {o e : Expr} {apos pos : Pos} {Q : MV → St → Prop} (F : Fx C hb prog w sc n md fl) (hbase : attributeBase o "append" C.env (eval o C.env) = eval o C.env) (hline : (apos.endLine == pos.line) = true)
    (he : backTo pos (starEach [e] C.env) = [(false, eval e C.env)]) (h : Ex C o σ (fun ov σ₁ => AppG C ov e σ₁ Q)) : Ex C (.Call (.Attribute o "append" apos) [e] [] pos) σ Q := Ex_append F.ok hbase hline he h
theorem AppG_i {a : Addr} {xs : List MV} {e : Expr} {Q : MV → St → Prop} (hh : Has σ a (.list xs)) (h : Ex C e σ (fun v σ₂ => App2 C a v σ₂ Q)) : AppG C (.ref a) e σ Q := ⟨a, xs, rfl, hh, h⟩
theorem App2_i {a : Addr} {v : MV} {ys : List MV} {own' : Own} {Q : MV → St → Prop} (u : Upd σ.own a (.list ys) (.list (ys ++ [v])) own') (hl : ys.length + 1 ≤ lim) (h : Q .none { σ with own := own' }) : App2 C a v σ Q := ⟨ys, own', u, hl, h⟩
theorem SubG_ro {a : Addr} {xs : List MV} {k : Int} {m : MV} {Q : MV → St → Prop} (hh : Has σ a (.ro xs)) (h0 : 0 ≤ k) (hm : xs[k.toNat]? = some m) (h : Q m σ) : SubG C (.ref a) (.int k) σ Q := fun s H vo vi ho hi => by
  obtain rfl : vo = .ref a := ho
  obtain ⟨t, rfl⟩ := hi
  obtain ⟨vs, hl, hr, hlim⟩ := H.has hh
  obtain ⟨v, hv, hvr⟩ := hr.get hm
  have hlt : k.toNat < xs.length := (List.getElem?_eq_some_iff.mp hm).1
  refine ⟨"list", _, hl.typeIs, list_getitem_lookup, wpAny_getItem_list hl h0 ?_ (by rw [← Array.getElem?_toList]; exact hv) ⟨m, σ, hvr, H, h⟩⟩
  unfold lim at hlim; omega
theorem Call_len_ro {a : Addr} {xs : List MV} {Q : MV → St → Prop} (hh : Has σ a (.ro xs)) (h : Q (.int xs.length) σ) : CallV C (.builtin "len") [.ref a] σ Q := fun vs hvs s H => by
  obtain ⟨v, rfl, hv⟩ := hvs.one
  obtain rfl : v = .ref a := hv
  obtain ⟨vs, hl, hr, hlim⟩ := H.has hh
  have hsz : vs.size = xs.length := by have := hr.length; simp at this; exact this.symm
  refine Calls.call_len_list hl (by rw [hsz]; exact lim_lt63 hlim) ⟨.int xs.length, σ, ?_, H.toks _, h⟩
  rw [hsz]; exact ⟨_, rfl⟩
end
end
section
set_option autoImplicit false
set_option linter.unusedVariables false
set_option linter.unusedSimpArgs false
open PySem PySem.SeqAt

/-! dictionaries -/
abbrev KV := List (Option Int × MV)
def dget : KV → Option Int → Option MV
  | [], _ => none
  | (y, v) :: r, x => if y = x then some v else dget r x
def dput : KV → Option Int → MV → KV
  | [], x, v => [(x, v)]
  | (y, u) :: r, x, v => if y = x then (y, v) :: r else (y, u) :: dput r x v

theorem KVR.inv {p : Option Int × MV} {kvs : KV} {vk : List (Option Int × Value)} (h : KVR (p :: kvs) vk) : ∃ q vk', vk = q :: vk' ∧ p.1 = q.1 ∧ VR p.2 q.2 ∧ KVR kvs vk' := by
  obtain ⟨hk, hv⟩ := h
  cases vk with
  | nil => simp at hk
  | cons q vk' =>
    simp only [List.map_cons, List.cons.injEq] at hk hv
    cases hv with
    | cons h1 h2 => exact ⟨q, vk', rfl, hk.1, h1, hk.2, h2⟩
theorem KVR.cons {p : Option Int × MV} {q : Option Int × Value} {kvs : KV} {vk : List (Option Int × Value)} (h1 : p.1 = q.1) (h2 : VR p.2 q.2) (h : KVR kvs vk) : KVR (p :: kvs) (q :: vk) :=
  ⟨by simp [h1, h.k], .cons h2 h.v⟩
theorem KVR.nil : KVR [] [] := ⟨rfl, .nil⟩
theorem KVR.length {kvs : KV} {vk : List (Option Int × Value)} (h : KVR kvs vk) : kvs.length = vk.length := by have := congrArg List.length h.k; simpa using this
theorem KVR.none {kvs : KV} : ∀ {vk : List (Option Int × Value)}, KVR kvs vk → ∀ {k : Option Int}, dget kvs k = .none → valueAt vk k = .none := by
  induction kvs with
  | nil => intro vk h k _; cases vk with
    | nil => rfl
    | cons q vk => have := h.k; simp at this
  | cons p kvs ih =>
    intro vk h k hg
    obtain ⟨q, vk', rfl, h1, h2, h3⟩ := h.inv
    obtain ⟨y, v⟩ := p
    simp only [dget] at hg
    split at hg
    · cases hg
    · rename_i hne
      have := ih h3 hg
      unfold valueAt at this ⊢
      rw [List.find?_cons_of_neg (by simp only [decide_eq_true_eq]; intro e; exact hne (h1.trans e))]
      exact this
theorem KVR.some {kvs : KV} : ∀ {vk : List (Option Int × Value)}, KVR kvs vk → ∀ {k : Option Int} {m : MV}, dget kvs k = .some m → ∃ v, valueAt vk k = .some v ∧ VR m v := by
  induction kvs with
  | nil => intro vk h k m hg; simp [dget] at hg
  | cons p kvs ih =>
    intro vk h k m hg
    obtain ⟨q, vk', rfl, h1, h2, h3⟩ := h.inv
    obtain ⟨y, v⟩ := p
    simp only [dget] at hg
    split at hg
    · rename_i e
      cases hg
      refine ⟨q.2, ?_, h2⟩
      unfold valueAt
      rw [List.find?_cons_of_pos (by simp only [decide_eq_true_eq]; exact h1.symm.trans e)]
      rfl
    · rename_i hne
      obtain ⟨v', hv', hr⟩ := ih h3 hg
      refine ⟨v', ?_, hr⟩
      unfold valueAt at hv' ⊢
      rw [List.find?_cons_of_neg (by simp only [decide_eq_true_eq]; intro e; exact hne (h1.trans e))]
      exact hv'
theorem KVR.isSome {kvs : KV} {vk : List (Option Int × Value)} (h : KVR kvs vk) (k : Option Int) : (valueAt vk k).isSome = (dget kvs k).isSome := by
  cases e : dget kvs k with
  | none => rw [h.none e]; rfl
  | some m => obtain ⟨v, hv, _⟩ := h.some e; rw [hv]; rfl
theorem stored_cons_eq {q : Option Int × Value} {vk : List (Option Int × Value)} {k : Option Int} {v : Value} (hn : ((q :: vk).map (·.1)).Nodup) (e : q.1 = k) : stored (q :: vk) k v = (q.1, v) :: vk := by
  unfold stored
  rw [if_pos (by simp [e])]
  rw [List.map_cons, if_pos e]
  congr 1
  refine map_store_of_not_mem vk k v ?_
  subst e
  simp only [List.map_cons, List.nodup_cons] at hn
  exact hn.1
theorem stored_cons_ne {q : Option Int × Value} {vk : List (Option Int × Value)} {k : Option Int} {v : Value} (e : q.1 ≠ k) : stored (q :: vk) k v = q :: stored vk k v := by
  unfold stored
  have : (q :: vk).any (fun kv => decide (kv.1 = k)) = vk.any (fun kv => decide (kv.1 = k)) := by simp [e]
  rw [this]
  split
  · rw [List.map_cons, if_neg e]
  · rfl
theorem KVR.put {kvs : KV} : ∀ {vk : List (Option Int × Value)}, KVR kvs vk → (vk.map (·.1)).Nodup → ∀ {k : Option Int} {m : MV} {v : Value}, VR m v → KVR (dput kvs k m) (stored vk k v) := by
  induction kvs with
  | nil => intro vk h hn k m v hv; cases vk with
    | nil => exact ⟨rfl, .cons hv .nil⟩
    | cons q vk => have := h.k; simp at this
  | cons p kvs ih =>
    intro vk h hn k m v hv
    obtain ⟨q, vk', rfl, h1, h2, h3⟩ := h.inv
    obtain ⟨y, u⟩ := p
    simp only [dput]
    split
    · rename_i e
      rw [stored_cons_eq hn (h1.symm.trans e)]
      exact .cons h1 hv h3
    · rename_i e
      rw [stored_cons_ne (fun e' => e (h1.trans e'))]
      exact .cons h1 h2 (ih h3 (by simp only [List.map_cons, List.nodup_cons] at hn; exact hn.2) hv)
theorem dput_length (kvs : KV) (k : Option Int) (m : MV) : (dput kvs k m).length ≤ kvs.length + 1 := by
  induction kvs with
  | nil => simp [dput]
  | cons p kvs ih => obtain ⟨y, u⟩ := p; simp only [dput]; split <;> simp <;> omega
theorem keyIs_of {k : Option Int} {v : Value} (h : VR (keyMV k) v) : keyIs k v = true := by
  cases k with
  | none => obtain rfl : v = .none := h; rfl
  | some i => obtain ⟨t, rfl⟩ := h; simp [keyIs, Value.isInt]

def mvOf : Value → MV
  | .none => .none
  | .bool b => .bool b
  | .int i _ => .int i
  | .str x _ => .str x
  | .ref a => .ref a
  | v => .oth v
theorem mvOf_of {m : MV} {v : Value} (h : VR m v) (hm : ∀ u, m ≠ .oth u) : mvOf v = m := by
  cases m with
  | none => obtain rfl : v = _ := h; rfl
  | bool b => obtain rfl : v = _ := h; rfl
  | int i => obtain ⟨t, rfl⟩ := h; rfl
  | str x => obtain ⟨t, rfl⟩ := h; rfl
  | ref a => obtain rfl : v = _ := h; rfl
  | oth u => exact absurd rfl (hm u)
theorem vsR_any {xs : List MV} {vs : List Value} (h : VsR xs vs) (e : MV → Bool) (hx : ∀ y ∈ xs, ∀ u, y ≠ .oth u) : (∀ v ∈ vs, VR (mvOf v) v ∧ mvOf v ∈ xs) ∧ vs.any (fun v => e (mvOf v)) = xs.any e := by
  induction h with
  | nil => exact ⟨fun v hv => (nomatch hv), rfl⟩
  | @cons m v ms vs' hv hvs ih =>
    have e1 := mvOf_of hv (hx m List.mem_cons_self)
    obtain ⟨i1, i2⟩ := ih fun y hy => hx y (List.mem_cons_of_mem _ hy)
    refine ⟨fun u hu => ?_, by simp only [List.any_cons, e1, i2]⟩
    rcases List.mem_cons.mp hu with rfl | hu
    · rw [e1]; exact ⟨hv, List.mem_cons_self⟩
    · exact ⟨(i1 u hu).1, List.mem_cons_of_mem _ (i1 u hu).2⟩

section
variable {C : Cx} {hb : Heap} {prog : Program} {w : World} {sc cs : Scope} {n : Nat} {md : List Addr} {fl : Bool} {x : Str} {σ : St}

theorem Cmp_inD {k : Option Int} {d : Addr} {kvs : KV} {Q : MV → St → Prop} (hh : Has σ d (.dict kvs)) (h : Q (.bool (dget kvs k).isSome) σ) : Cmp C .In (keyMV k) (.ref d) σ Q := fun va vb ha hb' s H => by
  obtain rfl : vb = .ref d := hb'
  obtain ⟨hms, vk, ⟨p0, w0, hdo⟩, hkv, hlim⟩ := H.has hh
  have hm := (dictOf_any (p' := C.prog) (w' := C.w) hdo).mapOf
  refine wpAny_in_of (k := k) (keyIs_of ha) hms hm ?_
  rw [hkv.isSome]
  exact ⟨.bool _, σ, rfl, H.toks _, h⟩
theorem Cmp_notInD {k : Option Int} {d : Addr} {kvs : KV} {Q : MV → St → Prop} (hh : Has σ d (.dict kvs)) (h : Q (.bool (!(dget kvs k).isSome)) σ) : Cmp C .NotIn (keyMV k) (.ref d) σ Q := fun va vb ha hb' s H => by
  obtain rfl : vb = .ref d := hb'
  obtain ⟨hms, vk, ⟨p0, w0, hdo⟩, hkv, hlim⟩ := H.has hh
  have hm := (dictOf_any (p' := C.prog) (w' := C.w) hdo).mapOf
  refine wpAny_notIn_of (k := k) (keyIs_of ha) hms hm ?_
  rw [hkv.isSome]
  exact ⟨.bool _, σ, rfl, H.toks _, h⟩
theorem Cmp_inDi {i : Int} {d : Addr} {kvs : KV} {Q : MV → St → Prop} (hh : Has σ d (.dict kvs)) (h : Q (.bool (dget kvs (some i)).isSome) σ) : Cmp C .In (.int i) (.ref d) σ Q := Cmp_inD (k := some i) hh h
theorem Cmp_notInDi {i : Int} {d : Addr} {kvs : KV} {Q : MV → St → Prop} (hh : Has σ d (.dict kvs)) (h : Q (.bool (!(dget kvs (some i)).isSome)) σ) : Cmp C .NotIn (.int i) (.ref d) σ Q := Cmp_notInD (k := some i) hh h
theorem Cmp_inDn {d : Addr} {kvs : KV} {Q : MV → St → Prop} (hh : Has σ d (.dict kvs)) (h : Q (.bool (dget kvs none).isSome) σ) : Cmp C .In .none (.ref d) σ Q := Cmp_inD (k := none) hh h
theorem SubG_dict {k : Option Int} {d : Addr} {kvs : KV} {m : MV} {Q : MV → St → Prop} (hh : Has σ d (.dict kvs)) (hm : dget kvs k = some m) (h : Q m σ) : SubG C (.ref d) (keyMV k) σ Q := fun s H vo vi ho hi => by
  obtain rfl : vo = .ref d := ho
  obtain ⟨hms, vk, ⟨p0, w0, hdo⟩, hkv, hlim⟩ := H.has hh
  have hd := dictOf_any (p' := C.prog) (w' := C.w) hdo
  obtain ⟨v, hv, hr⟩ := hkv.some hm
  exact ⟨"dict", _, hd.typeIs, slot_dict_getitem.lookup, wpAny_getItem_of (keyIs_of hi) hd.mapOf hv ⟨m, σ, hr, H.toks _, h⟩⟩
theorem SubG_dicti {i : Int} {d : Addr} {kvs : KV} {m : MV} {Q : MV → St → Prop} (hh : Has σ d (.dict kvs)) (hm : dget kvs (some i) = some m) (h : Q m σ) : SubG C (.ref d) (.int i) σ Q := SubG_dict (k := some i) hh hm h
theorem SetG_dict {a : Addr} {kvs : KV} {k : Option Int} {m : MV} {own' : Own} {Q : MF → St → Prop} (F : Fx C hb prog w sc n md fl) (u : Upd σ.own a (.dict kvs) (.dict (dput kvs k m)) own') (hl : kvs.length + 1 ≤ lim) (h : Q .next { σ with own := own' }) :
    SetG C m (.ref a) (keyMV k) σ Q := fun s H vv vo vi hv ho hi => by
  obtain rfl : vo = .ref a := ho
  obtain ⟨hms, vk, ⟨p0, w0, hdo⟩, hkv, hlim⟩ := H.own _ u.mem
  have hd := dictOf_any (p' := C.prog) (w' := C.w) hdo
  have hn : (vk.map (·.1)).Nodup := let ⟨_, _, _, _, _, _, _, _, hn⟩ := hd; hn
  refine wpAny_setItem_pairs (k := k) (keyIs_of hi) hd (fun h' hd' hs => ?_) (by rw [← hkv.length]; exact Nat.le_trans hlim lim_le)
  refine ⟨_, H.upd F.ok u (fun b ob hb' e => (hs.2 b hb').trans e) ⟨hms, _, ⟨_, _, hd'⟩, hkv.put hn hv, Nat.le_trans (dput_length ..) hl⟩ rfl rfl, h⟩
theorem SetG_dicti {a : Addr} {kvs : KV} {k : Int} {m : MV} {own' : Own} {Q : MF → St → Prop} (F : Fx C hb prog w sc n md fl) (u : Upd σ.own a (.dict kvs) (.dict (dput kvs (some k) m)) own') (hl : kvs.length + 1 ≤ lim) (h : Q .next { σ with own := own' }) :
    SetG C m (.ref a) (.int k) σ Q := SetG_dict (k := some k) F u hl h
theorem Holds.noModules {s : Shared} (H : Holds C σ s) (OK : C.Ok hb) (hl : hb.NoLimit) : (s.heap.objs.size == sysModules) = false := size_ne_modules (hl.keeps fun b o hb' => H.kp b o (OK.base b o hb'))
theorem Ex_Dict0 {pos : Pos} {Q : MV → St → Prop} (F : Fx C hb prog w sc n md fl) (hl : hb.NoLimit) (h : ∀ d, Fsh md σ d → Q (.ref d) { σ with own := (d, .dict []) :: σ.own }) : Ex C (.Dict [] [] pos) σ Q := fun s H =>
  wpAny_Dict_empty ⟨.ref _, _, rfl, H.new (mo := .dict []) ⟨H.noModules F.ok hl, [], ⟨C.prog, C.w, Heap.DictOf.new s.heap⟩, .nil, Nat.zero_le _⟩, h _ (F.emod ▸ H.fsh F.ok)⟩
theorem Ex_Dict1 {ke ve : Expr} {pos : Pos} {Q : MV → St → Prop} (F : Fx C hb prog w sc n md fl) (hl : hb.NoLimit)
    (h : ∀ d, Fsh md σ d → Ex C ke { σ with own := (d, .dict []) :: σ.own } (fun k σ₁ => Ex C ve σ₁ (fun v σ₂ => ∃ i own', k = .int i ∧ Upd σ₂.own d (.dict []) (.dict [(some i, v)]) own' ∧ Q (.ref d) { σ₂ with own := own' }))) :
    Ex C (.Dict [some ke] [ve] pos) σ Q := fun s H => by
  have H0 := H.new (mo := .dict []) ⟨H.noModules F.ok hl, [], ⟨C.prog, C.w, Heap.DictOf.new s.heap⟩, .nil, Nat.zero_le _⟩
  refine wpAny_Dict_pairs (knd := optKind C.prog C.w) (pairs := [(eval ke C.env, do let x ← eval ve C.env; standAt pos; pure x)]) rfl (by simp) (by simp) (evalPairs_cons (wpAny_mono (h _ (F.emod ▸ H.fsh F.ok) _ H0) (fun kv s₁ hpat => ?_) fun _ _ x => x))
  obtain ⟨k, σ₁, hk, H₁, h₁⟩ := hpat
  refine wpAny_bind (wpAny_mono (h₁ s₁ H₁) (fun vv s₂ hpat => ?_) fun _ _ x => x)
  obtain ⟨v, σ₂, hv, H₂, i, own', ek, u, hq⟩ := hpat
  subst ek
  refine wpAny_bind (wpAny_standAt (wpAny_pure (evalPairs_nil ?_)))
  obtain ⟨hms, vk, ⟨p0, w0, hdo⟩, hkv, hlim⟩ := H₂.own _ u.mem
  have hd := dictOf_any (p' := C.prog) (w' := C.w) hdo
  have hvk : vk = [] := by have := hkv.length; cases vk with | nil => rfl | cons _ _ => simp at this
  subst hvk
  refine ⟨[(some i, vv)], ⟨keyIs_of (k := some i) hk, rfl, trivial⟩, hd, fun h' hd' hs => ?_⟩
  refine ⟨.ref _, _, rfl, (H₂.upd F.ok u (s' := { s₂ with heap := h', toks := s₂.toks + _ }) (fun b ob hb' e => (hs.2 b hb').trans e) ⟨hms, [(some i, vv)], ⟨_, _, hd'⟩, .cons rfl hv .nil, by simp [lim]⟩ rfl rfl), hq⟩

/-! lists -/
theorem Ex_pop {o : Expr} {apos pos : Pos} {Q : MV → St → Prop} (F : Fx C hb prog w sc n md fl) (hbase : attributeBase o "pop" C.env (eval o C.env) = eval o C.env) (hline : (apos.endLine == pos.line) = true)
    (h : Ex C o σ (fun ov σ₁ => ∃ a xs m own', ov = .ref a ∧ Upd σ₁.own a (.list (xs ++ [m])) (.list xs) own' ∧ Q m { σ₁ with own := own' })) :
    Ex C (.Call (.Attribute o "pop" apos) [] [] pos) σ Q := fun s H => by
  refine wpAny_Call_method0_late hbase hline (wpAny_mono (h s H) (fun vo s₁ hpat => ?_) fun _ _ x => x)
  obtain ⟨ov, σ₁, ho, H₁, a, xs, m, own', e1, u, hq⟩ := hpat
  subst e1
  obtain rfl : vo = .ref a := ho
  obtain ⟨vs, nn, hob, hr, hlim⟩ := H₁.own _ u.mem
  have hsz : vs.size = xs.length + 1 := by have := hr.length; simp at this; exact this.symm
  obtain ⟨v, hv, hvr⟩ := hr.get (i := xs.length) (m := m) (by simp)
  refine ⟨"list", _, PySem.F.plainAttrs_list, PySem.F.slot_list_pop, PySem.F.type_list_pop, ⟨_, hob, rfl⟩, fun b e' => by cases e'; exact ⟨_, hob, rfl⟩, ?_⟩
  refine P.pop_list hob (y := v) (by rw [hsz, ← Array.getElem?_toList]; simpa using hv) ⟨m, _, hvr, H₁.upd F.ok u (fun b ob hb' e' => by rw [Heap.get?_update_other _ _ (Ne.symm hb')]; exact e') ?_ rfl rfl, hq⟩ (by rw [hsz]; simp at hlim; exact Nat.le_trans hlim lim_le)
  refine ⟨vs.eraseIdxIfInBounds (vs.size - 1), _, IsL.update hob fun xs => xs.eraseIdxIfInBounds (vs.size - 1), ?_, by simp at hlim; omega⟩
  have e : (vs.eraseIdxIfInBounds (vs.size - 1)).toList = vs.toList.take xs.length := by
    unfold Array.eraseIdxIfInBounds
    rw [dif_pos (by omega)]
    rw [Array.toList_eraseIdx, hsz, List.eraseIdx_eq_take_drop_succ]
    simp [hsz]
  rw [e]
  have := hr.take xs.length
  simpa using this
theorem EqM.noOth {m m' : MV} {b : Bool} (h : EqM σ m m' b) : ∀ u, m ≠ .oth u := fun u e => by subst e; cases h
theorem Cmp_inL {a : Addr} {xs : List MV} {m : MV} (e : MV → Bool) {Q : MV → St → Prop} (hh : Has σ a (.list xs)) (he : ∀ y ∈ xs, EqM σ y m (e y)) (h : Q (.bool (xs.any e)) σ) : Cmp C .In m (.ref a) σ Q := fun va vb ha hb' s H => by
  obtain rfl : vb = .ref a := hb'
  obtain ⟨vs, nn, hob, hr, hlim⟩ := H.has hh
  obtain ⟨h1, h2⟩ := vsR_any hr e fun y hy => (he y hy).noOth
  refine in_listAt (fun v => e (mvOf v)) ⟨_, hob, rfl, nn, rfl⟩ (fun y hy => ?_) ⟨.bool _, σ, rfl, H, by rw [← Array.any_toList, h2]; exact h⟩
  obtain ⟨g1, g2⟩ := h1 y (by simpa using hy)
  exact (he _ g2).at H g1 ha _
theorem Cmp_notInL {a : Addr} {xs : List MV} {m : MV} (e : MV → Bool) {Q : MV → St → Prop} (hh : Has σ a (.list xs)) (he : ∀ y ∈ xs, EqM σ y m (e y)) (h : Q (.bool (!xs.any e)) σ) : Cmp C .NotIn m (.ref a) σ Q := fun va vb ha hb' s H => by
  obtain rfl : vb = .ref a := hb'
  obtain ⟨vs, nn, hob, hr, hlim⟩ := H.has hh
  obtain ⟨h1, h2⟩ := vsR_any hr e fun y hy => (he y hy).noOth
  refine notIn_listAt (fun v => e (mvOf v)) ⟨_, hob, rfl, nn, rfl⟩ (fun y hy => ?_) ⟨.bool _, σ, rfl, H, by rw [← Array.any_toList, h2]; exact h⟩
  obtain ⟨g1, g2⟩ := h1 y (by simpa using hy)
  exact (he _ g2).at H g1 ha _
theorem Cmp_inLi {a : Addr} {ns : List Int} {i : Int} {Q : MV → St → Prop} (hh : Has σ a (.list (ns.map MV.int))) (h : Q (.bool (decide (i ∈ ns))) σ) : Cmp C .In (.int i) (.ref a) σ Q := by
  refine Cmp_inL (fun y => match y with | .int j => decide (j = i) | _ => false) hh (fun y hy => ?_) ?_
  · obtain ⟨j, hj, rfl⟩ := List.mem_map.mp hy; exact .int j i
  · have e : (ns.map MV.int).any (fun y => match y with | .int j => decide (j = i) | _ => false) = decide (i ∈ ns) := by
      rw [List.any_map]; rw [Bool.eq_iff_iff]; simp
    rw [e]; exact h
theorem Cmp_notInLi {a : Addr} {ns : List Int} {i : Int} {Q : MV → St → Prop} (hh : Has σ a (.list (ns.map MV.int))) (h : Q (.bool (!decide (i ∈ ns))) σ) : Cmp C .NotIn (.int i) (.ref a) σ Q := by
  refine Cmp_notInL (fun y => match y with | .int j => decide (j = i) | _ => false) hh (fun y hy => ?_) ?_
  · obtain ⟨j, hj, rfl⟩ := List.mem_map.mp hy; exact .int j i
  · have e : (ns.map MV.int).any (fun y => match y with | .int j => decide (j = i) | _ => false) = decide (i ∈ ns) := by
      rw [List.any_map]; rw [Bool.eq_iff_iff]; simp
    rw [e]; exact h
theorem Holds.newIn {s s' : Shared} {mo : MO} (H : Holds C σ s) (e : ∀ b o, s.heap.get? b = some o → s'.heap.get? b = some o) (hg : s'.gens = s.gens) (hos : s'.os = s.os) (ho : OR s'.heap s.heap.objs.size mo) :
    Holds C { σ with own := (s.heap.objs.size, mo) :: σ.own } s' := (H.ext e hg hos).addO (fresh_facts H) ho
end
end
section
set_option autoImplicit false
set_option linter.unusedVariables false
set_option linter.unusedSimpArgs false
open PySem

section
variable {C : Cx} {hb : Heap} {prog : Program} {w : World} {sc cs : Scope} {n : Nat} {md : List Addr} {fl : Bool} {x : Str} {σ : St}

theorem Call_intBool {b : Bool} {Q : MV → St → Prop} (h : Q (.int (if b then 1 else 0)) σ) : CallV C (.type "int") [.bool b] σ Q := fun vs hvs s H => by
  obtain ⟨v, rfl, hv⟩ := hvs.one
  obtain rfl : v = .bool b := hv
  exact call_int_bool ⟨.int _, σ, ⟨_, rfl⟩, H.toks _, h⟩

theorem Call_dict {a : Addr} {ts : List Addr} {kvs : KV} {Q : MV → St → Prop} (F : Fx C hb prog w sc n md fl) (hl : hb.NoLimit) (hh : Has σ a (.list (ts.map MV.ref))) (hlen : ts.length = kvs.length) (hnd : (kvs.map (·.1)).Nodup)
    (ht : ∀ (i : Nat) (t : Addr) (p : Option Int × MV), ts[i]? = some t → kvs[i]? = some p → Has σ t (.tup [keyMV p.1, p.2])) (h : ∀ d, Fsh md σ d → Q (.ref d) { σ with own := (d, .dict kvs) :: σ.own }) :
    CallV C (.type "dict") [.ref a] σ Q := fun vs hvs s H => by
  obtain ⟨v, rfl, hv⟩ := hvs.one
  obtain rfl : v = .ref a := hv
  obtain ⟨us, nn, hob, hr, hlim⟩ := H.has hh
  -- the values
  have hex : ∀ (i : Nat), i < kvs.length → ∃ (t : Addr) (k : Option Int) (m : MV) (key val : Value) (o : Obj) (n' : Nat), kvs[i]? = some (k, m) ∧ us[i]? = some (.ref t) ∧ s.heap.get? t = some o ∧ o.cls = .type "tuple" ∧ o.data = .seq #[key, val] n' ∧ keyIs k key = true ∧ VR m val := by
    intro i hi
    obtain ⟨t, et⟩ : ∃ t, ts[i]? = some t := ⟨ts[i]'(hlen ▸ hi), by simp [hlen, hi]⟩
    obtain ⟨⟨k, m⟩, ep⟩ : ∃ p, kvs[i]? = some p := ⟨kvs[i], by simp [hi]⟩
    obtain ⟨ws, n', ho, hr', _⟩ := H.has (ht i t (k, m) et ep)
    obtain ⟨u, hu, hur⟩ := hr.get (i := i) (m := .ref t) (by simp [et])
    obtain rfl : u = .ref t := hur
    obtain ⟨ws⟩ := ws
    cases hr' with
    | cons g1 g2 => cases g2 with
      | cons g3 g4 => cases g4 with
        | nil => exact ⟨t, k, m, _, _, _, _, ep, by rw [← Array.getElem?_toList]; exact hu, ho, rfl, rfl, keyIs_of g1, g3⟩
  have hvk : ∀ (j : Nat), j ≤ kvs.length → ∃ vk : List (Option Int × Value), KVR (kvs.take j) vk ∧ ∀ (i : Nat) (k : Option Int) (v : Value), vk[i]? = some (k, v) → ∃ (t : Addr) (o : Obj) (key : Value) (n' : Nat), us[i]? = some (.ref t) ∧ s.heap.get? t = some o ∧ o.cls = .type "tuple" ∧ o.data = .seq #[key, v] n' ∧ keyIs k key = true := by
    intro j
    induction j with
    | zero => intro _; exact ⟨[], by simpa using KVR.nil, fun i k v e => by simp at e⟩
    | succ j ih =>
      intro hj
      obtain ⟨vk, h1, h2⟩ := ih (Nat.le_of_succ_le hj)
      obtain ⟨t, k, m, key, val, o, n', e1, e2, e3, e4, e5, e6, e7⟩ := hex j hj
      have hl1 : vk.length = j := by rw [← h1.length, List.length_take]; exact Nat.min_eq_left (Nat.le_of_succ_le hj)
      have et : kvs.take (j + 1) = kvs.take j ++ [(k, m)] := by rw [List.take_succ, e1]; rfl
      refine ⟨vk ++ [(k, val)], ⟨?_, ?_⟩, fun i k' v' e => ?_⟩
      · rw [et, List.map_append, List.map_append, h1.k]; rfl
      · rw [et, List.map_append, List.map_append]; exact h1.v.append (.cons e7 .nil)
      · by_cases hi : i < j
        · rw [List.getElem?_append_left (by rw [hl1]; exact hi)] at e; exact h2 i k' v' e
        · have : i = j := by
            have := (List.getElem?_eq_some_iff.mp e).1
            simp at this; omega
          subst this
          rw [List.getElem?_append_right (by omega), hl1] at e
          simp at e
          obtain ⟨rfl, rfl⟩ := e
          exact ⟨t, o, key, n', e2, e3, e4, e5, e6⟩
  obtain ⟨vk, hkv, hP⟩ := hvk kvs.length (Nat.le_refl _)
  rw [List.take_length] at hkv
  have hk : kvs.length = vk.length := hkv.length
  have hul : us.size = vk.length := by have := hr.length; simp at this; omega
  refine call_dictPairs (knd := optKind C.prog C.w) (kvs := vk) F.ok.handled hob (by have : lim = 1000000 := rfl; simp at hlim; omega) hul (fun j k v hj => hP j k v hj) fun h' tk hkeep hd => ?_
  have hnv : (vk.map (·.1)).Nodup := hkv.k ▸ hnd
  rw [merged_append_of_fresh [] vk (by simpa using hnv)] at hd
  have H' : Holds C σ { s with heap := h', toks := tk } := H.ext hkeep rfl rfl
  have H2 := H.newIn (s' := { s with heap := h', toks := tk }) (mo := .dict kvs) hkeep rfl rfl ⟨H.noModules F.ok hl, vk, ⟨_, _, by simpa using hd⟩, hkv, by simp at hlim; omega⟩
  exact ⟨.ref _, _, rfl, H2, h _ (F.emod ▸ H.fsh F.ok)⟩

/-- what every state keeps: owned objects are not frozen, and are apart -/
theorem Tr.facts {α β : Type} {t : Sem α} {R : β → α → Prop} {Q : β → St → Prop} (h : (∀ a ∈ σ.own.map (·.1), σ.B a = none) → (σ.own.map (·.1)).Nodup → Tr C t R σ Q) : Tr C t R σ Q := fun s H =>
  h (fun a ha => H.apartB a (List.mem_append_left _ ha)) (List.nodup_append.mp H.nodup).1 s H
theorem Sts_facts {b : List Stmt} {Q : MF → St → Prop} (h : (∀ a ∈ σ.own.map (·.1), σ.B a = none) → (σ.own.map (·.1)).Nodup → Sts C b σ Q) : Sts C b σ Q := Tr.facts h
theorem Ts_facts {b : Expr} {Q : Bool → St → Prop} (h : (∀ a ∈ σ.own.map (·.1), σ.B a = none) → (σ.own.map (·.1)).Nodup → Ts C b σ Q) : Ts C b σ Q := Tr.facts h
end
end
section
set_option autoImplicit false
set_option linter.unusedVariables false
set_option linter.unusedSimpArgs false
open PySem

/-! sets of ints as dictionaries -/
def tks (l : List Int) : KV := l.map fun k => (some k, MV.bool true)
theorem tks_length (l : List Int) : (tks l).length = l.length := by simp [tks]
theorem dget_tks (l : List Int) (b : Int) : (dget (tks l) (some b)).isSome = decide (b ∈ l) := by
  induction l with
  | nil => simp [tks, dget]
  | cons a l ih =>
    have : dget (tks (a :: l)) (some b) = if (some a : Option Int) = some b then some (.bool true) else dget (tks l) (some b) := rfl
    rw [this]
    by_cases e : a = b
    · subst e; simp
    · rw [if_neg (by simpa using e), ih]; simp [Ne.symm e]
theorem dget_tks_none (l : List Int) : dget (tks l) none = none := by
  induction l with
  | nil => rfl
  | cons a l ih =>
    have : dget (tks (a :: l)) none = if (some a : Option Int) = none then some (.bool true) else dget (tks l) none := rfl
    rw [this, if_neg (by simp), ih]
theorem dput_tks {l : List Int} {b : Int} (h : b ∉ l) : dput (tks l) (some b) (.bool true) = tks (l ++ [b]) := by
  induction l with
  | nil => rfl
  | cons a l ih =>
    have e : dput (tks (a :: l)) (some b) (.bool true) = if (some a : Option Int) = some b then (some a, .bool true) :: tks l else (some a, .bool true) :: dput (tks l) (some b) (.bool true) := rfl
    simp only [List.mem_cons, not_or] at h
    rw [e, if_neg (by simpa using Ne.symm h.1), ih h.2]
    rfl
theorem dput_tks_mem {l : List Int} {b : Int} (h : b ∈ l) : dput (tks l) (some b) (.bool true) = tks l := by
  induction l with
  | nil => simp at h
  | cons a l ih =>
    have e : dput (tks (a :: l)) (some b) (.bool true) = if (some a : Option Int) = some b then (some a, .bool true) :: tks l else (some a, .bool true) :: dput (tks l) (some b) (.bool true) := rfl
    rw [e]
    split
    · rfl
    · rename_i hne
      rw [ih (by rcases List.mem_cons.mp h with h | h
                 · exact absurd (by rw [h]) hne
                 · exact h)]
      rfl
theorem tks_keys (l : List Int) : (tks l).map (·.1) = l.map some := by simp [tks]
theorem nodup_map_some {l : List Int} (h : l.Nodup) : (l.map (some : Int → Option Int)).Nodup := by
  induction l with
  | nil => exact .nil
  | cons a l ih =>
    simp only [List.nodup_cons, List.map_cons] at h ⊢
    exact ⟨by simpa using h.1, ih h.2⟩

/-! small sums -/
theorem get_in {α : Type} {l : List α} {e : Int} (h0 : 0 ≤ e) (h1 : e < l.length) : ∃ x, l[e.toNat]? = some x := ⟨_, List.getElem?_eq_getElem ((Int.toNat_lt h0).mpr h1)⟩
theorem dfs1 : ∀ {f k n w : Nat}, f + k = n + (w + 1) → f ≤ n → f + (k - 1) = n + w ∧ k - 1 < k
  | f, 0, n, w, h, hf => absurd h (Nat.ne_of_lt (Nat.lt_of_le_of_lt hf (Nat.lt_add_of_pos_right (Nat.succ_pos w))))
  | f, k + 1, n, w, h, _ => ⟨Nat.succ.inj h, Nat.lt_succ_self k⟩
theorem dfs2 {f k n w : Nat} (h : f + k = n + w) : f + 1 + k = n + (w + 1) := (Nat.add_right_comm f 1 k).trans (congrArg Nat.succ h)
theorem lim_ok {a n : Nat} (h : a ≤ n) (hn : n ≤ 1000) : a + 1 ≤ lim := Nat.le_trans (Nat.succ_le_succ (Nat.le_trans h hn)) (by unfold lim; decide)
theorem dfs3 {f k n w : Nat} (h : f + k = n + w) (hf : f ≤ n) (hk : k ≤ n) (hn : n ≤ 1000) : w + 1 ≤ lim := lim_ok (Nat.le_of_add_le_add_left (h ▸ Nat.add_le_add hf hk)) hn
theorem bfs1 : ∀ {k p n : Nat}, k + p = n → p + 1 ≤ n → k - 1 + (p + 1) = n ∧ k - 1 < k
  | 0, p, n, h, hp => absurd (Nat.le_trans hp (Nat.le_of_eq (h.symm.trans (Nat.zero_add p)))) (Nat.not_succ_le_self p)
  | k + 1, p, n, h, _ => ⟨(Nat.succ_add_eq_add_succ k p).symm.trans h, Nat.lt_succ_self k⟩
theorem rev_lk {α : Type} {l : List α} {i : Nat} {a b : α} (ha : l.reverse[i]? = some a) (hb : l.reverse[i + 1]? = some b) : ∃ j, l[j]? = some b ∧ l[j + 1]? = some a := by
  have h1 := (List.getElem?_eq_some_iff.mp hb).1
  rw [List.length_reverse] at h1
  rw [List.getElem?_reverse h1] at hb
  rw [List.getElem?_reverse (Nat.lt_of_succ_lt h1)] at ha
  exact ⟨_, hb, (congrArg (fun k => l[k]?) (Nat.succ_pred_eq_of_pos (Nat.sub_pos_of_lt (Nat.lt_sub_of_add_lt h1)))).trans ha⟩
theorem lim20 {n : Nat} (h : n ≤ 20) : n ≤ lim := Nat.le_trans h (by unfold lim; decide)
theorem k20 {n : Nat} (h : n ≤ 20) : n ≤ 1000 := Nat.le_trans h (by decide)
theorem lim_map {α : Type} {g : α → MV} {l : List α} (h : l.length + 1 ≤ lim) : (l.map g).length + 1 ≤ lim := by rw [List.length_map]; exact h

/-! reaching -/
inductive Rch (E : Int → Int → Prop) (ok : Int → Prop) (s : Int) : Int → Prop
  | refl : Rch E ok s s
  | step {a b : Int} : Rch E ok s a → E a b → ok b → Rch E ok s b
theorem Rch.trans {E : Int → Int → Prop} {ok : Int → Prop} {a b c : Int} (h : Rch E ok a b) (h' : Rch E ok b c) : Rch E ok a c := by
  induction h' with
  | refl => exact h
  | step _ e o ih => exact .step ih e o
theorem Rch.mono {E E' : Int → Int → Prop} {ok ok' : Int → Prop} (hE : ∀ a b, E a b → ok b → E' a b ∧ ok' b) {a b : Int} (h : Rch E ok a b) : Rch E' ok' a b := by
  induction h with
  | refl => exact .refl
  | step _ e o ih => exact .step ih (hE _ _ e o).1 (hE _ _ e o).2

theorem length_le_of_nodup : ∀ (n : Nat) (l : List Int), l.Nodup → (∀ a ∈ l, 0 ≤ a ∧ a < n) → l.length ≤ n
  | 0, l, _, h => by
    cases l with
    | nil => simp
    | cons a l => have := h a List.mem_cons_self; omega
  | n + 1, l, hn, h => by
    have h1 : (l.erase n).length ≤ n := length_le_of_nodup n (l.erase n) (hn.erase _) fun a ha => by
      have h2 := h a (List.mem_of_mem_erase ha)
      have h3 : a ≠ n := ((List.Nodup.mem_erase_iff hn).mp ha).1
      omega
    have h2 : l.length ≤ (l.erase n).length + 1 := by
      rw [List.length_erase]; split <;> omega
    omega

structure DInv (E : Int → Int → Prop) (ok : Int → Prop) (s : Int) (n : Nat) (found W : List Int) (c : Int) (rest : List (Option Int)) : Prop where
  start : s ∈ found
  sound : ∀ a ∈ found, Rch E ok s a
  rng : ∀ a ∈ found, 0 ≤ a ∧ a < n
  nd : found.Nodup
  sub : ∀ a ∈ W, a ∈ found
  clo : ∀ a ∈ found, ∀ b, E a b → ok b → b ∈ found ∨ a ∈ W ∨ (a = c ∧ some b ∈ rest)
  cf : c ∈ found
  cE : ∀ b, some b ∈ rest → E c b
section
variable {E : Int → Int → Prop} {ok : Int → Prop} {s : Int} {n : Nat} {found W : List Int} {c : Int} {rest : List (Option Int)}
theorem DInv.init (h0 : 0 ≤ s) (h1 : s < n) : DInv E ok s n [s] [s] s [] where
  start := by simp
  sound := fun a ha => by simp at ha; subst ha; exact .refl
  rng := fun a ha => by simp at ha; subst ha; exact ⟨h0, h1⟩
  nd := by simp
  sub := fun a ha => ha
  clo := fun a ha b _ _ => .inr (.inl ha)
  cf := by simp
  cE := fun b hb => by simp at hb
theorem DInv.pop {d : Int} {succ : List (Option Int)} (D : DInv E ok s n found (W ++ [d]) c []) (hs : ∀ b, E d b ↔ some b ∈ succ) : DInv E ok s n found W d succ where
  start := D.start
  sound := D.sound
  rng := D.rng
  nd := D.nd
  sub := fun a ha => D.sub a (List.mem_append_left _ ha)
  clo := fun a ha b e o => by
    rcases D.clo a ha b e o with h | h | h
    · exact .inl h
    · rcases List.mem_append.mp h with h | h
      · exact .inr (.inl h)
      · simp at h; subst h; exact .inr (.inr ⟨rfl, (hs b).mp e⟩)
    · simp at h
  cf := D.sub d (by simp)
  cE := fun b hb => (hs b).mpr hb
theorem DInv.skip {o : Option Int} (D : DInv E ok s n found W c (o :: rest)) (h : ∀ b, o = some b → ok b → b ∈ found) : DInv E ok s n found W c rest where
  start := D.start
  sound := D.sound
  rng := D.rng
  nd := D.nd
  sub := D.sub
  clo := fun a ha b e o' => by
    rcases D.clo a ha b e o' with h' | h' | ⟨h', h''⟩
    · exact .inl h'
    · exact .inr (.inl h')
    · rcases List.mem_cons.mp h'' with h3 | h3
      · exact .inl (h b h3.symm o')
      · exact .inr (.inr ⟨h', h3⟩)
  cf := D.cf
  cE := fun b hb => D.cE b (List.mem_cons_of_mem _ hb)
theorem DInv.add {b : Int} (D : DInv E ok s n found W c (some b :: rest)) (ho : ok b) (hb : b ∉ found) (h0 : 0 ≤ b) (h1 : b < n) : DInv E ok s n (found ++ [b]) (W ++ [b]) c rest where
  start := List.mem_append_left _ D.start
  sound := fun a ha => by
    rcases List.mem_append.mp ha with h | h
    · exact D.sound a h
    · simp at h; subst h; exact .step (D.sound c D.cf) (D.cE a List.mem_cons_self) ho
  rng := fun a ha => by
    rcases List.mem_append.mp ha with h | h
    · exact D.rng a h
    · simp at h; subst h; exact ⟨h0, h1⟩
  nd := List.nodup_append.mpr ⟨D.nd, by simp, fun x hx y hy e => by simp at hy; subst hy; subst e; exact hb hx⟩
  sub := fun a ha => by
    rcases List.mem_append.mp ha with h | h
    · exact List.mem_append_left _ (D.sub a h)
    · exact List.mem_append_right _ h
  clo := fun a ha b' e o => by
    rcases List.mem_append.mp ha with h | h
    · rcases D.clo a h b' e o with h' | h' | ⟨h', h''⟩
      · exact .inl (List.mem_append_left _ h')
      · exact .inr (.inl (List.mem_append_left _ h'))
      · rcases List.mem_cons.mp h'' with h3 | h3
        · cases h3; exact .inl (by simp)
        · exact .inr (.inr ⟨h', h3⟩)
    · exact .inr (.inl (List.mem_append_right _ h))
  cf := List.mem_append_left _ D.cf
  cE := fun b hb => D.cE b (List.mem_cons_of_mem _ hb)
theorem DInv.done (D : DInv E ok s n found [] c []) (a : Int) : a ∈ found ↔ Rch E ok s a := by
  refine ⟨D.sound a, fun h => ?_⟩
  induction h with
  | refl => exact D.start
  | step _ e o ih =>
    rcases D.clo _ ih _ e o with h | h | h
    · exact h
    · simp at h
    · simp at h
theorem DInv.len (D : DInv E ok s n found W c rest) : found.length ≤ n := length_le_of_nodup n found D.nd D.rng
end

open PySem
theorem if_b {c : Bool} {A B : Prop} (h1 : c = true → A) (h2 : c = false → B) : if c = true then A else B := by
  cases c with
  | true => exact h1 rfl
  | false => exact h2 rfl
end
section
set_option autoImplicit false
set_option linter.unusedVariables false
set_option linter.unusedSimpArgs false
open PySem
theorem look_put_self (l : Loc) (x : Str) (m : MV) : look (put l x m) x = some m := by rw [look_put]; simp
/-- hidden from the stepping rules -/
def GlD (hb : Heap) : Prop := Gl hb "dict" (.oth (.type "dict"))
def nums0 (n : Nat) : List Int := (List.range n).map fun (i : Nat) => (i : Int)
theorem mem_nums0 {n : Nat} {a : Int} : a ∈ nums0 n ↔ 0 ≤ a ∧ a < n := by
  unfold nums0
  rw [List.mem_map]
  constructor
  · rintro ⟨i, hi, rfl⟩; simp at hi; omega
  · rintro ⟨h0, h1⟩; exact ⟨a.toNat, by simp; omega, by omega⟩
theorem nodup_nums0 (n : Nat) : (nums0 n).Nodup := by
  unfold nums0
  refine List.Pairwise.map _ ?_ List.nodup_range
  intro a b h e; exact h (by omega)
theorem length_nums0 (n : Nat) : (nums0 n).length = n := by simp [nums0]
theorem range_nums0 (n : Nat) : (List.range n).map (fun (i : Nat) => MV.int (i : Int)) = (nums0 n).map MV.int := by simp [nums0]
theorem get_nums0 {n i : Nat} {z : Int} (h : (nums0 n)[i]? = some z) : i < n ∧ z = i := by
  unfold nums0 at h
  rw [List.getElem?_map] at h
  obtain ⟨j, hj, rfl⟩ := Option.map_eq_some_iff.mp h
  obtain ⟨h1, h2⟩ := List.getElem?_eq_some_iff.mp hj
  simp at h1 h2
  exact ⟨h1, by omega⟩
section
variable {C : Cx} {hb : Heap} {prog : Program} {w : World} {sc cs : Scope} {n : Nat} {md : List Addr} {fl : Bool} {x : Str} {σ : St}

def PairsIn (B : MH) (ts : List Addr) (l : List Int) : Prop := ts.length = l.length ∧ ∀ (i : Nat) (t : Addr) (k : Int), ts[i]? = some t → l[i]? = some k → B t = some (.tup [.int k, .bool true])
theorem PairsIn.mono {B B' : MH} {ts : List Addr} {l : List Int} (h : PairsIn B ts l) (s : Sub0 B B') : PairsIn B' ts l := ⟨h.1, fun i t k h1 h2 => s _ _ (h.2 i t k h1 h2)⟩
theorem PairsIn.snoc {B : MH} {ts : List Addr} {l : List Int} {t : Addr} {k : Int} (h : PairsIn B ts l) (hc : B t = some (.tup [.int k, .bool true])) : PairsIn B (ts ++ [t]) (l ++ [k]) := by
  refine ⟨by simp [h.1], fun i t' k' h1 h2 => ?_⟩
  by_cases hi : i < ts.length
  · rw [List.getElem?_append_left hi] at h1
    rw [List.getElem?_append_left (by rw [← h.1]; exact hi)] at h2
    exact h.2 i t' k' h1 h2
  · rw [List.getElem?_append_right (by omega)] at h1
    rw [List.getElem?_append_right (by rw [← h.1]; omega), ← h.1] at h2
    have e : i - ts.length = 0 := by
      have := (List.getElem?_eq_some_iff.mp h1).1
      simp at this; omega
    rw [e] at h1 h2
    simp at h1 h2
    subst h1; subst h2; exact hc
theorem Exs_cv {pos : Pos} {es : List Expr} {σ' : St} {Q : List MV → St → Prop} (F : Fx C hb prog w sc n md fl) (c : Cv md σ σ') (h : Exs C pos es σ' Q) : Exs C pos es σ Q := Tr.cv F c h
theorem swaps_yes {elt : Expr} {gens : List Comprehension} {y : Str} {py pos : Pos} {ln : Nat} (F : Fx C hb prog w sc n md fl) (hk : sc.names.lookup y = some .local) (hl : (py.line == pos.line) = true) (hn : (cs.names.any fun p => p.1 == y && (p.2 == .local || p.2 == .cell)) = false) :
    swapsWith (.ListComp elt gens cs pos) (some (.Name y py)) ln C.env = pure true := by
  have hb : (C.env.blockKind == ScopeKind.function) = true := by unfold Env.blockKind; rw [F.ok.kind]; rfl
  have hv : (C.env.kindOf y == some NameKind.local) = true := by rw [F.kind hk]; rfl
  show (pure (C.env.blockKind == .function && C.env.kindOf y == some .local && py.line == pos.line && !(cs.names.any fun p => p.1 == y && (p.2 == .local || p.2 == .cell))) : Sem Bool) = pure true
  rw [hb, hv, hl, hn]; rfl
theorem Ts_mono {e : Expr} {Q Q' : Bool → St → Prop} (h : Ts C e σ Q) (h' : ∀ b σ', Q b σ' → Q' b σ') : Ts C e σ Q' := Tr.mono h h'
theorem Stm_mono {e : Stmt} {Q Q' : MF → St → Prop} (h : Stm C e σ Q) (h' : ∀ b σ', Q b σ' → Q' b σ') : Stm C e σ Q' := Tr.mono h h'
theorem ite_cut {c : Prop} [Decidable c] {b1 b2 : List Stmt} {K : MF → St → Prop} (J : St → Prop) (h1 : c → Sts C b1 σ (fun f σ' => f = .next ∧ J σ')) (h2 : ¬ c → Sts C b2 σ (fun f σ' => f = .next ∧ J σ')) (h : ∀ σ', J σ' → K .next σ') :
    if decide c = true then Sts C b1 σ K else Sts C b2 σ K := by
  have key : ∀ b : List Stmt, Sts C b σ (fun f σ' => f = .next ∧ J σ') → Sts C b σ K := fun b hb' => Tr.mono hb' fun f σ' ⟨e, hj⟩ => e ▸ h σ' hj
  by_cases hc : c
  · rw [if_pos (by simpa using hc)]; exact key _ (h1 hc)
  · rw [if_neg (by simpa using hc)]; exact key _ (h2 hc)
theorem Sub0s {B : MH} {a : Addr} {o : MO} (h : B a = none) : Sub0 B (setB B a o) := fun b o' hb' => by
  rw [setB_ne (fun e => by subst e; rw [h] at hb'; cases hb')]; exact hb'
theorem Sub0t {B B' B'' : MH} (h : Sub0 B B') (h' : Sub0 B' B'') : Sub0 B B'' := fun a o x => h' a o (h a o x)

/-- dict([(x, True) for x in iter]) -/
theorem Ex_dictTrue {iter : Expr} {k kk : Nat} {p1 p2 p3 p4 p5 p6 p7 : Pos} {Q : MV → St → Prop} (F : Fx C hb prog w sc n md fl) (hlim : hb.NoLimit) (gd : GlD hb) (hk : sc.names.lookup (Str.ofString "dict") = some .globalImplicit)
    (K : CompOk cs sc x) (hs : ∀ v, foldedSetIterable iter C.env v = pure v) (hx : okName x = true)
    (h : Ex C iter σ (fun v σ₁ => ∃ l : List Int, Itr σ₁ v (l.map MV.int) ∧ l.Nodup ∧ l.length ≤ lim ∧ ∀ B' d, Sub0 σ₁.B B' → B' d = none → d ∉ md → d ∉ σ₁.own.map (·.1) → Q (.ref d) ⟨σ₁.loc, B', (d, .dict (tks l)) :: σ₁.own⟩)) :
    Ex C (.Call (.Name "dict" p1) [.ListComp (.Tuple [.Name x p2, .Constant (.bool true) k p3] kk p4) [⟨.Name x p5, iter, [], 0⟩] cs p6] [] p7) σ Q := by
  refine Tr.post F ?_
  refine Ex_CallT F.ok gd (F.kind hk) rfl rfl ?_
  refine Exs_cons rfl ?_
  refine Ex_Comp F K hs (Tr.mono h fun v σ₁ hpat => ?_)
  obtain ⟨l, it, hnd, hl, hq⟩ := hpat
  refine ⟨l.map MV.int, fun i ys B' own' => own' = σ₁.own ∧ Sub0 σ₁.B B' ∧ ∃ ts, ys = ts.map MV.ref ∧ PairsIn B' ts (l.take i), it, by simpa using hl, ⟨rfl, Sub0.rfl' _, [], rfl, rfl, by simp⟩, ?_, ?_⟩
  · rintro C' F' i ys B' own' m ⟨rfl, hs', ts, rfl, hp⟩ hm
    rw [List.getElem?_map] at hm
    obtain ⟨z, hz, rfl⟩ := Option.map_eq_some_iff.mp hm
    refine CTs_nil ?_
    dsimp only
    refine if_tt ?_
    refine Ex_TupleF F' ?_
    refine Exs_cons rfl ?_
    refine Ex_loc F' (look_put_self _ _ _) hx ?_
    refine Exs_cons rfl ?_
    refine Ex_bool ?_
    refine Exs_nil ⟨by simp [lim], fun a ha => ?_⟩
    refine ⟨_, .frz ha.md, rfl, Sub0t hs' (Sub0s ha.B), ts ++ [a], by simp, ?_⟩
    have et : l.take (i + 1) = l.take i ++ [z] := by rw [List.take_add_one, hz]; rfl
    rw [et]
    exact (hp.mono (Sub0s ha.B)).snoc setB_self
  · rintro ys B' own' ⟨rfl, hs', ts, rfl, hp⟩ la hla
    rw [List.length_map, List.take_length] at hp
    refine Exs_nil ?_
    refine Call_dict F hlim (.inl (.head _)) (ts := ts) (kvs := tks l) (by rw [hp.1, tks_length]) (by rw [tks_keys]; exact nodup_map_some hnd) (fun i t p h1 h2 => ?_) fun d hd => ?_
    · unfold tks at h2
      rw [List.getElem?_map] at h2
      obtain ⟨z, hz, rfl⟩ := Option.map_eq_some_iff.mp h2
      exact .inr (hp.2 i t z h1 hz)
    · refine ⟨_, .own (List.Sublist.cons_cons _ (List.sublist_cons_self ..)), hq B' d hs' hd.B hd.md fun hm => hd.own (by simp at hm ⊢; exact .inr hm)⟩
end
end
set_option autoImplicit false
set_option linter.unusedVariables false
set_option linter.unusedSimpArgs false
set_option compiler.extract_closed false
open PySem
theorem Ex_CallB' {C : Cx} {hb : Heap} {σ : St} {prog : Program} {w : World} {sc : Scope} {n : Nat} {md : List Addr} {fl : Bool} {f : Str} {p pos : Pos} {e : Expr} {rest : List Expr} {T : String} {Q : MV → St → Prop} (F : Fx C hb prog w sc n md fl) (g : Gl hb f (.oth (.builtin T))) (hk : sc.names.lookup f = some .globalImplicit)
    (he : starEach (e :: rest) C.env = (false, eval e C.env) :: starEach rest C.env) (hplain : (backTo pos (starEach rest C.env)).any (·.1) = false)
    (h : Exs C pos (e :: rest) σ (fun vs σ₁ => CallV C (.builtin T) vs σ₁ Q)) : Ex C (.Call (.Name f p) (e :: rest) [] pos) σ Q := Ex_CallB F.ok g (F.kind hk) he hplain h
theorem Ex_CallT' {C : Cx} {hb : Heap} {σ : St} {prog : Program} {w : World} {sc : Scope} {n : Nat} {md : List Addr} {fl : Bool} {f : Str} {p pos : Pos} {e : Expr} {rest : List Expr} {T : String} {Q : MV → St → Prop} (F : Fx C hb prog w sc n md fl) (g : Gl hb f (.oth (.type T))) (hk : sc.names.lookup f = some .globalImplicit)
    (he : starEach (e :: rest) C.env = (false, eval e C.env) :: starEach rest C.env) (hplain : (backTo pos (starEach (e :: rest) C.env)).any (·.1) = false)
    (h : Exs C pos (e :: rest) σ (fun vs σ₁ => CallV C (.type T) vs σ₁ Q)) : Ex C (.Call (.Name f p) (e :: rest) [] pos) σ Q := Ex_CallT F.ok g (F.kind hk) he hplain h
theorem Call_max' {C : Cx} {hb : Heap} {σ : St} {prog : Program} {w : World} {sc : Scope} {n : Nat} {md : List Addr} {fl : Bool} {a b : Int} {Q : MV → St → Prop} (F : Fx C hb prog w sc n md fl) (h : Q (.int (max a b)) σ) : CallV C (.builtin "max") [.int a, .int b] σ Q := Call_max F.ok h
theorem Call_min' {C : Cx} {hb : Heap} {σ : St} {prog : Program} {w : World} {sc : Scope} {n : Nat} {md : List Addr} {fl : Bool} {a b : Int} {Q : MV → St → Prop} (F : Fx C hb prog w sc n md fl) (h : Q (.int (min a b)) σ) : CallV C (.builtin "min") [.int a, .int b] σ Q := Call_min F.ok h
local macro_rules | `(tactic| walk_at "m ne") => `(tactic| exact ofString_ne (by decide))
local macro_rules | `(tactic| walk_at "m look") => `(tactic| first | with_reducible exact look_hd | (refine' look_tl ?a ?b; (case a => walk_at "m ne"); (case b => walk_at "m look")))
local macro_rules | `(tactic| walk_at "m put") => `(tactic| first | with_reducible exact put_nil | with_reducible exact put_hd | (refine' put_tl ?a ?b; (case a => walk_at "m ne"); (case b => walk_at "m put")))
local macro_rules | `(tactic| walk_at "m capt") => `(tactic| first | with_reducible exact capt_nil | (refine' capt_keep ?a ?b; (case a => rfl); (case b => walk_at "m capt")) | (refine' capt_skip ?a ?b; (case a => decide); (case b => walk_at "m capt")))
local macro_rules | `(tactic| walk_at "m cex") => `(tactic| ((first | with_reducible refine' Ex_le ?a ?_ | with_reducible refine' Ts_le ?a ?_); (case a => refine' put_capt ?a ?b; (case a => walk_at "m capt"); (case b => walk_at "m put"))))
local macro_rules | `(tactic| walk_at "m compok") => `(tactic| exact ⟨rfl, by decide, by decide, by decide, rfl⟩)
local macro_rules | `(tactic| walk_at "m mem") => `(tactic| first | with_reducible exact mem_hd | ((with_reducible refine mem_tl ?_); walk_at "m mem"))
local macro_rules | `(tactic| walk_at "m upd") => `(tactic| first | with_reducible exact Upd.head | ((with_reducible refine' Upd.tail ?a); (case a => walk_at "m upd")))
local macro_rules | `(tactic| walk_at "m has") => `(tactic| first | with_reducible assumption | (refine Or.inr ?_; with_reducible assumption) | (refine Or.inl ?_; (try dsimp only); walk_at "m mem") | fail "x")
local macro_rules | `(tactic| walk_at "s") => `(tactic| first
  | with_reducible assumption
  | (guard_target = look _ _ = _; walk_at "m look")
  | (guard_target = put _ _ _ = _; walk_at "m put")
  | (guard_target = Has _ _ _; walk_at "m has")
  | (guard_target = Upd _ _ _ _ _; (try dsimp only); walk_at "m upd")
  | rfl
  | exact interactive_false (by assumption)
  | decide
  | omega
  | (refine log2_small ?_; omega)
  | decide +kernel
  | exact IntMulOk.of_right (by decide +kernel) | exact IntMulOk.of_left (by decide +kernel) | exact mul_small (by omega)
  | (simp only [List.length_map, List.length_append, List.length_cons, List.length_nil, lim]; omega)
  | fail "s")
local macro_rules | `(tactic| walk_at "m set") => `(tactic| ((with_reducible refine' SetG_list ?a ?b ?c ?d ?_); (case a | b | c => walk_at "s"); (case d => first | assumption | (simp; first | done | omega) | omega)))
local macro_rules | `(tactic| walk_at "m stm") => `(tactic| first
  | ((with_reducible refine' Stm_Assign ?a ?_); case a => walk_at "s")
  | ((with_reducible refine' Stm_Expr ?a ?b ?_); case a | b => walk_at "s")
  | ((with_reducible refine' Stm_SetI ?a ?_); case a => walk_at "s")
  | (with_reducible first | refine Stm_If ?_ | refine Stm_Return ?_ | fail "x")
  | fail "x")
local macro_rules | `(tactic| walk_at "m ex") => `(tactic| first
  | ((with_reducible refine' Ex_loc ?a ?b ?c ?_); case a | b | c => walk_at "s")
  | ((with_reducible refine' Ex_CallC ?a ?b ?c ?d ?e ?_); case a | b | c | d | e => walk_at "s")
  | ((with_reducible refine' Ex_CallB' ?a ?b ?c ?d ?e ?_); case a | b | c | d | e => walk_at "s")
  | ((with_reducible refine' Ex_CallT' ?a ?b ?c ?d ?e ?_); case a | b | c | d | e => walk_at "s")
  | ((with_reducible refine' Ex_Subscript ?a ?_); case a => walk_at "s")
  | ((with_reducible refine' Ex_Compare ?a ?_); case a => walk_at "s")
  | ((with_reducible refine' Ex_glb ?a ?b ?c ?_); case a | b | c => walk_at "s")
  | ((with_reducible refine' Ex_ListF ?a ?_); case a => walk_at "s")
  | ((with_reducible refine' Ex_TupleF ?a ?_); case a => walk_at "s")
  | ((with_reducible refine' Ex_chain2 ?a ?_); case a => walk_at "s")
  | ((with_reducible refine' Ex_appG ?a ?b ?c ?d ?_); case a | b | c | d => walk_at "s")
  | (with_reducible first | refine Ex_int ?_ | refine Ex_str ?_ | refine Ex_BinOp ?_ | refine Ex_none ?_ | refine Ex_bool ?_ | refine Ex_And2 ?_ | refine Ex_UnaryOp ?_ | fail "x")
  | fail "x")
local macro_rules | `(tactic| walk_at "m ts") => `(tactic| first
  | ((with_reducible refine' Ts_Compare ?a ?_); case a => walk_at "s")
  | ((with_reducible refine' Ts_chain2 ?a ?_); case a => walk_at "s")
  | ((with_reducible refine' Ts_val ?a ?_); case a => walk_at "s")
  | (with_reducible first | refine Ts_Not ?_ | refine Ts_And ?_ | refine Ts_And_nil ?_ | refine Ts_Or ?_ | refine Ts_Or_nil ?_ | fail "x")
  | fail "x")
local macro_rules | `(tactic| walk_at "m bin") => `(tactic| first
  | ((with_reducible refine' Bin_mod ?a ?b ?_); case a | b => walk_at "s")
  | ((with_reducible refine' Bin_div ?a ?b ?_); case a | b => walk_at "s")
  | ((with_reducible refine' Bin_pow ?a ?b ?c ?_); case a | b | c => walk_at "s")
  | ((with_reducible refine' Bin_mul ?a ?_); case a => walk_at "s")
  | (with_reducible first | refine Bin_add ?_ | refine Bin_sub ?_ | fail "x")
  | fail "x")
local macro_rules | `(tactic| walk_at "m cmp") => `(tactic| first
  | ((with_reducible refine' Cmp_isNone ?a ?_); case a => walk_at "s")
  | ((with_reducible refine' Cmp_isNotNone ?a ?_); case a => walk_at "s")
  | ((with_reducible refine' Cmp_inDi ?a ?_); case a => walk_at "s")
  | ((with_reducible refine' Cmp_notInDi ?a ?_); case a => walk_at "s")
  | ((with_reducible refine' Cmp_inDn ?a ?_); case a => walk_at "s")
  | ((with_reducible refine' Cmp_inLi ?a ?_); case a => walk_at "s")
  | ((with_reducible refine' Cmp_notInLi ?a ?_); case a => walk_at "s")
  | (with_reducible first | refine Cmp_lt ?_ | refine Cmp_eq ?_ | refine Cmp_le ?_ | refine Cmp_gt ?_ | refine Cmp_ge ?_ | refine Cmp_ne ?_ | refine Cmp_eqStr ?_ | fail "x")
  | fail "x")
local macro_rules | `(tactic| walk_at "m store") => `(tactic| first
  | ((with_reducible refine' Store_loc ?a ?b ?c ?_); case a | b | c => walk_at "s")
  | ((with_reducible refine' Store_cel ?a ?b ?c ?_); case a | b | c => walk_at "s")
  | fail "x")
local macro_rules | `(tactic| walk_at "m call") => `(tactic| first
  | ((with_reducible refine' Call_len_list ?a ?_); case a => walk_at "s")
  | ((with_reducible refine' Call_len_tup ?a ?_); case a => walk_at "s")
  | ((with_reducible refine' isi_list_list ?a ?_); case a => walk_at "s")
  | ((with_reducible refine' isi_tup_tup ?a ?_); case a => walk_at "s")
  | ((with_reducible refine' Call_listF ?a ?b ?_); case a | b => walk_at "s")
  | ((with_reducible refine' Call_max' ?a ?_); case a => walk_at "s")
  | ((with_reducible refine' Call_min' ?a ?_); case a => walk_at "s")
  | ((with_reducible refine' Call_len_ro ?a ?_); case a => walk_at "s")
  | (with_reducible first | refine isi_int_int ?_ | refine isi_int_bool ?_ | refine Call_intBool ?_ | fail "x")
  | fail "x")
local macro_rules | `(tactic| walk_at "m ite") => `(tactic| first
  | ((with_reducible refine' and_lim ?a ?_); (case a => exact Nat.le_of_ble_eq_true rfl))
  | (with_reducible first | refine if_tt ?_ | refine if_ff ?_ | refine if_ntt ?_ | fail "x")
  | fail "x")
local macro_rules | `(tactic| walk_at "m1") => `(tactic| first
  | (guard_target = Ex _ _ _ _; walk_at "m ex")
  | (guard_target = Exs _ _ _ _ _; first | ((with_reducible refine' Exs_cons ?a ?_); (case a => rfl)) | with_reducible refine Exs_nil ?_)
  | (guard_target = Sts _ _ _ _; (with_reducible first | refine Sts_cons ?_ | refine Sts_nil ?_ | fail "x"))
  | (guard_target = Stm _ _ _ _; walk_at "m stm")
  | (guard_target = Ts _ _ _ _; walk_at "m ts")
  | (guard_target = Bin _ _ _ _ _ _; walk_at "m bin")
  | (guard_target = Cmp _ _ _ _ _ _; walk_at "m cmp")
  | (guard_target = Trt _ _ _ _; (with_reducible first | refine Trt_bool ?_ | fail "x"))
  | (guard_target = Store _ _ _ _ _; walk_at "m store")
  | (guard_target = CallV _ _ _ _ _; walk_at "m call")
  | (guard_target = SubG _ _ _ _ _; first | ((with_reducible refine' SubG_tup ?a ?b ?c ?_); (case a => walk_at "m has"); (case b => decide); (case c => rfl)) | ((with_reducible refine' SubG_list ?a ?b ?c ?_); (case a => walk_at "m has"); (case b => decide); (case c => rfl)))
  | (guard_target = Una _ _ _ _ _; (with_reducible first | refine Una_Not ?_ | fail "x"))
  | ((with_reducible refine' AppG_i ?a ?_); case a => walk_at "s")
  | ((with_reducible refine' App2_i ?a ?b ?_); case a | b => walk_at "s")
  | walk_at "m ite" | fail "x")
local macro_rules | `(tactic| walk_at "m") => `(tactic| repeat' (walk_at "m1"; (try dsimp only [List.nil_append, List.cons_append])))
section
set_option autoImplicit false
set_option linter.unusedVariables false
set_option linter.unusedSimpArgs false
open PySem PySem.SeqAt
section
variable {C : Cx} {hb : Heap} {prog : Program} {w : World} {sc cs : Scope} {n : Nat} {md : List Addr} {fl : Bool} {x : Str} {σ : St}

/-- an owned object is given up -/
theorem Holds.lose {s s' : Shared} {l : Loc} {B : MH} {a : Addr} {mo : MO} {own : Own} (OK : C.Ok hb) (H : Holds C ⟨l, B, (a, mo) :: own⟩ s) (ha : a ∉ C.mod)
    (e : ∀ b ob, b ≠ a → s.heap.get? b = some ob → s'.heap.get? b = some ob) (hg : s'.gens = s.gens) (hos : s'.os = s.os) : Holds C ⟨l, B, own⟩ s' := by
  have nd : (a :: (own.map (·.1) ++ C.fr)).Nodup := H.nodup
  have nd1 := List.nodup_cons.mp nd
  have ma' : a ∈ (((a, mo) :: own).map (·.1)) ++ C.fr := List.mem_append_left _ List.mem_cons_self
  have nal : ¬ C.al a := (H.ownNew (a, mo) (.head _)).resolve_right ha
  have nfr : ∀ b ∈ C.fr, b ≠ a := fun b hb' e' => by subst e'; exact nd1.1 (List.mem_append_right _ hb')
  have cne : ∀ x c, C.env.cells.lookup x = some c → c ≠ a := fun x c hc => by
    rcases OK.cellsIn x c hc with h | ⟨ob, h⟩
    · exact nfr c h
    · exact fun e' => H.apartK a ma' ob (e' ▸ h)
  have lne : C.env.locals ≠ a := nfr _ OK.locals
  exact {
    kp := fun b ob h => e _ _ (fun e' => H.apartK a ma' ob (e' ▸ h)) (H.kp _ _ h)
    names := fun x v h => (H.names x v h).extBut e lne (cne x)
    ns := let ⟨m, h⟩ := H.ns; ⟨m, h.extBut e lne⟩
    cells := fun x c h => let ⟨v, ob, h1, h2⟩ := H.cells x c h; ⟨v, ob, e _ _ (cne x c h) h1, h2⟩
    alive := fun b hb' => let ⟨ob, h⟩ := H.alive b hb'; ⟨ob, e _ _ (nfr b hb') h⟩
    B := fun b ob h => (H.B b ob h).at fun oo ho' => e _ _ (fun e' => by have h : B b = some ob := h; rw [e', show B a = none from H.apartB a ma'] at h; cases h) ho'
    own := fun p hp => (H.own p (.tail _ hp)).at fun oo ho' => e _ _ (fun e' => nd1.1 (List.mem_append_left _ (e' ▸ List.mem_map_of_mem (f := (·.1)) hp))) ho'
    nodup := nd1.2
    apartB := fun b hb' => H.apartB b (.tail _ hb')
    apartK := fun b hb' => H.apartK b (.tail _ hb')
    gens := hg.trans H.gens
    os := hos.trans H.os
    al := fun b hb' => let ⟨ob, hob⟩ := H.al b hb'; ⟨ob, e _ _ (fun e' => nal (e' ▸ hb')) hob⟩
    B0 := H.B0
    Bnew := H.Bnew
    noB := H.noB
    ownNew := fun p hp => H.ownNew p (.tail _ hp) }

theorem Holds.newAt {s s' : Shared} {a : Addr} {mo : MO} (H : Holds C σ s) (ha : s.heap.objs.size ≤ a) (e : ∀ b o, s.heap.get? b = some o → s'.heap.get? b = some o) (hg : s'.gens = s.gens) (hos : s'.os = s.os) (ho : OR s'.heap a mo) :
    Holds C { σ with own := (a, mo) :: σ.own } s' := (H.ext e hg hos).addO (H.far ha) ho
theorem Cmp_neList {a b : Addr} {xs ys : List MV} {e : Nat → Bool} {Q : MV → St → Prop} (OK : C.Ok hb) (ha : Has σ a (.list xs)) (hb' : Has σ b (.list ys)) (hlen : xs.length = ys.length)
    (he : ∀ i m m', xs[i]? = some m → ys[i]? = some m' → EqM σ m m' (e i)) (h : Q (.bool (!(List.range xs.length).all e)) σ) : Cmp C .NotEq (.ref a) (.ref b) σ Q := fun va vb hva hvb s H => by
  obtain rfl : va = _ := hva
  obtain rfl : vb = _ := hvb
  obtain ⟨vs, nn, hob, hr, hlim⟩ := H.has ha
  obtain ⟨us, nn', hob', hr', hlim'⟩ := H.has hb'
  have hsz : vs.size = xs.length := by have := hr.length; simp at this; exact this.symm
  have hsz' : us.size = ys.length := by have := hr'.length; simp at this; exact this.symm
  refine PySem.W.cmp_ofNotEq (RcNeAt.lists (items := vs) (items2 := us) (e := e) ⟨_, hob, rfl, nn, rfl⟩ ⟨_, hob', rfl, nn', rfl⟩ (by omega) (by have := OK.units; omega) (fun j h1 h2 => ?_) _ _ _ _ ?_)
  · obtain ⟨m, hm, hmr⟩ := hr.getv (i := j) (v := vs[j]) (by simp [h1])
    obtain ⟨m', hm', hmr'⟩ := hr'.getv (i := j) (v := us[j]) (by simp [h2])
    exact (he j m m' hm hm').at H hmr hmr' _
  · rw [hsz]; exact ⟨.bool _, σ, rfl, H, h⟩
theorem Cmp_neSame {a b : Addr} {xs : List MV} {Q : MV → St → Prop} (OK : C.Ok hb) (ha : Has σ a (.list xs)) (hb' : Has σ b (.list xs)) (hx : ∀ m ∈ xs, (∃ i, m = .int i) ∨ ∃ c, m = .ref c) (h : Q (.bool false) σ) : Cmp C .NotEq (.ref a) (.ref b) σ Q := by
  refine Cmp_neList OK ha hb' (e := fun _ => true) rfl (fun i m m' h1 h2 => ?_) (by rw [show (List.range xs.length).all (fun _ => true) = true from by simp]; exact h)
  rw [h1] at h2; cases h2
  rcases hx m (List.mem_of_getElem? h1) with ⟨j, rfl⟩ | ⟨c, rfl⟩
  · simpa using EqM.int (σ := σ) j j
  · exact .same c
theorem mv_refs (l : List Addr) : ∀ m ∈ l.map MV.ref, (∃ i, m = .int i) ∨ ∃ c, m = .ref c := fun m hm => by obtain ⟨j, _, rfl⟩ := List.mem_map.mp hm; exact .inr ⟨j, rfl⟩

/-! sorted -/
theorem intsAre_of {ns : List Int} {vs : List Value} (h : VsR (ns.map MV.int) vs) : PyProof.Rows.IntsAre vs ns := by
  induction ns generalizing vs with
  | nil => cases h; exact .nil
  | cons a ns ih =>
    cases h with
    | cons h1 h2 => obtain ⟨t, rfl⟩ := h1; exact .cons a t (ih h2)
theorem of_intsAre {ns : List Int} {vs : List Value} (h : PyProof.Rows.IntsAre vs ns) : VsR (ns.map MV.int) vs := by
  induction h with
  | nil => exact .nil
  | cons n t _ ih => exact .cons ⟨t, rfl⟩ ih
theorem Call_sorted {a : Addr} {ns : List Int} {Q : MV → St → Prop} (F : Fx C hb prog w sc n md fl) (hh : Has σ a (.list (ns.map MV.int))) (h64 : ns.length < 64)
    (h : ∀ (ns' : List Int) (b : Addr), ns'.Perm ns → ns'.Pairwise (· ≤ ·) → Fsh md σ b → Q (.ref b) { σ with own := (b, .list (ns'.map MV.int)) :: σ.own }) : CallV C (.builtin "sorted") [.ref a] σ Q := fun vs hvs s H => by
  obtain ⟨v, rfl, hv⟩ := hvs.one
  obtain rfl : v = .ref a := hv
  obtain ⟨⟨vs⟩, nn, hob, hr, hlim⟩ := H.has hh
  have hI := intsAre_of hr
  refine PyProof.Rows.sorted_ints (vs := vs) (ns := ns) ⟨_, hob, rfl, nn, rfl⟩ hI (by have := hr.length; simp at this; omega) fun out ns' h1 h2 h3 => ?_
  obtain ⟨e, he⟩ := PyProof.Rows.sortedAll_at s.heap vs out
  refine ⟨.ref _, _, rfl, H.newAt (a := s.heap.objs.size + 1) (s' := { s with heap := PyProof.Rows.sortedAll s.heap vs out }) (mo := .list (ns'.map MV.int)) (Nat.le_succ _) (fun b o hb' => PyProof.Rows.sortedAll_old hb') rfl rfl ⟨out, e, he, of_intsAre h1, ?_⟩, h ns' _ h2 h3 (F.emod ▸ H.fshAt F.ok (Nat.le_succ _))⟩
  simp only [List.length_map] at hlim ⊢
  rw [h2.length_eq]; exact hlim

/-! list(dict) -/
theorem vr_key {k : Option Int} {v : Value} (h : keyIs k v = true) : VR (keyMV k) v := by
  cases k with
  | none => cases v <;> simp [keyIs] at h <;> rfl
  | some i => cases v <;> simp [keyIs, Value.isInt] at h; subst h; exact ⟨_, rfl⟩
theorem vsR_of : ∀ (ms : List MV) (vs : List Value), vs.length = ms.length → (∀ (i : Nat) (v : Value), vs[i]? = some v → ∃ m, ms[i]? = some m ∧ VR m v) → VsR ms vs
  | [], [], _, _ => .nil
  | m :: ms, v :: vs, hl, h => by
    obtain ⟨m', e, hv⟩ := h 0 v rfl
    cases e
    exact .cons hv (vsR_of ms vs (by simpa using hl) fun i u hu => h (i + 1) u hu)
theorem Call_listDict {d : Addr} {kvs : KV} {Q : MV → St → Prop} (F : Fx C hb prog w sc n md fl) (hh : Has σ d (.dict kvs))
    (h : ∀ b, Fsh md σ b → Q (.ref b) { σ with own := (b, .list (kvs.map fun p => keyMV p.1)) :: σ.own }) : CallV C (.type "list") [.ref d] σ Q := fun vs hvs s H => by
  obtain ⟨v, rfl, hv⟩ := hvs.one
  obtain rfl : v = .ref d := hv
  obtain ⟨hms, vk, ⟨p0, w0, hdo⟩, hkv, hlim⟩ := H.has hh
  obtain ⟨ep, hd⟩ : ∃ ep, s.heap.DictAt (optKind C.prog C.w) d vk ep := (dictOf_any (p' := C.prog) (w' := C.w) hdo).dictAt
  refine PySem.W.kdl_call (PySem.W.kdl_dict (knd := optKind C.prog C.w) (kvs := vk) (ep := ep) hms) F.ok.handled hd (by rw [← hkv.length]; exact Nat.le_trans hlim lim_le) fun h' tk acc c' hk hD hacc => ?_
  refine ⟨.ref _, _, rfl, H.newAt (a := s.heap.objs.size) (s' := { s with heap := h', toks := tk }) (mo := .list (kvs.map fun p => keyMV p.1)) (Nat.le_refl _) hk rfl rfl ⟨acc, c', hD, vsR_of _ _ ?_ fun i v hv => ?_, by simpa using hlim⟩, h _ (F.emod ▸ H.fshAt F.ok (Nat.le_refl _))⟩
  · rw [Array.length_toList, hacc.1, List.length_map, ← hkv.length]
  · obtain ⟨k, u, hku, hkk⟩ := hacc.2 i v (by rw [← Array.getElem?_toList]; exact hv)
    have e1 : (kvs.map (·.1))[i]? = some k := by rw [hkv.k, List.getElem?_map, hku]; rfl
    rw [List.getElem?_map] at e1
    obtain ⟨q, hq, e2⟩ := Option.map_eq_some_iff.mp e1
    exact ⟨keyMV q.1, by rw [List.getElem?_map, hq]; rfl, by rw [e2]; exact vr_key hkk⟩
/-! list(reversed(list)) -/
theorem lri_no_len : typeLookup (.type "list_reverseiterator") "__len__" = pure none := by rw [typeLookup_type, builtinLookup_eq_fast]; kernel_rfl
theorem lri_hint : typeLookup (.type "list_reverseiterator") "__length_hint__" = pure (some (.builtin "list_reverseiterator.__length_hint__")) := by rw [typeLookup_type, builtinLookup_eq_fast]; kernel_rfl
theorem hint_lri {A : Around} {E : Value → Shared → Prop} {s : Shared} {r : Addr} {Q : Bool → Shared → Prop} (hT : s.TypeIs (.ref r) "list_reverseiterator") (h : Q false s) : wpAny (model prog w) A (Builtin.List.listLengthHint (.ref r)) Q E s := by
  unfold Builtin.List.listLengthHint
  refine wpAny_bind (wpAny_specialOf hT lri_no_len ?_)
  refine wpAny_bind (wpAny_specialOf (name := Str.ofString "__length_hint__") hT lri_hint ?_)
  generalize hid : ("list_reverseiterator.__length_hint__" : String) = id0
  wp_delta
  rw [show splitId id0 = some ("list_reverseiterator", "__length_hint__") from by subst hid; decide +kernel]
  subst hid
  refine wpAny_bind (wpAny_isInstance (T := "list_reverseiterator") (b := true) hT (by rw [isSubtype_type]; kernel_rfl) ?_)
  refine wpAny_ite_split (fun hab => absurd hab (by decide)) (fun _ => ?_)
  refine wpAny_ite_split (fun _ => ?_) (fun hab => absurd (by decide +kernel) hab)
  refine wpAny_ite_split (fun hab => absurd hab (by decide +kernel)) (fun _ => ?_)
  exact wpAny_pure h
theorem lri_extend {A : Around} {s : Shared} {R : Result → Shared → Prop} {I l S : Addr} {items : Array Value} (hh : A.handled = none) (hit : s.heap.IsRevIter I l ((items.size : Int) - 1)) (hl : s.heap.IsList l items) (hSI : S ≠ I) (hSl : S ≠ l) (hlI : l ≠ I) (res : Value) (c₀ : Nat)
    (hS : s.heap.get? S = some { cls := .type "list", data := .seq #[] c₀ })
    (hR : ∀ h' tk acc' c', (∀ b o, b ≠ S → b ≠ I → s.heap.get? b = some o → h'.get? b = some o) → h'.get? S = some { cls := .type "list", dict := none, data := .seq acc' c', slots := #[] } → ItemsOf (fun i v => items[items.size - 1 - i]? = some v) acc' items.size → R (.ok (.ret res)) { s with heap := h', toks := tk }) (hn : items.size ≤ sizeLine) :
    wpAny (model prog w) A.in1 (Builtin.List.listExtendWith (.ref S) (.ref I) res)
      (fun fin s' => match fin with | .done f => R (.ok f) s' | .again c' => c'.quiet = true ∧ codeAny (model prog w) A c' R s') (fun e s' => R (.error e) s') s := by
  have W := Walks.listRev (prog := prog) (w := w) (A := A.in1) hh I l hlI items
  have hSf : S ∉ [I, l] := by simp [hSI, hSl]
  unfold Builtin.List.listExtendWith
  refine wpAny_bind (wpAny_typeOf (T := "list_reverseiterator") hit.typeIs ?_)
  have h1 : Builtin.List.listSameRef (.ref S) (.ref I) = false := by simp [Builtin.List.listSameRef, hSI]
  have h2 : (Value.type "list_reverseiterator" == Value.type "list") = false := by decide
  have h3 : (Value.type "list_reverseiterator" == Value.type "tuple") = false := by decide
  simp only [h1, h2, h3, Bool.or_false, Bool.false_eq_true, if_false]
  refine wpAny_bind (wpAny_pyIter_revIter hit ?_)
  refine wpAny_bind (wpAny_holding (hint_lri hit.typeIs ?_))
  refine wpAny_ite_split (fun hab => absurd hab (by decide +kernel)) (fun _ => wpAny_pure ⟨plainId_quiet PySem.F.plain_extend_loop _, ?_⟩)
  refine codeAny_extend_loopS W.toS hn S hSf res items.size 0 _ #[] c₀ rfl (Nat.zero_le _) ⟨Nat.zero_le _, by simpa using hit, hl⟩ hS (ItemsOf.nil _) fun s' acc' c' hm hS' hacc => ?_
  rw [Moved.eq_with hm]
  refine hR s'.heap s'.toks acc' c' (fun b o hb hbI e => hm.heap b o (fun hmem => ?_) e) hS' hacc
  rcases List.mem_cons.mp hmem with e' | hmem
  · exact hb e'
  · exact hbI (List.mem_singleton.mp hmem)
theorem lri_call {A : Around} {E : Value → Shared → Prop} {s : Shared} {Q : Value → Shared → Prop} {I l : Addr} {items : Array Value} (hh : A.handled = none) (hit : s.heap.IsRevIter I l ((items.size : Int) - 1)) (hl : s.heap.IsList l items) (hlI : l ≠ I) (hn : items.size ≤ sizeLine)
    (hQ : ∀ h' tk acc' c', (∀ b o, b ≠ I → s.heap.get? b = some o → h'.get? b = some o) → h'.get? s.heap.objs.size = some { cls := .type "list", dict := none, data := .seq acc' c', slots := #[] } → ItemsOf (fun i v => items[items.size - 1 - i]? = some v) acc' items.size → Q (.ref s.heap.objs.size) { s with heap := h', toks := tk }) :
    wpAny (model prog w) A (call (.type "list") [.ref I]) Q E s := by
  refine callType_codes (Q₁ := fun obj s₁ => obj = .ref s.heap.objs.size ∧ s₁ = { s with heap := s.heap.push { cls := .type "list", data := .seq #[] } }) PySem.F.called_list (PySem.F.typeCall_list_1 _) PySem.F.entry_list_init
    (code_list_new _ ⟨rfl, rfl⟩) fun obj s₁ h₁ => ?_
  obtain ⟨rfl, rfl⟩ := h₁
  have hS : (s.heap.push { cls := .type "list", data := .seq #[] }).get? s.heap.objs.size = some { cls := .type "list", data := .seq #[] } := Heap.get?_push_size _ rfl
  obtain ⟨oI, hoI, hI2⟩ := id hit
  obtain ⟨ol, hol, hl2⟩ := id hl
  have hSI : s.heap.objs.size ≠ I := Nat.ne_of_gt (Heap.lt_size hoI)
  have hSl : s.heap.objs.size ≠ l := Nat.ne_of_gt (Heap.lt_size hol)
  refine ⟨⟨_, hS, rfl⟩, PySem.F.args_list_init_2 _ _, ?_⟩
  show wpAny _ _ (do let old ← Builtin.List.listItems (.ref s.heap.objs.size); Builtin.List.listUpdate (.ref s.heap.objs.size) (fun _ => #[]); letGo old.toList.reverse; Builtin.List.listExtendWith (.ref s.heap.objs.size) (.ref I) .none) _ _ _
  refine wpAny_bind ?_
  unfold Builtin.List.listItems
  refine wpAny_bind (wpAny_seqItems hS rfl (wpAny_pure ?_))
  show wpAny _ _ (updateSeq s.heap.objs.size (fun _ => #[]) >>= fun _ => letGo (#[] : Array Value).toList.reverse >>= fun _ => Builtin.List.listExtendWith (.ref s.heap.objs.size) (.ref I) .none) _ _ _
  refine wpAny_bind (wpAny_updateSeq hS rfl ?_)
  have hS₂ := Heap.get?_update_self (Obj.mapSeq (fun _ => (#[] : Array Value))) hS rfl
  have oth : ∀ b o, b ≠ s.heap.objs.size → s.heap.get? b = some o → ((s.heap.push { cls := .type "list", data := .seq #[] }).update s.heap.objs.size (Obj.mapSeq (fun _ => (#[] : Array Value)))).get? b = some o :=
    fun b o hb e => (Heap.get?_update_other _ _ (Ne.symm hb)).trans (Heap.get?_push_of_some _ e)
  refine wpAny_bind (wpAny_letGo ?_)
  refine lri_extend (A := A.in1) (l := l) hh ⟨oI, oth _ _ hSI.symm hoI, hI2⟩ ⟨ol, oth _ _ hSl.symm hol, hl2⟩ hSI hSl hlI .none _ hS₂ (fun h' tk acc' c' hk hS' hacc => ?_) hn
  exact ⟨rfl, hQ h' tk acc' c' (fun b o hb e => hk b o (Nat.ne_of_lt (Heap.lt_size e)) hb (oth b o (Nat.ne_of_lt (Heap.lt_size e)) e)) hS' hacc⟩
theorem Call_reversed {a : Addr} {xs : List MV} {Q : MV → St → Prop} (F : Fx C hb prog w sc n md fl) (hh : Has σ a (.list xs))
    (h : ∀ b, Fsh md σ b → Q (.ref b) { σ with own := (b, .raw (revObj a ((xs.length : Int) - 1))) :: σ.own }) : CallV C (.type "reversed") [.ref a] σ Q := fun vs hvs s H => by
  obtain ⟨v, rfl, hv⟩ := hvs.one
  obtain rfl : v = .ref a := hv
  obtain ⟨vs, nn, hob, hr, hlim⟩ := H.has hh
  have hsz : vs.size = xs.length := by have := hr.length; simp at this; exact this.symm
  refine call_reversed_list (items := vs) ⟨_, hob, rfl, nn, rfl⟩ ?_
  rw [hsz]
  exact ⟨.ref _, _, rfl, H.new (mo := .raw _) (Heap.get?_push_size _ rfl), h _ (F.emod ▸ H.fsh F.ok)⟩
theorem Call_listRev {a b : Addr} {xs : List MV} {l : Loc} {B : MH} {own : Own} {Q : MV → St → Prop} (F : Fx C hb prog w sc n md fl) (hm : b ∉ md) (hh : Has ⟨l, B, own⟩ a (.list xs))
    (h : ∀ d, Fsh md ⟨l, B, own⟩ d → Q (.ref d) ⟨l, B, (d, .list xs.reverse) :: own⟩) : CallV C (.type "list") [.ref b] ⟨l, B, (b, .raw (revObj a ((xs.length : Int) - 1))) :: own⟩ Q := fun vs hvs s H => by
  obtain ⟨v, rfl, hv⟩ := hvs.one
  obtain rfl : v = .ref b := hv
  have hrev : s.heap.get? b = some (revObj a ((xs.length : Int) - 1)) := H.own (b, _) (.head _)
  have hh' : Has ⟨l, B, (b, .raw (revObj a ((xs.length : Int) - 1))) :: own⟩ a (.list xs) := hh.imp (fun h => .tail _ h) id
  obtain ⟨vs, nn, hob, hr, hlim⟩ := H.has hh'
  have hsz : vs.size = xs.length := by have := hr.length; simp at this; exact this.symm
  have hab : a ≠ b := fun e => by subst e; rw [hob] at hrev; have := congrArg (Option.map (·.cls)) hrev; simp [revObj] at this
  refine lri_call (l := a) (items := vs) F.ok.handled ⟨_, hrev, rfl, by rw [hsz]; rfl⟩ ⟨_, hob, rfl, nn, rfl⟩ hab (by rw [hsz]; exact Nat.le_trans hlim lim_le) fun h' tk acc c' hk hD hacc => ?_
  have hlt : b < s.heap.objs.size := Heap.lt_size hrev
  have H0 : Holds C ⟨l, B, own⟩ { s with heap := h', toks := tk } := H.lose F.ok (by rw [F.emod]; exact hm) hk rfl rfl
  have H1 : Holds C ⟨l, B, own⟩ s := H.drop (Sub0.rfl' _) H.B0 (List.sublist_cons_self ..)
  have hf := H1.fshAt F.ok (Nat.le_refl s.heap.objs.size)
  refine ⟨.ref _, ⟨l, B, (s.heap.objs.size, .list xs.reverse) :: own⟩, rfl, ?_, h _ (F.emod ▸ hf)⟩
  refine H0.addO (fresh_facts H1) ⟨acc, c', hD, vsR_of _ _ (by rw [Array.length_toList, hacc.1, List.length_reverse, hsz]) fun i v hv => ?_, by simpa using hlim⟩
  have hi := (List.getElem?_eq_some_iff.mp hv).1
  rw [Array.length_toList, hacc.1] at hi
  have hx := hacc.2 i v (by rw [← Array.getElem?_toList]; exact hv)
  have hi' : i < xs.length := by omega
  replace hx : vs[vs.size - 1 - i]? = some v := hx
  rw [← Array.getElem?_toList] at hx
  have hlen := hr.length
  refine ⟨xs.reverse[i]'(by simpa using hi'), by simp [hi'], ?_⟩
  obtain ⟨u, hu, hur⟩ := hr.get (i := vs.size - 1 - i) (m := xs[xs.length - 1 - i]'(by omega)) (by rw [hsz]; exact List.getElem?_eq_getElem (by omega))
  rw [hx] at hu
  cases hu
  rw [List.getElem_reverse]
  exact hur
end
end
section
set_option autoImplicit false
set_option linter.unusedVariables false
set_option linter.unusedSimpArgs false
open PySem
section
/-- a walk of so many steps -/
inductive Wk (E : Int → Int → Prop) (ok : Int → Prop) (st : Prop) (s : Int) : Nat → Int → Prop
  | zero : st → Wk E ok st s 0 s
  | succ {k : Nat} {a b : Int} : Wk E ok st s k a → E a b → ok b → Wk E ok st s (k + 1) b
variable {E : Int → Int → Prop} {ok : Int → Prop} {st : Prop} {s : Int} {n : Nat}
theorem Wk.hst {k : Nat} {x : Int} (h : Wk E ok st s k x) : st := by
  induction h with
  | zero h => exact h
  | succ _ _ _ ih => exact ih
/-! breadth first: node, node before, level -/
abbrev BL := List (Int × Option Int × Nat)
structure BInv (E : Int → Int → Prop) (ok : Int → Prop) (s : Int) (n : Nat) (L : BL) (pr : Nat) (rest : List (Option Int)) : Prop where
  hd : L[0]? = some (s, none, 1)
  nd : (L.map (·.1)).Nodup
  rng : ∀ x : Int, x ∈ L.map (·.1) → 0 ≤ x ∧ x < n
  par : ∀ (j : Nat) (x p : Int) (l : Nat), L[j]? = some (x, some p, l) → ∃ (i : Nat) (q : Option Int) (l' : Nat), i < j ∧ i < pr ∧ L[i]? = some (p, q, l') ∧ l = l' + 1 ∧ E p x ∧ ok x
  root : ∀ (j : Nat) (x : Int) (l : Nat), L[j]? = some (x, none, l) → j = 0
  mono : ∀ (i j : Nat) (t u : Int × Option Int × Nat), i ≤ j → L[i]? = some t → L[j]? = some u → t.2.2 ≤ u.2.2
  top : ∀ (i j : Nat) (t u : Int × Option Int × Nat), i + 1 = pr → L[i]? = some t → L[j]? = some u → u.2.2 ≤ t.2.2 + 1
  fst : pr = 0 → L.length = 1
  ple : pr ≤ L.length
  clo : ∀ (i : Nat) (t : Int × Option Int × Nat), i < pr → L[i]? = some t → ∀ b, E t.1 b → ok b → (∃ (j : Nat) (u : Int × Option Int × Nat), L[j]? = some u ∧ u.1 = b ∧ u.2.2 ≤ t.2.2 + 1) ∨ (i + 1 = pr ∧ some b ∈ rest)
variable {L : BL} {pr : Nat} {rest : List (Option Int)}
theorem BInv.init (h0 : 0 ≤ s) (h1 : s < n) : BInv E ok s n [(s, none, 1)] 0 [] where
  hd := rfl
  nd := by simp
  rng := fun x hx => by simp at hx; subst hx; exact ⟨h0, h1⟩
  par := fun j x p l h => by
    cases j with
    | zero => simp at h
    | succ j => simp at h
  root := fun j x l h => by
    cases j with
    | zero => rfl
    | succ j => simp at h
  mono := fun i j t u hij hi hj => by
    have := (List.getElem?_eq_some_iff.mp hi).1
    have := (List.getElem?_eq_some_iff.mp hj).1
    simp at *
    obtain rfl : i = 0 := by omega
    obtain rfl : j = 0 := by omega
    rw [hi] at hj; cases hj; exact Nat.le_refl _
  top := fun i j t u h => absurd h (Nat.succ_ne_zero _)
  fst := fun _ => rfl
  ple := by simp
  clo := fun i t h => absurd h (Nat.not_lt_zero _)
theorem BInv.enter {c : Int} {q : Option Int} {l : Nat} {succ : List (Option Int)} (D : BInv E ok s n L pr []) (hc : L[pr]? = some (c, q, l)) (hs : ∀ b, E c b → some b ∈ succ) : BInv E ok s n L (pr + 1) succ where
  hd := D.hd
  nd := D.nd
  rng := D.rng
  par := fun j x p l h => let ⟨i, q, l', h1, h2, h3⟩ := D.par j x p l h; ⟨i, q, l', h1, Nat.lt_succ_of_lt h2, h3⟩
  root := D.root
  mono := D.mono
  top := fun i j t u hi ht hu => by
    obtain rfl : i = pr := Nat.succ.inj hi
    rw [hc] at ht; cases ht
    cases i with
    | zero =>
      have := D.fst rfl
      have hj := (List.getElem?_eq_some_iff.mp hu).1
      obtain rfl : j = 0 := by omega
      rw [hc] at hu; cases hu; exact Nat.le_succ _
    | succ i =>
      have hi' : i < L.length := Nat.lt_of_succ_lt (List.getElem?_eq_some_iff.mp hc).1
      have e := List.getElem?_eq_getElem hi'
      have h1 := D.top i j _ u rfl e hu
      have h2 := D.mono i (i + 1) _ _ (Nat.le_succ i) e hc
      dsimp only at h2 ⊢
      exact Nat.le_trans h1 (Nat.succ_le_succ h2)
  fst := fun h => absurd h (Nat.succ_ne_zero _)
  ple := (List.getElem?_eq_some_iff.mp hc).1
  clo := fun i t hi ht b e o => by
    by_cases hp : i < pr
    · rcases D.clo i t hp ht b e o with h | ⟨_, h⟩
      · exact .inl h
      · simp at h
    · obtain rfl : i = pr := Nat.le_antisymm (Nat.le_of_lt_succ hi) (Nat.not_lt.mp hp)
      rw [hc] at ht; cases ht
      exact .inr ⟨rfl, hs b e⟩
theorem BInv.skip {o : Option Int} (D : BInv E ok s n L (pr + 1) (o :: rest)) {c : Int} {q : Option Int} {l : Nat} (hc : L[pr]? = some (c, q, l)) (h : ∀ b, o = some b → ok b → b ∈ L.map (·.1)) : BInv E ok s n L (pr + 1) rest where
  hd := D.hd
  nd := D.nd
  rng := D.rng
  par := D.par
  root := D.root
  mono := D.mono
  top := D.top
  fst := D.fst
  ple := D.ple
  clo := fun i t hi ht b e o' => by
    rcases D.clo i t hi ht b e o' with h' | ⟨h', h''⟩
    · exact .inl h'
    · rcases List.mem_cons.mp h'' with h3 | h3
      · left
        obtain ⟨u, hu, e1⟩ := List.mem_map.mp (h b h3.symm o')
        obtain ⟨j, hj⟩ := List.mem_iff_getElem?.mp hu
        exact ⟨j, u, hj, e1, D.top i j t u h' ht hj⟩
      · exact .inr ⟨h', h3⟩
theorem BInv.add {b c : Int} {q : Option Int} {l : Nat} (D : BInv E ok s n L (pr + 1) (some b :: rest)) (hc : L[pr]? = some (c, q, l)) (he : E c b) (ho : ok b) (hb : b ∉ L.map (·.1)) (h0 : 0 ≤ b) (h1 : b < n) : BInv E ok s n (L ++ [(b, some c, l + 1)]) (pr + 1) rest := by
  have old : ∀ {i : Nat} {t : Int × Option Int × Nat}, L[i]? = some t → (L ++ [(b, some c, l + 1)])[i]? = some t := fun {i t} h => by
    rw [List.getElem?_append_left (List.getElem?_eq_some_iff.mp h).1]; exact h
  have new : ∀ {i : Nat} {t : Int × Option Int × Nat}, (L ++ [(b, some c, l + 1)])[i]? = some t → L[i]? = some t ∨ (i = L.length ∧ t = (b, some c, l + 1)) := fun {i t} h => by
    by_cases hi : i < L.length
    · rw [List.getElem?_append_left hi] at h; exact .inl h
    · rw [List.getElem?_append_right (Nat.not_lt.mp hi)] at h
      have e : i - L.length = 0 := by
        have := (List.getElem?_eq_some_iff.mp h).1
        simp at this; omega
      rw [e] at h; simp at h
      exact .inr ⟨by omega, h.symm⟩
  have hpl : pr < L.length := (List.getElem?_eq_some_iff.mp hc).1
  exact {
    hd := old D.hd
    nd := by
      rw [List.map_append]
      exact List.nodup_append.mpr ⟨D.nd, by simp, fun x hx y hy e => by simp at hy; subst hy; subst e; exact hb hx⟩
    rng := fun x hx => by
      rw [List.map_append] at hx
      rcases List.mem_append.mp hx with h | h
      · exact D.rng x h
      · simp at h; subst h; exact ⟨h0, h1⟩
    par := fun j x p l' h => by
      rcases new h with h' | ⟨rfl, h'⟩
      · obtain ⟨i, q, l'', a1, a2, a3, a4⟩ := D.par j x p l' h'
        exact ⟨i, q, l'', a1, a2, old a3, a4⟩
      · cases h'
        exact ⟨pr, q, l, hpl, Nat.lt_succ_self _, old hc, rfl, he, ho⟩
    root := fun j x l' h => by
      rcases new h with h' | ⟨rfl, h'⟩
      · exact D.root j x l' h'
      · cases h'
    mono := fun i j t u hij hi hj => by
      rcases new hi with hi | ⟨rfl, rfl⟩
      · rcases new hj with hj | ⟨rfl, rfl⟩
        · exact D.mono i j t u hij hi hj
        · exact D.top pr i _ t rfl hc hi
      · rcases new hj with hj | ⟨rfl, rfl⟩
        · have := (List.getElem?_eq_some_iff.mp hj).1; exact absurd hij (Nat.not_le.mpr this)
        · exact Nat.le_refl _
    top := fun i j t u hi ht hu => by
      obtain rfl : i = pr := Nat.succ.inj hi
      rw [old hc] at ht; cases ht
      rcases new hu with hu | ⟨rfl, rfl⟩
      · exact D.top i j _ u rfl hc hu
      · exact Nat.le_refl _
    fst := fun h => absurd h (Nat.succ_ne_zero _)
    ple := by rw [List.length_append]; exact Nat.le_trans D.ple (Nat.le_add_right ..)
    clo := fun i t hi ht b' e o' => by
      rcases new ht with ht | ⟨rfl, _⟩
      · rcases D.clo i t hi ht b' e o' with ⟨j, u, hj, hu⟩ | ⟨h', h''⟩
        · exact .inl ⟨j, u, old hj, hu⟩
        · rcases List.mem_cons.mp h'' with h3 | h3
          · cases h3
            obtain rfl : i = pr := Nat.succ.inj h'
            rw [hc] at ht; cases ht
            exact .inl ⟨L.length, (b, some c, l + 1), by simp, rfl, Nat.le_refl _⟩
          · exact .inr ⟨h', h3⟩
      · exact absurd hi (Nat.not_lt.mpr hpl) }
theorem BInv.len (D : BInv E ok s n L pr rest) : L.length ≤ n := by
  have := length_le_of_nodup n (L.map (·.1)) D.nd D.rng
  simpa using this
theorem BInv.lvl (D : BInv E ok s n L pr rest) : ∀ (j : Nat) (x : Int) (p : Option Int) (l : Nat), L[j]? = some (x, p, l) → l ≤ j + 1 := by
  intro j
  induction j using Nat.strongRecOn with
  | _ j ih =>
    intro x p l h
    cases p with
    | none =>
      obtain rfl := D.root j x l h
      rw [D.hd] at h; cases h; exact Nat.le_refl _
    | some p =>
      obtain ⟨i, q, l', h1, h2, h3, h4, h5, h6⟩ := D.par j x p l h
      have := ih i h1 p q l' h3
      rw [h4]; exact Nat.succ_le_succ (Nat.le_trans this h1)
theorem BInv.oks (D : BInv E ok s n L pr rest) (h0 : ok s) {x : Int} (hx : x ∈ L.map (·.1)) : ok x := by
  obtain ⟨⟨y, p, l⟩, hm, rfl⟩ := List.mem_map.mp hx
  obtain ⟨j, hj⟩ := List.mem_iff_getElem?.mp hm
  cases p with
  | none =>
    obtain rfl := D.root j y l hj
    rw [D.hd] at hj; cases hj; exact h0
  | some p => obtain ⟨i, q, l', h1, h2, h3, h4, h5, h6⟩ := D.par j y p l hj; exact h6
theorem BInv.sound (D : BInv E ok s n L pr rest) (hst : st) : ∀ (j : Nat) (x : Int) (p : Option Int) (l : Nat), L[j]? = some (x, p, l) → ∃ k, l = k + 1 ∧ Wk E ok st s k x := by
  intro j
  induction j using Nat.strongRecOn with
  | _ j ih =>
    intro x p l h
    cases p with
    | none =>
      obtain rfl := D.root j x l h
      rw [D.hd] at h; cases h
      exact ⟨0, rfl, .zero hst⟩
    | some p =>
      obtain ⟨i, q, l', h1, h2, h3, h4, h5, h6⟩ := D.par j x p l h
      obtain ⟨k, hk, hw⟩ := ih i h1 p q l' h3
      exact ⟨k + 1, by rw [h4, hk], .succ hw h5 h6⟩
theorem BInv.near (D : BInv E ok s n L pr []) : ∀ (k : Nat) (x : Int), Wk E ok st s k x → (∃ (j : Nat) (t : Int × Option Int × Nat), L[j]? = some t ∧ t.1 = x ∧ t.2.2 ≤ k + 1) ∨ ∀ (i : Nat) (t : Int × Option Int × Nat), i < pr → L[i]? = some t → t.2.2 < k + 1 := by
  intro k x h
  induction h with
  | zero _ => exact .inl ⟨0, _, D.hd, rfl, Nat.le_refl _⟩
  | @succ k a b _ e o ih =>
    rcases ih with ⟨j, t, hj, rfl, hl⟩ | h
    · by_cases hp : j < pr
      · rcases D.clo j t hp hj b e o with ⟨i, u, hi, hu, hlu⟩ | ⟨_, h⟩
        · exact .inl ⟨i, u, hi, hu, Nat.le_trans hlu (Nat.succ_le_succ hl)⟩
        · simp at h
      · right
        intro i u hi hu
        have := D.mono i j u t (Nat.le_trans (Nat.le_of_lt hi) (Nat.not_lt.mp hp)) hu hj
        exact Nat.lt_succ_of_le (Nat.le_trans this hl)
    · right
      intro i t hi ht
      have := h i t hi ht
      exact Nat.lt_succ_of_lt this
theorem nodup_get {L : BL} (hn : (L.map (·.1)).Nodup) {i j : Nat} {t u : Int × Option Int × Nat} (hi : L[i]? = some t) (hj : L[j]? = some u) (e : t.1 = u.1) : t = u := by
  have h1 : (L.map (·.1))[i]? = some t.1 := by rw [List.getElem?_map, hi]; rfl
  have h2 : (L.map (·.1))[j]? = some t.1 := by rw [List.getElem?_map, hj, e]; rfl
  have hl1 := (List.getElem?_eq_some_iff.mp h1).1
  have : i = j := (List.getElem?_inj hl1 hn).mp (h1.trans h2.symm)
  subst this
  rw [hi] at hj; exact Option.some.inj hj
theorem BInv.least (D : BInv E ok s n L pr []) {g : Nat} {x : Int} {p : Option Int} {l k : Nat} (hg : L[g]? = some (x, p, l)) (hw : Wk E ok st s k x) : l ≤ k + 1 := by
  cases p with
  | none =>
    obtain rfl := D.root g x l hg
    rw [D.hd] at hg; cases hg; exact Nat.succ_le_succ (Nat.zero_le k)
  | some p =>
    obtain ⟨i, q, l', h1, h2, h3, h4, h5, h6⟩ := D.par g x p l hg
    rcases D.near k x hw with ⟨j, t, hj, hx, hl⟩ | h
    · have := nodup_get D.nd hj hg hx
      subst this; exact hl
    · have := h i _ h2 h3
      dsimp only at this
      rw [h4]; exact this
theorem BInv.all (D : BInv E ok s n L L.length []) {k : Nat} {x : Int} (hw : Wk E ok st s k x) : x ∈ L.map (·.1) := by
  induction hw with
  | zero _ => exact List.mem_map.mpr ⟨_, List.mem_of_getElem? D.hd, rfl⟩
  | @succ k a b _ e o ih =>
    obtain ⟨t, ht, rfl⟩ := List.mem_map.mp ih
    obtain ⟨i, hi⟩ := List.mem_iff_getElem?.mp ht
    rcases D.clo i t (List.getElem?_eq_some_iff.mp hi).1 hi b e o with ⟨j, u, hj, rfl, _⟩ | ⟨_, h⟩
    · exact List.mem_map.mpr ⟨u, List.mem_of_getElem? hj, rfl⟩
    · simp at h

/-! the way back -/
structure Back (E : Int → Int → Prop) (ok : Int → Prop) (g : Int) (found : List Int) : Prop where
  hd : ∀ x, found[0]? = some x → x = g
  lk : ∀ (i : Nat) (a b : Int), found[i]? = some a → found[i + 1]? = some b → E b a ∧ ok a
theorem Back.snoc {g c : Int} {found : List Int} (h : Back E ok g found) (h0 : found = [] → c = g) (hl : ∀ a, found.getLast? = some a → E c a ∧ ok a) : Back E ok g (found ++ [c]) where
  hd := fun x hx => by
    cases found with
    | nil => simp at hx; subst hx; exact h0 rfl
    | cons a found => exact h.hd x (by simpa using hx)
  lk := fun i a b ha hb => by
    by_cases hi : i + 1 < found.length
    · rw [List.getElem?_append_left (by omega)] at ha
      rw [List.getElem?_append_left hi] at hb
      exact h.lk i a b ha hb
    · have hb' := (List.getElem?_eq_some_iff.mp hb).1
      simp at hb'
      have e : i + 1 = found.length := by omega
      rw [List.getElem?_append_left (by omega)] at ha
      rw [e] at hb; simp at hb; subst hb
      refine hl a ?_
      rw [List.getLast?_eq_getElem?, ← ha]; congr 1; omega

/-! rounds -/
structure RInv (E : Int → Int → Prop) (ok : Int → Prop) (st : Prop) (s : Int) (n t : Nat) (K : List (Int × Nat)) : Prop where
  nd : (K.map (·.1)).Nodup
  rng : ∀ x : Int, x ∈ K.map (·.1) → 0 ≤ x ∧ x < n
  sound : ∀ x v, (x, v) ∈ K → ∃ k, v = k + 1 ∧ k ≤ t ∧ Wk E ok st s k x ∧ ∀ j, Wk E ok st s j x → k ≤ j
  full : ∀ k x, Wk E ok st s k x → k ≤ t → x ∈ K.map (·.1)
  size : (∀ a ∈ K.map (·.1), ∀ b, E a b → ok b → b ∈ K.map (·.1)) ∨ t + 1 ≤ K.length
/-- one turn: fresh ones -/
structure FInv (E : Int → Int → Prop) (ok : Int → Prop) (st : Prop) (s : Int) (n t : Nat) (K : List (Int × Nat)) (fr : List Int) (pr : Nat) (rest : List Int) : Prop where
  nd : fr.Nodup
  new : ∀ x ∈ fr, x ∉ K.map (·.1) ∧ 0 ≤ x ∧ x < n ∧ Wk E ok st s (t + 1) x ∧ ∃ a ∈ K.map (·.1), E a x ∧ ok x
  clo : ∀ (i : Nat) (a : Int × Nat), i < pr → K[i]? = some a → ∀ b, E a.1 b → ok b → b ∈ K.map (·.1) ∨ b ∈ fr ∨ (i + 1 = pr ∧ b ∈ rest)
variable {t : Nat} {K : List (Int × Nat)} {fr : List Int} {rs : List Int}
end
end
section
set_option autoImplicit false
set_option linter.unusedVariables false
set_option linter.unusedSimpArgs false
open PySem
section
variable {C : Cx} {hb : Heap} {prog : Program} {w : World} {sc cs : Scope} {n : Nat} {md : List Addr} {fl : Bool} {x : Str} {σ : St}
theorem Bin_addList {a b : Addr} {xs ys : List MV} {Q : MV → St → Prop} (F : Fx C hb prog w sc n md fl) (ha : Has σ a (.list xs)) (hb' : Has σ b (.list ys)) (hl : xs.length + ys.length ≤ lim)
    (h : ∀ c, Fsh md σ c → Q (.ref c) { σ with own := (c, .list (xs ++ ys)) :: σ.own }) : Bin C .Add (.ref a) (.ref b) σ Q := fun va vb hva hvb s H => by
  obtain rfl : va = _ := hva
  obtain rfl : vb = _ := hvb
  obtain ⟨vs, nn, hob, hr, hlim⟩ := H.has ha
  obtain ⟨us, nn', hob', hr', hlim'⟩ := H.has hb'
  have hsz : vs.size = xs.length := by have := hr.length; simp at this; exact this.symm
  have hsz' : us.size = ys.length := by have := hr'.length; simp at this; exact this.symm
  refine PySem.P.add_list (items := vs) (items2 := us) hob hob' ⟨.ref _, _, rfl, H.new (mo := .list (xs ++ ys)) ⟨_, _, Heap.get?_push_size _ rfl, ?_, by simpa using hl⟩, h _ (F.emod ▸ H.fsh F.ok)⟩ (by have := lim_le; omega)
  rw [Array.toList_append]; exact hr.append hr'
theorem Cmp_eqDict0 {a b : Addr} {Q : MV → St → Prop} (F : Fx C hb prog w sc n md fl) (ha : Has σ a (.dict [])) (hb' : Has σ b (.dict [])) (h : Q (.bool true) σ) : Cmp C .Eq (.ref a) (.ref b) σ Q := fun va vb hva hvb s H => by
  obtain rfl : va = _ := hva
  obtain rfl : vb = _ := hvb
  obtain ⟨hms, vk, ⟨p0, w0, hdo⟩, hkv, hlim⟩ := H.has ha
  obtain ⟨hms', vk', ⟨p0', w0', hdo'⟩, hkv', hlim'⟩ := H.has hb'
  have e1 : vk = [] := by have := hkv.length; cases vk with | nil => rfl | cons _ _ => simp at this
  have e2 : vk' = [] := by have := hkv'.length; cases vk' with | nil => rfl | cons _ _ => simp at this
  subst e1; subst e2
  exact PySem.W.keq_eq (knd := optKind C.prog C.w) (r := true) hms hms' (dictOf_any (p' := C.prog) (w' := C.w) hdo) (dictOf_any (p' := C.prog) (w' := C.w) hdo') (by have := F.ok.units; omega) (fun _ => .nil) ⟨.bool true, σ, rfl, H, h⟩
end
end
section
set_option autoImplicit false
set_option linter.unusedVariables false
set_option linter.unusedSimpArgs false
open PySem PySem.SeqAt
section
variable {C : Cx} {hb : Heap} {prog : Program} {w : World} {sc cs : Scope} {n : Nat} {md : List Addr} {fl : Bool} {x : Str} {σ : St}
theorem Cmp_neStr {a b : Str} {Q : MV → St → Prop} (h : Q (.bool (!decide (a = b))) σ) : Cmp C .NotEq (.str a) (.str b) σ Q := fun va vb ha hb s H => by
  obtain ⟨t, rfl⟩ := ha; obtain ⟨u, rfl⟩ := hb
  refine P.ne_str ⟨.bool (!decide (a = b)), σ, ?_, H, h⟩
  show Value.bool _ = _
  congr 1
  by_cases hab : a = b
  · subst hab; simp
  · have : a.cps.toList ≠ b.cps.toList := fun e => hab (by cases a; cases b; simp at e; simp [e])
    simp [hab, this]
end
end
section
set_option autoImplicit false
set_option linter.unusedVariables false
set_option linter.unusedSimpArgs false
open PySem
/-! many objects frozen at once -/
def setBs (B : MH) : Own → MH
  | [] => B
  | (a, o) :: r => setBs (setB B a o) r
theorem Cv.frzs {md : List Addr} {l : Loc} : ∀ {new rest : Own} {B : MH}, (∀ p ∈ new, p.1 ∉ md) → Cv md ⟨l, B, new ++ rest⟩ ⟨l, setBs B new, rest⟩
  | [], rest, B, _ => .refl _
  | (a, o) :: r, rest, B, h => .trans (.frz (h (a, o) List.mem_cons_self)) (Cv.frzs fun p hp => h p (List.mem_cons_of_mem _ hp))
theorem setBs_ok : ∀ {new : Own} {B : MH}, (∀ a ∈ new.map (·.1), B a = none) → (new.map (·.1)).Nodup → Sub0 B (setBs B new) ∧ ∀ p ∈ new, setBs B new p.1 = some p.2
  | [], B, _, _ => ⟨Sub0.rfl' _, fun p hp => nomatch hp⟩
  | (a, o) :: r, B, h, hn => by
    have hn' := List.nodup_cons.mp hn
    have s1 : Sub0 B (setB B a o) := Sub0s (h a List.mem_cons_self)
    obtain ⟨s2, g⟩ := setBs_ok (new := r) (B := setB B a o) (fun b hb' => (setB_ne fun e => by subst e; exact hn'.1 hb').trans (h b (List.mem_cons_of_mem _ hb'))) hn'.2
    refine ⟨Sub0t s1 s2, fun p hp => ?_⟩
    rcases List.mem_cons.mp hp with rfl | hp
    · exact s2 _ _ setB_self
    · exact g p hp
section
variable {C : Cx} {hb : Heap} {prog : Program} {w : World} {sc cs : Scope} {n : Nat} {md : List Addr} {fl : Bool} {x : Str} {σ : St} {l : Loc} {B : MH}
/-- new objects frozen, in one step -/
theorem Tr.frzs {α β : Type} {t : Sem α} {R : β → α → Prop} {Q : β → St → Prop} (F : Fx C hb prog w sc n md fl) (new rest : Own) (hm : ∀ p ∈ new, p.1 ∉ md)
    (h : ∀ B', Sub0 B B' → (∀ p ∈ new, B' p.1 = some p.2) → Tr C t R ⟨l, B', rest⟩ Q) : Tr C t R ⟨l, B, new ++ rest⟩ Q :=
  Tr.facts fun h1 h2 => by
    rw [List.map_append] at h1 h2
    obtain ⟨s, g⟩ := setBs_ok (fun a ha => h1 a (List.mem_append_left _ ha)) (List.nodup_append.mp h2).1
    exact Tr.cv F (.frzs hm) (h _ s g)
/-- new objects frozen behind an expression -/
theorem Tr.postN {α β : Type} {t : Sem α} {R : β → α → Prop} {Q : β → St → Prop} (F : Fx C hb prog w sc n md fl)
    (h : Tr C t R σ (fun b σ' => ∃ new rest : Own, σ'.own = new ++ rest ∧ (∀ p ∈ new, p.1 ∉ md) ∧ ∀ B', Sub0 σ'.B B' → (∀ p ∈ new, B' p.1 = some p.2) → Q b ⟨σ'.loc, B', rest⟩)) : Tr C t R σ Q := fun s H =>
  wpAny_mono (h s H) (fun a s' hp => by
    obtain ⟨b, ⟨l', B', own'⟩, hr, H', new, rest, e, hm, hq⟩ := hp
    dsimp only at e hq
    subst e
    have h1 := H'.apartB
    have h2 := (List.nodup_append.mp H'.nodup).1
    dsimp only at h1 h2
    rw [List.map_append] at h1 h2
    obtain ⟨s1, g⟩ := setBs_ok (fun a ha => h1 a (List.mem_append_left _ (List.mem_append_left _ ha))) (List.nodup_append.mp h2).1
    exact ⟨b, _, hr, (Cv.frzs hm).holds F.ok F.emod H', hq _ s1 g⟩) fun _ _ x => x
theorem Ex_postN {e : Expr} {Q : MV → St → Prop} (F : Fx C hb prog w sc n md fl)
    (h : Ex C e σ (fun b σ' => ∃ new rest : Own, σ'.own = new ++ rest ∧ (∀ p ∈ new, p.1 ∉ md) ∧ ∀ B', Sub0 σ'.B B' → (∀ p ∈ new, B' p.1 = some p.2) → Q b ⟨σ'.loc, B', rest⟩)) : Ex C e σ Q := Tr.postN F h
theorem Store_frzs {y : Str} {m : MV} {Q : St → Prop} (F : Fx C hb prog w sc n md fl) (new rest : Own) (hm : ∀ p ∈ new, p.1 ∉ md) (h : ∀ B', Sub0 B B' → (∀ p ∈ new, B' p.1 = some p.2) → Store C y m ⟨l, B', rest⟩ Q) : Store C y m ⟨l, B, new ++ rest⟩ Q := fun v hv => Tr.frzs F new rest hm fun B' s g => h B' s g v hv
theorem Exs_frzs {pos : Pos} {es : List Expr} {Q : List MV → St → Prop} (F : Fx C hb prog w sc n md fl) (new rest : Own) (hm : ∀ p ∈ new, p.1 ∉ md) (h : ∀ B', Sub0 B B' → (∀ p ∈ new, B' p.1 = some p.2) → Exs C pos es ⟨l, B', rest⟩ Q) : Exs C pos es ⟨l, B, new ++ rest⟩ Q := Tr.frzs F new rest hm h
end
/-! fresh objects, all frozen at the end -/
end
section
set_option autoImplicit false
set_option linter.unusedVariables false
set_option linter.unusedSimpArgs false
section
variable {G : Int → Int → Prop}
abbrev RS (G : Int → Int → Prop) (S : List Int) (a b : Int) : Prop := Rch G (· ∈ S) a b
abbrev Live (G : Int → Int → Prop) (x : Int) : Prop := Rch G (fun _ => True) 0 x
/-- comes from the start and touches none of these -/
abbrev Rv (G : Int → Int → Prop) (S : List Int) (x : Int) : Prop := 0 ∉ S ∧ Rch G (· ∉ S) 0 x
def mutS (G : Int → Int → Prop) (S : List Int) (a b : Int) : Prop := RS G S a b ∧ RS G S b a
theorem Rch.front {E : Int → Int → Prop} {ok : Int → Prop} {a b c : Int} (e : E a b) (o : ok b) (h : Rch E ok b c) : Rch E ok a c := (Rch.step .refl e o).trans h
theorem Rch.weak {E : Int → Int → Prop} {ok ok' : Int → Prop} (h : ∀ b, ok b → ok' b) {a b : Int} (r : Rch E ok a b) : Rch E ok' a b := r.mono fun _ b e o => ⟨e, h b o⟩
theorem Live.step {x y : Int} (h : Live G x) (e : G x y) : Live G y := Rch.step h e trivial
/-- a ring of a region -/
structure IsRing (G : Int → Int → Prop) (S R : List Int) : Prop where
  one : ∃ a ∈ S, ∀ x, x ∈ R ↔ x ∈ S ∧ mutS G S a x
theorem IsRing.sub {S R : List Int} (h : IsRing G S R) {x : Int} (hx : x ∈ R) : x ∈ S := let ⟨a, _, h'⟩ := h.one; ((h' x).mp hx).1
theorem IsRing.mut {S R : List Int} (h : IsRing G S R) {x y : Int} (hx : x ∈ R) (hy : y ∈ R) : RS G S x y := let ⟨a, _, h'⟩ := h.one; (((h' x).mp hx).2.2).trans ((h' y).mp hy).2.1
theorem IsRing.mem {S R : List Int} (h : IsRing G S R) {x y : Int} (hx : x ∈ R) (hy : y ∈ S) (h1 : RS G S x y) (h2 : RS G S y x) : y ∈ R := by
  obtain ⟨a, _, h'⟩ := h.one
  have := (h' x).mp hx
  exact (h' y).mpr ⟨hy, this.2.1.trans h1, h2.trans this.2.2⟩
/-- within the ring -/
theorem IsRing.inside {S R : List Int} (h : IsRing G S R) {x y : Int} (hx : x ∈ R) (hy : y ∈ R) : Rch G (· ∈ R) x y := by
  have : ∀ z, RS G S x z → RS G S z y → z ∈ S → Rch G (· ∈ R) x z := by
    intro z hz
    induction hz with
    | refl => intro _ _; exact .refl
    | @step a b hxa e o ih =>
      intro hby hbS
      have hb : b ∈ R := h.mem hx hbS (.step hxa e o) (hby.trans (h.mut hy hx))
      by_cases ha : a ∈ S
      · exact .step (ih (hby.front e o) ha) e hb
      · cases hxa with
        | refl => exact absurd (h.sub hx) ha
        | step _ _ o' => exact absurd o' ha
  exact this y (h.mut hx hy) .refl (h.sub hy)

/-- where a ring is entered -/
structure IsIns (G : Int → Int → Prop) (R ins : List Int) : Prop where
  mem : ∀ x, x ∈ ins ↔ x ∈ R ∧ ((∃ y, Live G y ∧ y ∉ R ∧ G y x) ∨ x = 0)
/-- the first of a ring that is come to -/
theorem first_in {R ins : List Int} (I : IsIns G R ins) {ok : Int → Prop} {y : Int} (h : Rch G ok 0 y) : (0 ∉ R ∧ Rch G (fun b => ok b ∧ b ∉ R) 0 y) ∨ ∃ z ∈ ins, (0 ∈ R → 0 = z) ∧ Rch G (fun b => ok b ∧ (b ∈ R → b = z)) 0 z := by
  induction h with
  | refl =>
    by_cases h0 : (0 : Int) ∈ R
    · exact .inr ⟨0, (I.mem 0).mpr ⟨h0, .inr rfl⟩, fun _ => rfl, .refl⟩
    · exact .inl ⟨h0, .refl⟩
  | @step a b _ e o ih =>
    rcases ih with ⟨h0, hr⟩ | h
    · by_cases hb : b ∈ R
      · right
        have ha : a ∉ R := by
          cases hr with
          | refl => exact h0
          | step _ _ o' => exact o'.2
        refine ⟨b, (I.mem b).mpr ⟨hb, .inl ⟨a, (hr.weak fun _ _ => trivial), ha, e⟩⟩, fun h => absurd h h0, .step (hr.weak fun c hc => ⟨hc.1, fun h => absurd h hc.2⟩) e ⟨o, fun _ => rfl⟩⟩
      · exact .inl ⟨h0, .step hr e ⟨o, hb⟩⟩
    · exact .inr h
theorem IsIns.some {R ins : List Int} (I : IsIns G R ins) {x : Int} (hx : x ∈ R) (hl : Live G x) : ∃ z ∈ ins, (0 ∈ R → 0 = z) ∧ Rch G (fun b => b ∈ R → b = z) 0 z := by
  rcases first_in I hl with ⟨h0, hr⟩ | ⟨z, h1, h2, h3⟩
  · cases hr with
    | refl => exact absurd hx h0
    | step _ _ o => exact absurd hx o.2
  · exact ⟨z, h1, h2, h3.weak fun _ h => h.2⟩
theorem IsIns.one {R ins : List Int} (I : IsIns G R ins) (hl1 : ins.length ≤ 1) {x : Int} (hx : x ∈ R) (hl : Live G x) : ∃ e, ins = [e] := by
  obtain ⟨z, hz, _⟩ := I.some hx hl
  match ins, hl1, hz with
  | [e], _, _ => exact ⟨e, rfl⟩
  | [], _, hz => simp at hz

/-- regions from which the way goes on -/
def Phi (G : Int → Int → Prop) (S : List Int) : Prop := ∀ x s, Live G x → x ∉ S → s ∈ S → G x s → Rv G S x
theorem Phi.live {S : List Int} (h : ∀ x, Live G x → x ∈ S) : Phi G S := fun x _ hx hn => absurd (h x hx) hn
theorem Phi.next {R ins S' : List Int} (I : IsIns G R ins) (hl1 : ins.length ≤ 1) (hl : ∀ x ∈ R, Live G x) (hS : ∀ x, x ∈ S' ↔ x ∈ R ∧ x ∉ ins) : Phi G S' := by
  intro x s hx hn hs e
  obtain ⟨hsR, hsi⟩ := (hS s).mp hs
  obtain ⟨e', rfl⟩ := I.one hl1 hsR (hl s hsR)
  have hxR : x ∈ R := by
    refine Classical.byContradiction fun h => hsi ((I.mem s).mpr ⟨hsR, .inl ⟨x, hx, h, e⟩⟩)
  have hxe : x = e' := by
    refine Classical.byContradiction fun h => hn ((hS x).mpr ⟨hxR, by simpa using h⟩)
  subst hxe
  obtain ⟨z, hz, h0, hr⟩ := I.some hxR hx
  simp at hz; subst hz
  refine ⟨fun h => ?_, hr.weak fun b hb h => ?_⟩
  · have := (hS 0).mp h
    exact this.2 (by simp [h0 this.1])
  · have := (hS b).mp h
    exact this.2 (by simp [hb this.1])
/-- the way to where a ring is entered -/
theorem way_in {S R ins : List Int} (P : Phi G S) (hS : ∀ x ∈ S, Live G x) (K : IsRing G S R) (I : IsIns G R ins) {one : Int} (h1 : one ∈ ins) : (0 ∈ R → 0 = one) ∧ Rch G (fun b => b ∈ R → b = one) 0 one := by
  obtain ⟨hoR, h⟩ := (I.mem one).mp h1
  rcases h with ⟨y, hy, hyR, e⟩ | rfl
  · have key : Rv G R y := by
      by_cases hyS : y ∈ S
      · -- the last coming into the region
        have last : ∀ z, Live G z → z ∈ S → ∃ s, s ∈ S ∧ (s = 0 ∨ ∃ u, u ∉ S ∧ Live G u ∧ G u s) ∧ RS G S s z := by
          intro z hz
          induction hz with
          | refl => intro h; exact ⟨0, h, .inl rfl, .refl⟩
          | @step a b ha e _ ih =>
            intro hb
            by_cases haS : a ∈ S
            · obtain ⟨s, hs, hs2, hs3⟩ := ih haS
              exact ⟨s, hs, hs2, .step hs3 e hb⟩
            · exact ⟨b, hb, .inr ⟨a, haS, ha, e⟩, .refl⟩
        obtain ⟨s, hs, hs2, hs3⟩ := last y hy hyS
        have out : ∀ z, z ∈ S → RS G S one z → RS G S z y → z ∉ R := by
          intro z hz h1 h2 hzR
          refine hyR (K.mem hzR hyS h2 ?_)
          exact (Rch.front e (K.sub hoR) .refl : RS G S y one).trans (K.mut hoR hzR)
        have out' : ∀ z, z ∈ S → RS G S z y → z ∉ R := fun z hz h2 hzR => out z hz (K.mut hoR hzR) h2 hzR
        have walk : ∀ z, RS G S s z → z ∈ S → RS G S z y → Rv G R z := by
          intro z hz
          induction hz with
          | refl =>
            intro _ h
            have hsR := out' s hs h
            rcases hs2 with rfl | ⟨u, hu, hul, eu⟩
            · exact ⟨hsR, .refl⟩
            · have := P u s hul hu hs eu
              exact ⟨fun h => this.1 (K.sub h), .step (this.2.weak fun b hb h => hb (K.sub h)) eu hsR⟩
          | @step a b ha e o ih =>
            intro hb h
            have haS : a ∈ S := by
              cases ha with
              | refl => exact hs
              | step _ _ o' => exact o'
            have hr := ih haS (h.front e o)
            exact ⟨hr.1, .step hr.2 e (out' b hb h)⟩
        exact walk y hs3 hyS .refl
      · have := P y one hy hyS (K.sub hoR) e
        exact ⟨fun h => this.1 (K.sub h), this.2.weak fun b hb h => hb (K.sub h)⟩
    exact ⟨fun h => absurd h key.1, .step (key.2.weak fun b hb h => absurd h hb) e fun _ => rfl⟩
  · exact ⟨fun _ => rfl, .refl⟩

/-! going on without going back -/
def fw (G : Int → Int → Prop) (u v : Int) : Prop := G u v ∧ Rv G [v] u
inductive Pl (G : Int → Int → Prop) (S : List Int) (a : Int) : Int → Prop
  | one {b : Int} : fw G a b → b ∈ S → Pl G S a b
  | step {b c : Int} : Pl G S a b → fw G b c → c ∈ S → Pl G S a c
def Cyc (G : Int → Int → Prop) (S : List Int) : Prop := ∃ x ∈ S, Pl G S x x
theorem Pl.rs {S : List Int} {a b : Int} (h : Pl G S a b) : RS G S a b := by
  induction h with
  | one e o => exact .step .refl e.1 o
  | step _ e o ih => exact .step ih e.1 o
theorem fw_ne {u v : Int} (h : fw G u v) : u ≠ v := fun e => by
  subst e
  have := h.2
  cases this.2 with
  | refl => exact this.1 (by simp)
  | step _ _ o => exact o (by simp)
theorem Cyc.ring {S : List Int} {rings : List (List Int)} (h : Cyc G S) (hr : ∀ a ∈ S, ∀ b ∈ S, a ≠ b → mutS G S a b → ∃ R ∈ rings, IsRing G S R ∧ a ∈ R) : ∃ R ∈ rings, Cyc G R := by
  obtain ⟨x, hx, hp⟩ := h
  have hnx : ∃ y, y ∈ S ∧ x ≠ y ∧ mutS G S x y := by
    have : ∀ z, Pl G S x z → RS G S z x → ∃ y, y ∈ S ∧ x ≠ y ∧ mutS G S x y := by
      intro z hz
      induction hz with
      | one e o => intro h; exact ⟨_, o, fw_ne e, .step .refl e.1 o, h⟩
      | step h e o ih => intro h'; exact ih (h'.front e.1 o)
    exact this x hp .refl
  obtain ⟨y, hy, hne, hm⟩ := hnx
  obtain ⟨R, hR, K, hxR⟩ := hr x hx y hy hne hm
  refine ⟨R, hR, x, hxR, ?_⟩
  have : ∀ z, Pl G S x z → RS G S z x → Pl G R x z := by
    intro z hz
    induction hz with
    | one e o => intro h; exact .one e (K.mem hxR o (.step .refl e.1 o) h)
    | step h e o ih => intro h'; exact .step (ih (h'.front e.1 o)) e (K.mem hxR o (.step h.rs e.1 o) h')
  exact this x hp .refl
theorem Cyc.next {R ins S' : List Int} (I : IsIns G R ins) (hl1 : ins.length ≤ 1) (hl : ∀ x ∈ R, Live G x) (hS : ∀ x, x ∈ S' ↔ x ∈ R ∧ x ∉ ins) (h : Cyc G R) : Cyc G S' := by
  obtain ⟨x, hx, hp⟩ := h
  obtain ⟨e, rfl⟩ := I.one hl1 hx (hl x hx)
  have no : ∀ u, u ∈ R → ¬ fw G u e := by
    intro u hu hf
    rcases first_in I hf.2.2 with ⟨h0, hr⟩ | ⟨z, hz, h0, hr⟩
    · cases hr with
      | refl => exact h0 hu
      | step _ _ o => exact o.2 hu
    · simp at hz; subst hz
      cases hr with
      | refl => exact hf.2.1 (by simp)
      | step _ _ o => exact o.1 (by simp)
  have : ∀ z, Pl G R x z → Pl G S' x z := by
    intro z hz
    induction hz with
    | one f o => exact .one f ((hS _).mpr ⟨o, by simp; rintro rfl; exact no x hx f⟩)
    | @step b c h f o ih =>
      have hb : b ∈ R := by cases h with | one _ o => exact o | step _ _ o => exact o
      exact .step ih f ((hS _).mpr ⟨o, by simp; rintro rfl; exact no b hb f⟩)
  have hp' := this x hp
  have hx' : x ∈ S' := by cases hp' with | one _ o => exact o | step _ _ o => exact o
  exact ⟨x, hx', hp'⟩
end
theorem len_sub : ∀ (l S : List Int), l.Nodup → (∀ x ∈ l, x ∈ S) → l.length ≤ S.length
  | [], _, _, _ => by simp
  | a :: l, S, hn, h => by
    have ha := h a List.mem_cons_self
    have hn' := List.nodup_cons.mp hn
    have := len_sub l (S.erase a) hn'.2 fun x hx => by
      refine (List.mem_erase_of_ne ?_).mpr (h x (List.mem_cons_of_mem _ hx))
      rintro rfl; exact hn'.1 hx
    have h2 := List.length_erase_of_mem ha
    have h3 : 0 < S.length := List.length_pos_of_mem ha
    simp; omega
end
section
set_option autoImplicit false
set_option linter.unusedVariables false
set_option linter.unusedSimpArgs false
theorem two_mem {l : List Int} {a b : Int} (ha : a ∈ l) (hb : b ∈ l) (h : a ≠ b) : 2 ≤ l.length := by
  match l, ha, hb with
  | [], ha, _ => simp at ha
  | [c], ha, hb => simp at ha hb; exact absurd (ha.trans hb.symm) h
  | _ :: _ :: _, _, _ => simp
section
variable {G : Int → Int → Prop}
structure Rings (G : Int → Int → Prop) (S : List Int) (RL : List (List Int)) : Prop where
  ring : ∀ R ∈ RL, IsRing G S R ∧ 2 ≤ R.length ∧ R.Nodup
  nd : RL.flatten.Nodup
  all : ∀ a ∈ S, ∀ b ∈ S, a ≠ b → mutS G S a b → ∃ R ∈ RL, IsRing G S R ∧ a ∈ R
/-- the rings of a region, while they are sought -/
structure RI (G : Int → Int → Prop) (S done : List Int) (RL : List (List Int)) (kn : List Int) : Prop where
  ring : ∀ R ∈ RL, IsRing G S R ∧ 2 ≤ R.length ∧ R.Nodup
  nd : RL.flatten.Nodup
  kn : ∀ x, x ∈ kn ↔ x ∈ RL.flatten
  all : ∀ a ∈ done, ∀ b ∈ S, a ≠ b → mutS G S a b → a ∈ RL.flatten
theorem RI.init {S : List Int} : RI G S [] [] [] := ⟨by simp, by simp, by simp, by simp⟩
theorem RI.skip {S done kn : List Int} {RL : List (List Int)} (h : RI G S done RL kn) {x : Int} (hx : x ∈ kn ∨ ∀ b ∈ S, x ≠ b → ¬ mutS G S x b) : RI G S (done ++ [x]) RL kn := by
  refine ⟨h.ring, h.nd, h.kn, fun a ha b hb hne hm => ?_⟩
  rcases List.mem_append.mp ha with ha | ha
  · exact h.all a ha b hb hne hm
  · obtain rfl := List.mem_singleton.mp ha
    rcases hx with hx | hx
    · exact (h.kn a).mp hx
    · exact absurd hm (hx b hb hne)
theorem RI.add {S done kn R : List Int} {RL : List (List Int)} (h : RI G S done RL kn) {x : Int} (hxS : x ∈ S) (hx : x ∉ kn) (hR : ∀ y, y ∈ R ↔ y ∈ S ∧ mutS G S x y) (hn : R.Nodup) (h2 : 2 ≤ R.length) : RI G S (done ++ [x]) (RL ++ [R]) (kn ++ R) := by
  have hxR : x ∈ R := (hR x).mpr ⟨hxS, .refl, .refl⟩
  refine ⟨fun R' hR' => ?_, ?_, fun y => ?_, fun a ha b hb hne hm => ?_⟩
  · rcases List.mem_append.mp hR' with h' | h'
    · exact h.ring R' h'
    · obtain rfl := List.mem_singleton.mp h'
      exact ⟨⟨x, hxS, hR⟩, h2, hn⟩
  · rw [List.flatten_append, List.flatten_singleton]
    refine List.nodup_append.mpr ⟨h.nd, hn, fun a ha b hb e => ?_⟩
    subst e
    obtain ⟨R', hR', haR⟩ := List.mem_flatten.mp ha
    obtain ⟨haS, hm⟩ := (hR a).mp hb
    refine hx ((h.kn x).mpr (List.mem_flatten.mpr ⟨R', hR', (h.ring R' hR').1.mem haR hxS hm.2 hm.1⟩))
  · rw [List.flatten_append, List.flatten_singleton, List.mem_append, List.mem_append, h.kn y]
  · rw [List.flatten_append, List.flatten_singleton, List.mem_append]
    rcases List.mem_append.mp ha with ha | ha
    · exact .inl (h.all a ha b hb hne hm)
    · obtain rfl := List.mem_singleton.mp ha
      exact .inr hxR
theorem RI.rings {S done kn : List Int} {RL : List (List Int)} (h : RI G S done RL kn) (hd : ∀ a ∈ S, a ∈ done) : Rings G S RL :=
  ⟨h.ring, h.nd, fun a ha b hb hne hm => let ⟨R, h1, h2⟩ := List.mem_flatten.mp (h.all a (hd a ha) b hb hne hm); ⟨R, h1, (h.ring R h1).1, h2⟩⟩
theorem len_flatten : ∀ {RL : List (List Int)}, (∀ R ∈ RL, 2 ≤ R.length) → RL.length ≤ RL.flatten.length
  | [], _ => by simp
  | R :: RL, h => by
    have h1 := h R List.mem_cons_self
    have h2 := len_flatten fun R' hR' => h R' (List.mem_cons_of_mem _ hR')
    simp only [List.length_cons, List.flatten_cons, List.length_append]; omega
theorem RI.len {S done kn : List Int} {RL : List (List Int)} (h : RI G S done RL kn) : RL.length ≤ S.length :=
  Nat.le_trans (len_flatten fun R hR => (h.ring R hR).2.1) (len_sub _ _ h.nd fun x hx => let ⟨R, h1, h2⟩ := List.mem_flatten.mp hx; (h.ring R h1).1.sub h2)
theorem Rings.len {S : List Int} {RL : List (List Int)} (h : Rings G S RL) : RL.flatten.length ≤ S.length :=
  len_sub _ _ h.nd fun x hx => let ⟨R, h1, h2⟩ := List.mem_flatten.mp hx; (h.ring R h1).1.sub h2
theorem RI.knlen {S done kn : List Int} {RL : List (List Int)} (h : RI G S done RL kn) (hn : kn.Nodup) : kn.length ≤ S.length :=
  len_sub _ _ hn fun x hx => let ⟨R, h1, h2⟩ := List.mem_flatten.mp ((h.kn x).mp hx); (h.ring R h1).1.sub h2
end
end
section
set_option autoImplicit false
set_option linter.unusedVariables false
set_option linter.unusedSimpArgs false
set_option maxRecDepth 100000
open PySem
abbrev P := PySem.Challenge.pw_uf010028_05
abbrev i_come_to : Nat := 1
abbrev i_rings_of : Nat := 2
abbrev i_entries : Nat := 3
abbrev i_crossed_ring : Nat := 4
abbrev i_is_number : Nat := 11
abbrev i_is_within : Nat := 12
abbrev i_is_row : Nat := 13
abbrev i_need_rows : Nat := 14
abbrev i_nexts : Nat := 15
abbrev i_goings : Nat := 17
abbrev i_live_rows : Nat := 18
abbrev i_way : Nat := 19
abbrev i_crossing : Nat := 20
abbrev i_cell_at : Nat := 22
abbrev i_number_by : Nat := 23
abbrev i_near : Nat := 24
abbrev i_row_by : Nat := 25
abbrev i_rows_by : Nat := 26
abbrev i_law_come : Nat := 28
abbrev i_law_reach : Nat := 29
abbrev i_law_after : Nat := 30
abbrev i_law_onward : Nat := 32
abbrev i_law_round : Nat := 33
abbrev i_law_crossers : Nat := 34
abbrev i_law_ring_by : Nat := 35
abbrev i_law_is_way : Nat := 36
abbrev i_law : Nat := 37
abbrev FnAt (hb : Heap) (f : Addr) (i : Nat) : Prop := FnIs hb f (paramsAt P i) (bodyAt P i) (scopeAt P i)
variable {hb : Heap} {w : World} {f : Addr} {n : Nat}
def cellZ (ns : List Int) (k : Int) : Int := ns.getD k.toNat 0
def S_cell : Spec := fun args B own Q => own = [] ∧ ∃ a ns k, args = [.ref a, .int k] ∧ B a = some (.ro (ns.map MV.int)) ∧ 0 ≤ k ∧ Q (.int (cellZ ns k)) B []
theorem ct_cell (F : FnAt hb f i_cell_at) (hlim : hb.NoLimit) (glen : Gl hb "len" (.oth (.builtin "len"))) : Contract P w hb (.ref f) (n + 1) S_cell := by
  refine Contract.of F hlim (by rintro args B own Q ⟨_, a, ns, k, e, _⟩; subst e; rfl) ?_
  rintro C args B own Q F' ⟨rfl, a, ns, k, rfl, hB, hk, hQ⟩
  show Sts C (bodyAt P i_cell_at) ⟨[(Str.ofString "_law_script", _), (Str.ofString "_law_k", _)], B, []⟩ _
  refine Sts_cons ?_
  walk_at "m"
  refine if_dec (fun hc => ?_) (fun hc => ?_)
  · walk_at "m"
    simp at hc
    have hlt : k.toNat < ns.length := by omega
    refine SubG_ro (by walk_at "m has") hk (m := .int (cellZ ns k)) (by simp [cellZ, hlt]) ?_
    exact ⟨_, .refl _, hQ⟩
  · walk_at "m"
    simp at hc
    have hge : ns.length ≤ k.toNat := by omega
    refine ⟨_, .refl _, ?_⟩
    have : cellZ ns k = 0 := by simp [cellZ, List.getElem?_eq_none hge]
    rw [this] at hQ; exact hQ
theorem fmod_bounds (a : Int) {b : Int} (h : 0 < b) : 0 ≤ a.fmod b ∧ a.fmod b < b := ⟨Int.fmod_nonneg_of_pos a h, Int.fmod_lt_of_pos a h⟩
def Bits (c : Int) : Prop := Builtin.Int.intBits c ≤ 2000000
def S_number : Spec := fun args B own Q => own = [] ∧ ∃ c, args = [.int c] ∧ Bits c ∧ ∀ z, Q (.int z) B []
theorem mul_ok {c : Int} (h : Bits c) : IntMulOk c (10 ^ (59 : Int).toNat + 7) := by
  unfold IntMulOk
  intro h'
  simp only [Bool.and_eq_true] at h'
  have h2 := h'.2
  unfold Bits at h
  have hb : Builtin.Int.intBits (10 ^ (59 : Int).toNat + 7) ≤ 200 := by decide +kernel
  unfold Builtin.Int.intTooBig at h2
  have h3 := of_decide_eq_true h2
  unfold bitsLine at h3
  omega
theorem ct_number (F : FnAt hb f i_number_by) (hlim : hb.NoLimit) : Contract P w hb (.ref f) (n + 1) S_number := by
  refine Contract.of F hlim (by rintro args B own Q ⟨_, a, e, _⟩; subst e; rfl) ?_
  rintro C args B own Q F' ⟨rfl, c, rfl, hb, hQ⟩
  show Sts C (bodyAt P i_number_by) ⟨[(Str.ofString "_law_cell", _)], B, []⟩ _
  have hm := mul_ok hb
  have b2 := fmod_bounds (c.fdiv 9) (b := 2) (by decide)
  refine Sts_cons ?_
  walk_at "m"
  refine if_dec (fun hc => ?_) (fun hc => ?_)
  · walk_at "m"
    exact ⟨_, .refl _, hQ _⟩
  · walk_at "m"
    exact ⟨_, .refl _, hQ _⟩
def S_near : Spec := fun args B own Q => own = [] ∧ ∃ k m many, args = [.int k, .int m, .int many] ∧ 0 ≤ k ∧ k < many ∧ ∀ z, 0 ≤ z → z ≤ many → Q (.int z) B []
theorem ct_near (F : FnAt hb f i_near) (hlim : hb.NoLimit) (gmax : Gl hb "max" (.oth (.builtin "max"))) (gmin : Gl hb "min" (.oth (.builtin "min"))) : Contract P w hb (.ref f) (n + 1) S_near := by
  refine Contract.of F hlim (by rintro args B own Q ⟨_, a, b, c, e, _⟩; subst e; rfl) ?_
  rintro C args B own Q F' ⟨rfl, k, m, many, rfl, h0, h1, hQ⟩
  show Sts C (bodyAt P i_near) ⟨[(Str.ofString "_law_k", _), (Str.ofString "_law_mixed", _), (Str.ofString "_law_many", _)], B, []⟩ _
  have b4 := fmod_bounds (m.fdiv 5) (b := 4) (by decide)
  have b3 := fmod_bounds (m.fdiv 5) (b := 3) (by decide)
  refine Sts_cons ?_
  walk_at "m"
  refine if_dec (fun hc => ?_) (fun hc => ?_)
  · walk_at "m"
    exact ⟨_, .refl _, hQ _ (by omega) (by omega)⟩
  · walk_at "m"
    exact ⟨_, .refl _, hQ _ (by omega) (by omega)⟩
structure Rw where
  add : Bool
  box : Int
  z : Int
  y : Int
def Rw.word (r : Rw) : Str := if r.add then Str.ofString "add" else Str.ofString "more"
def Rw.mv (r : Rw) : List MV := [.str r.word, .int r.box, .int r.z, .int r.y]
def Rw.Ok (many : Int) (r : Rw) : Prop := 0 ≤ r.box ∧ r.box < 4 ∧ 0 ≤ r.y ∧ r.y ≤ many ∧ (r.add = false → 0 ≤ r.z ∧ r.z ≤ many)
def S_row_by : Spec := fun args B own Q => own = [] ∧ ∃ c k many, args = [.int c, .int k, .int many] ∧ Bits c ∧ 0 ≤ k ∧ k < many ∧ many ≤ 20 ∧
  ∀ a r, Rw.Ok many r → B a = none → Q (.ref a) (setB B a (.tup (Rw.mv r))) []
theorem intBits_eq {b : Int} (h : b ≠ 0) : Builtin.Int.intBits b = Nat.log2 b.natAbs + 1 := by
  unfold Builtin.Int.intBits; simp [h]
theorem intBits_mono {a b : Int} (h : a.natAbs ≤ b.natAbs) : Builtin.Int.intBits a ≤ Builtin.Int.intBits b := by
  by_cases h0 : b = 0
  · have : a = 0 := by omega
    subst this; subst h0; exact Nat.le_refl _
  · have hlt : b.natAbs < 2 ^ (Nat.log2 b.natAbs + 1) := Nat.lt_log2_self
    have h1 : Builtin.Int.intBits a ≤ Nat.log2 b.natAbs + 1 := PyProof.Rows.intBits_le (by omega)
    rw [intBits_eq h0]; exact h1
theorem natAbs_fdiv_le (c : Int) {k : Int} (hk : 1 ≤ k) : (c.fdiv k).natAbs ≤ c.natAbs := by
  rw [Int.fdiv_eq_ediv_of_nonneg c (Int.le_trans (by decide) hk)]; exact Int.natAbs_ediv_le_natAbs c k
theorem bits_div3 {c : Int} (h : Bits c) : Bits (c.fdiv 3) := Nat.le_trans (intBits_mono (natAbs_fdiv_le c (by decide))) h
theorem ct_row_by (F : FnAt hb f i_row_by) (hlim : hb.NoLimit) (hnear : FnC P w hb "_law_near" 1 S_near) (hnum : FnC P w hb "_law_number_by" 1 S_number) : Contract P w hb (.ref f) 2 S_row_by := by
  refine Contract.of F hlim (by rintro args B own Q ⟨_, a, b, c, e, _⟩; subst e; rfl) ?_
  rintro C args B own Q F' ⟨rfl, c, k, many, rfl, hbits, h0, h1, h2, hQ⟩
  show Sts C (bodyAt P i_row_by) ⟨[(Str.ofString "_law_cell", _), (Str.ofString "_law_k", _), (Str.ofString "_law_many", _)], B, []⟩ _
  refine Sts_cons ?_
  walk_at "m"
  generalize (c * 48271 + 7919 * k).fmod 1000003 = mixed
  have hm1 : 0 < many + 1 := by omega
  have y1 := fmod_bounds (mixed.fdiv 12) (b := many + 1) hm1
  have n1 := fmod_bounds ((mixed.fdiv 12).fdiv (many + 1)) (b := many + 1) hm1
  generalize (mixed.fdiv 12).fmod (many + 1) = yes at y1 ⊢
  generalize ((mixed.fdiv 12).fdiv (many + 1)).fmod (many + 1) = no at n1 ⊢
  have bx := fmod_bounds (mixed.fdiv 3) (b := 4) (by decide)
  have y2 : yes ≤ many := Int.le_of_lt_add_one y1.2
  have n2 : no ≤ many := Int.le_of_lt_add_one n1.2
  refine ite_cut (fun σ' => ∃ yes no : Int, σ' = ⟨[(Str.ofString "_law_cell", .int c), (Str.ofString "_law_k", .int k), (Str.ofString "_law_many", .int many), (Str.ofString "_law_mixed", .int mixed), (Str.ofString "_law_yes", .int yes), (Str.ofString "_law_no", .int no)], B, []⟩ ∧ (0 ≤ yes ∧ yes ≤ many) ∧ 0 ≤ no ∧ no ≤ many) (fun hc => ?_) (fun hc => ?_) ?_
  · walk_at "m"
    refine ⟨rfl, _, _, _, rfl, h0, h1, fun yes' q1 q2 => ?_⟩
    walk_at "m"
    refine ⟨rfl, _, _, _, rfl, h0, h1, fun no' q3 q4 => ?_⟩
    walk_at "m"
    exact ⟨rfl, yes', no', rfl, ⟨q1, q2⟩, q3, q4⟩
  · walk_at "m"
    exact ⟨rfl, yes, no, rfl, ⟨y1.1, y2⟩, n1.1, n2⟩
  rintro _ ⟨yes', no', rfl, q1, q2⟩
  dsimp only
  walk_at "m"
  refine if_dec (fun hc => ?_) (fun hc => ?_)
  · walk_at "m"
    refine ⟨rfl, _, rfl, bits_div3 hbits, fun z => ?_⟩
    walk_at "m"
    exact fun a ha => ⟨_, .frz ha.md, hQ a ⟨true, _, _, _⟩ ⟨bx.1, bx.2, q1.1, q1.2, by simp⟩ ha.B⟩
  · walk_at "m"
    exact fun a ha => ⟨_, .frz ha.md, hQ a ⟨false, _, _, _⟩ ⟨bx.1, bx.2, q2.1, q2.2, fun _ => q1⟩ ha.B⟩
def TupsAt (B : MH) (as : List Addr) (rs : List Rw) : Prop := as.length = rs.length ∧ ∀ (i : Nat) (c : Addr) (r : Rw), as[i]? = some c → rs[i]? = some r → B c = some (.tup (Rw.mv r))
def RowsAt (B : MH) (b : Addr) (rs : List Rw) : Prop := ∃ as : List Addr, B b = some (.list (as.map MV.ref)) ∧ TupsAt B as rs
def RowsOk (rs : List Rw) : Prop := 1 ≤ rs.length ∧ rs.length ≤ 20 ∧ ∀ r ∈ rs, Rw.Ok rs.length r
theorem TupsAt.mono {B B' : MH} {as : List Addr} {rs : List Rw} (h : TupsAt B as rs) (s : Sub0 B B') : TupsAt B' as rs := ⟨h.1, fun i c r h1 h2 => s _ _ (h.2 i c r h1 h2)⟩
theorem RowsAt.mono {B B' : MH} {b : Addr} {rs : List Rw} (h : RowsAt B b rs) (s : Sub0 B B') : RowsAt B' b rs := let ⟨as, h1, h2⟩ := h; ⟨as, s _ _ h1, h2.mono s⟩
theorem TupsAt.snoc {B : MH} {as : List Addr} {rs : List Rw} {c : Addr} {r : Rw} (h : TupsAt B as rs) (hc : B c = some (.tup (Rw.mv r))) : TupsAt B (as ++ [c]) (rs ++ [r]) := by
  refine ⟨by simp [h.1], fun i c' r' h1 h2 => ?_⟩
  rcases Nat.lt_trichotomy i as.length with hi | hi | hi
  · rw [List.getElem?_append_left hi] at h1
    rw [List.getElem?_append_left (h.1 ▸ hi)] at h2
    exact h.2 i c' r' h1 h2
  · subst hi
    rw [List.getElem?_append_right (Nat.le_refl _)] at h1
    rw [h.1, List.getElem?_append_right (Nat.le_refl _)] at h2
    simp at h1 h2; subst h1 h2; exact hc
  · rw [List.getElem?_eq_none (by simp; omega)] at h1; cases h1
theorem Sub0.set {B : MH} {a : Addr} {o : MO} (h : B a = none) : Sub0 B (setB B a o) := fun b o' hb' => by
  rw [setB_ne fun e => by subst e; rw [h] at hb'; cases hb']; exact hb'
theorem Sub0.trans {B B' B'' : MH} (h : Sub0 B B') (h' : Sub0 B' B'') : Sub0 B B'' := fun a o x => h' a o (h a o x)
theorem range_item {k i : Nat} {m : MV} (h : ((List.range k).map fun (j : Nat) => MV.int (j : Int))[i]? = some m) : i < k ∧ m = .int i := by
  rw [List.getElem?_map] at h
  by_cases hi : i < k
  · rw [List.getElem?_range hi] at h; simp at h; exact ⟨hi, h.symm⟩
  · rw [List.getElem?_eq_none (by simp; omega)] at h; cases h
theorem Sub0.none {B B' : MH} (h : Sub0 B B') {b : Addr} (e : B' b = .none) : B b = .none := by
  cases e' : B b with
  | none => rfl
  | some o => rw [h b o e'] at e; cases e
def S_rows_by : Spec := fun args B own Q => own = [] ∧ ∃ (a : Addr) (ns : List Int), args = [.ref a] ∧ B a = some (.ro (ns.map MV.int)) ∧ (∀ z ∈ ns, Bits z) ∧
  ∀ (b : Addr) (B' : MH) (rs : List Rw), RowsOk rs → Sub0 B B' → RowsAt B' b rs → B b = none → Q (.ref b) B' []
theorem bits_cell {ns : List Int} (h : ∀ z ∈ ns, Bits z) (k : Int) : Bits (cellZ ns k) := by
  unfold cellZ
  rw [List.getD_eq_getElem?_getD]
  cases e : ns[k.toNat]? with
  | none => show Bits 0; unfold Bits; decide +kernel
  | some z => exact h z (List.mem_of_getElem? e)
theorem ct_rows_by (F : FnAt hb f i_rows_by) (hlim : hb.NoLimit) (hcell : FnC P w hb "_law_cell_at" 1 S_cell) (hrow : FnC P w hb "_law_row_by" 2 S_row_by) (grange : Gl hb "range" (.oth (.type "range"))) : Contract P w hb (.ref f) 3 S_rows_by := by
  refine Contract.of F hlim (by rintro args B own Q ⟨_, a, b, e, _⟩; subst e; rfl) ?_
  rintro C args B own Q F' ⟨rfl, a, ns, rfl, hB, hbits, hQ⟩
  show Sts C (bodyAt P i_rows_by) ⟨[(Str.ofString "_law_script", _)], B, []⟩ _
  refine Sts_cons ?_
  walk_at "m"
  refine ⟨rfl, _, _, _, rfl, hB, by decide, ?_⟩
  walk_at "m"
  refine ⟨rfl, _, _, _, rfl, hB, by decide, ?_⟩
  walk_at "m"
  have m1 := fmod_bounds (cellZ ns 0) (b := 6) (by decide)
  have m2 := fmod_bounds (cellZ ns 0) (b := 14) (by decide)
  refine ite_cut (fun σ' => ∃ many : Int, σ' = ⟨[(Str.ofString "_law_script", .ref a), (Str.ofString "_law_many", .int many)], B, []⟩ ∧ 1 ≤ many ∧ many ≤ 20) (fun hc => ?_) (fun hc => ?_) ?_
  · walk_at "m"
    refine ⟨rfl, _, _, _, rfl, hB, by decide, ?_⟩
    walk_at "m"
    exact ⟨rfl, 7 + (cellZ ns 0).fmod 14, rfl, by omega, by omega⟩
  · walk_at "m"
    exact ⟨rfl, 1 + (cellZ ns 0).fmod 6, rfl, by omega, by omega⟩
  rintro _ ⟨many, rfl, q1, q2⟩
  dsimp only
  walk_at "m"
  refine Ex_ListComp F' (by walk_at "m compok") (fun _ => rfl) ?_
  walk_at "m"
  refine Call_range (by omega) (by unfold lim; omega) fun ra => ?_
  have hrm : (many.toNat : Int) = many := by omega
  refine ⟨_, fun i ys σ' => ∃ (as : List Addr) (rs : List Rw) (B' : MH), σ' = ⟨[(Str.ofString "_law_script", .ref a), (Str.ofString "_law_many", .int many)], B', [(ra, .range many.toNat)]⟩ ∧ Sub0 B B' ∧ ys = as.map MV.ref ∧ rs.length = i ∧ TupsAt B' as rs ∧ (∀ r ∈ rs, Rw.Ok many r),
    ⟨ra, rfl, .inr (.inr ⟨_, .inl (.head _), rfl⟩)⟩, by simp; unfold lim; omega, ⟨[], [], B, rfl, Sub0.rfl' B, rfl, rfl, ⟨rfl, by simp⟩, by simp⟩, ?_, ?_⟩
  · rintro C' F1 i ys σ' m ⟨as, rs, B', rfl, hs, rfl, hi, ht, hok⟩ hm
    obtain ⟨hib, rfl⟩ := range_item hm
    refine CTs_nil ?_
    dsimp only
    refine if_tt ?_
    walk_at "m cex"
    walk_at "m"
    refine ⟨rfl, _, _, _, rfl, hs _ _ hB, by omega, ?_⟩
    walk_at "m"
    refine ⟨rfl, _, _, _, rfl, bits_cell hbits _, by omega, by omega, q2, fun c r hr hc => ?_⟩
    dsimp only [List.nil_append]
    refine ⟨as ++ [c], rs ++ [r], _, rfl, hs.trans (Sub0.set hc), by simp, by simp [hi], (ht.mono (Sub0.set hc)).snoc setB_self, fun r' hr' => ?_⟩
    rcases List.mem_append.mp hr' with h | h
    · exact hok r' h
    · simp at h; subst h; exact hr
  · rintro ys σ' ⟨as, rs, B', rfl, hs, rfl, hi, ht, hok⟩ b hb'
    simp at hi
    have hlen : (rs.length : Int) = many := by omega
    refine ⟨_, .trans (.frz hb'.md) (.own (List.nil_sublist _)), hQ b _ rs ⟨by omega, by omega, by rw [hlen]; exact hok⟩ (hs.trans (Sub0.set hb'.B)) ⟨as, setB_self, ht.mono (Sub0.set hb'.B)⟩ (hs.none hb'.B)⟩
def S_is_number : Spec := fun args B own Q => own = [] ∧ ∃ i : Int, args = [.int i] ∧ Q (.bool true) B []
theorem ct_is_number (F : FnAt hb f i_is_number) (hlim : hb.NoLimit) (g1 : Gl hb "isinstance" (.oth (.builtin "isinstance"))) (g2 : Gl hb "int" (.oth (.type "int"))) (g3 : Gl hb "bool" (.oth (.type "bool"))) : Contract P w hb (.ref f) (n + 1) S_is_number := by
  refine Contract.of F hlim (by rintro args B own Q ⟨_, a, e, _⟩; subst e; rfl) ?_
  rintro C args B own Q F' ⟨rfl, i, rfl, hQ⟩
  show Sts C (bodyAt P i_is_number) ⟨[(Str.ofString "thing", _)], B, []⟩ _
  refine Sts_cons ?_
  walk_at "m"
  exact ⟨_, .refl _, hQ⟩
def S_is_within : Spec := fun args B own Q => own = [] ∧ ∃ i a b : Int, args = [.int i, .int a, .int b] ∧ Q (.bool (decide (a ≤ i ∧ i ≤ b))) B []
theorem ct_is_within (F : FnAt hb f i_is_within) (hlim : hb.NoLimit) (h1 : FnC P w hb "is_number" 1 S_is_number) : Contract P w hb (.ref f) 2 S_is_within := by
  refine Contract.of F hlim (by rintro args B own Q ⟨_, a, b, c, e, _⟩; subst e; rfl) ?_
  rintro C args B own Q F' ⟨rfl, i, a, b, rfl, hQ⟩
  show Sts C (bodyAt P i_is_within) ⟨[(Str.ofString "thing", _), (Str.ofString "least", _), (Str.ofString "most", _)], B, []⟩ _
  refine Sts_cons ?_
  walk_at "m"
  refine ⟨rfl, _, rfl, ?_⟩
  walk_at "m"
  refine if_dec (fun hc => ?_) (fun hc => ?_)
  · walk_at "m"
    refine ⟨_, .refl _, ?_⟩
    have e : decide (a ≤ i ∧ i ≤ b) = decide (i ≤ b) := by simp [hc]
    rw [e] at hQ; exact hQ
  · refine ⟨_, .refl _, ?_⟩
    have e : decide (a ≤ i ∧ i ≤ b) = decide (a ≤ i) := by simp [hc]
    rw [e] at hQ; exact hQ
def S_is_row : Spec := fun args B own Q => own = [] ∧ ∃ (c : Addr) (many : Int) (r : Rw), args = [.ref c, .int many] ∧ B c = some (.tup (Rw.mv r)) ∧ Rw.Ok many r ∧ Q (.bool true) B []
theorem word_add {r : Rw} (h : r.add = true) : r.word = Str.ofString "add" := by simp [Rw.word, h]
theorem word_more {r : Rw} (h : r.add = false) : r.word = Str.ofString "more" := by simp [Rw.word, h]
theorem ct_is_row (F : FnAt hb f i_is_row) (hlim : hb.NoLimit) (h1 : FnC P w hb "is_number" 1 S_is_number) (h2 : FnC P w hb "is_within" 2 S_is_within) (glen : Gl hb "len" (.oth (.builtin "len"))) (gb : Gl hb "BOXES" (.int 4)) : Contract P w hb (.ref f) 3 S_is_row := by
  refine Contract.of F hlim (by rintro args B own Q ⟨_, a, b, c, e, _⟩; subst e; rfl) ?_
  rintro C args B own Q F' ⟨rfl, c, many, r, rfl, hB, ⟨o1, o2, o3, o4, o5⟩, hQ⟩
  show Sts C (bodyAt P i_is_row) ⟨[(Str.ofString "row", _), (Str.ofString "size", _)], B, []⟩ _
  refine Sts_cons ?_
  walk_at "m"
  refine if_ntrue (by rfl) ?_
  walk_at "m"
  refine ⟨rfl, _, _, _, rfl, ?_⟩
  walk_at "m"
  refine if_ntrue ⟨by omega, by omega⟩ ?_
  walk_at "m"
  refine ⟨rfl, _, _, _, rfl, ?_⟩
  walk_at "m"
  refine if_ntrue ⟨o3, o4⟩ ?_
  walk_at "m"
  cases hr : r.add with
  | true =>
    refine if_pos' (word_add hr) ?_
    walk_at "m"
    refine ⟨rfl, _, rfl, ?_⟩
    exact ⟨_, .refl _, hQ⟩
  | false =>
    refine if_neg' (by rw [word_more hr]; exact ofString_ne (by decide)) ?_
    walk_at "m"
    refine if_pos' (word_more hr) ?_
    walk_at "m"
    refine ⟨rfl, _, _, _, rfl, ⟨_, .refl _, ?_⟩⟩
    have e : decide (0 ≤ r.z ∧ r.z ≤ many) = true := by simpa using o5 hr
    rw [e]; exact hQ
theorem TupsAt.get {B : MH} {as : List Addr} {rs : List Rw} (h : TupsAt B as rs) {i : Nat} {r : Rw} (hr : rs[i]? = some r) : ∃ c, as[i]? = some c ∧ B c = some (.tup (Rw.mv r)) := by
  have hi : i < rs.length := (List.getElem?_eq_some_iff.mp hr).1
  have hi' : i < as.length := by rw [h.1]; exact hi
  have : as[i]? = some as[i] := List.getElem?_eq_getElem hi'
  exact ⟨_, this, h.2 i _ r this hr⟩
theorem TupsAt.geta {B : MH} {as : List Addr} {rs : List Rw} (h : TupsAt B as rs) {i : Nat} {c : Addr} (hr : as[i]? = some c) : ∃ r, rs[i]? = some r ∧ B c = some (.tup (Rw.mv r)) := by
  have hi : i < as.length := (List.getElem?_eq_some_iff.mp hr).1
  have hi' : i < rs.length := by rw [← h.1]; exact hi
  have : rs[i]? = some rs[i] := List.getElem?_eq_getElem hi'
  exact ⟨_, this, h.2 i c _ hr this⟩
def S_need_rows : Spec := fun args B own Q => own = [] ∧ ∃ (b : Addr) (rs : List Rw), args = [.ref b] ∧ RowsAt B b rs ∧ RowsOk rs ∧ Q .none B []
theorem ct_need_rows (F : FnAt hb f i_need_rows) (hlim : hb.NoLimit) (h1 : FnC P w hb "is_row" 3 S_is_row) (glen : Gl hb "len" (.oth (.builtin "len"))) (gm : Gl hb "MOST_ROWS" (.int 20)) : Contract P w hb (.ref f) 4 S_need_rows := by
  refine Contract.of F hlim (by rintro args B own Q ⟨_, a, b, e, _⟩; subst e; rfl) ?_
  rintro C args B own Q F' ⟨rfl, b, rs, rfl, ⟨as, hB, ht⟩, ⟨k1, k2, k3⟩, hQ⟩
  show Sts C (bodyAt P i_need_rows) ⟨[(Str.ofString "rows", _)], B, []⟩ _
  refine Sts_cons ?_
  have hl := ht.1
  walk_at "m"
  refine if_pos' (by simp; omega) ?_
  walk_at "m"
  refine if_ntrue (by simp; omega) ?_
  walk_at "m"
  refine Stm_ForC F' (fun _ => rfl) ?_
  walk_at "m"
  refine ⟨_, fun _ σ' => σ' = ⟨[(Str.ofString "rows", .ref b)], B, []⟩, ⟨b, rfl, .inl hB⟩, ⟨_, .refl _, rfl⟩, ?_, ?_⟩
  · rintro C' F1 i σ' m rfl hm
    rw [List.getElem?_map] at hm
    cases e : as[i]? with
    | none => rw [e] at hm; cases hm
    | some c =>
      rw [e] at hm; simp at hm; subst hm
      obtain ⟨r, hr, hc⟩ := ht.geta e
      walk_at "m"
      refine ⟨rfl, _, _, r, rfl, hc, by rw [List.length_map, hl]; exact k3 r (List.mem_of_getElem? hr), ?_⟩
      walk_at "m"
      exact ⟨_, .pre [(Str.ofString "row", .ref c)] rfl, rfl⟩
  · rintro C' F1 σ' rfl
    walk_at "m"
    exact ⟨_, .refl _, hQ⟩
def Rw.nx (r : Rw) : List Int := if r.add then [r.y] else [r.z, r.y]
def S_nexts : Spec := fun args B own Q => own = [] ∧ ∃ (c : Addr) (r : Rw), args = [.ref c] ∧ B c = some (.tup (Rw.mv r)) ∧ ∀ a, B a = none → Q (.ref a) (setB B a (.list (r.nx.map MV.int))) []
theorem ct_nexts (F : FnAt hb f i_nexts) (hlim : hb.NoLimit) : Contract P w hb (.ref f) (n + 1) S_nexts := by
  refine Contract.of F hlim (by rintro args B own Q ⟨_, a, b, e, _⟩; subst e; rfl) ?_
  rintro C args B own Q F' ⟨rfl, c, r, rfl, hB, hQ⟩
  show Sts C (bodyAt P i_nexts) ⟨[(Str.ofString "row", _)], B, []⟩ _
  refine Sts_cons ?_
  walk_at "m"
  cases hr : r.add with
  | true =>
    refine if_pos' (word_add hr) ?_
    walk_at "m"
    intro a ha
    have e : r.nx = [r.y] := by simp [Rw.nx, hr]
    rw [e] at hQ
    exact ⟨_, .frz ha.md, hQ a ha.B⟩
  | false =>
    refine if_neg' (by rw [word_more hr]; exact ofString_ne (by decide)) ?_
    walk_at "m"
    intro a ha
    have e : r.nx = [r.z, r.y] := by simp [Rw.nx, hr]
    rw [e] at hQ
    exact ⟨_, .frz ha.md, hQ a ha.B⟩
abbrev Gs := List (List (Option Int))
def GoesAt (B : MH) (g : Addr) (gs : Gs) : Prop := ∃ as : List Addr, B g = some (.list (as.map MV.ref)) ∧ as.length = gs.length ∧ ∀ (i : Nat) (c : Addr) (l : List (Option Int)), as[i]? = some c → gs[i]? = some l → B c = some (.list (l.map keyMV))
def edge (gs : Gs) (a b : Int) : Prop := 0 ≤ a ∧ ∃ l, gs[a.toNat]? = some l ∧ some b ∈ l
def inD (rk : KV) (b : Int) : Prop := (dget rk (some b)).isSome = true
def S_come_to : Spec := fun args B own Q => own = [] ∧ ∃ (g r : Addr) (st : Int) (gs : Gs) (rk : KV), args = [.ref g, .int st, .ref r] ∧ GoesAt B g gs ∧ B r = some (.dict rk) ∧ gs.length ≤ 1000 ∧ 0 ≤ st ∧ st < gs.length ∧
  (∀ i, inD rk i → 0 ≤ i ∧ i < gs.length) ∧ ∀ found : List Int, found.Nodup → (∀ a, a ∈ found ↔ Rch (edge gs) (inD rk) st a) → (∀ a ∈ found, 0 ≤ a ∧ a < gs.length) → ∀ d, B d = none → Q (.ref d) (setB B d (.dict (tks found))) []
theorem ct_come_to (F : FnAt hb f i_come_to) (hlim : hb.NoLimit) (glen : Gl hb "len" (.oth (.builtin "len"))) : Contract P w hb (.ref f) (n + 1) S_come_to := by
  refine Contract.of F hlim (by rintro args B own Q ⟨_, _, _, _, _, _, e, _⟩; subst e; rfl) ?_
  rintro C args B own Q F' ⟨rfl, g, r, st, gs, rk, rfl, ⟨as, hg, hlen, hgs⟩, hr, hsz, h0, h1, hrk, hQ⟩
  show Sts C (bodyAt P i_come_to) ⟨[(Str.ofString "goes", _), (Str.ofString "start", _), (Str.ofString "region", _)], B, []⟩ _
  refine Sts_cons ?_
  walk_at "m"
  refine Ex_Dict1 F' hlim fun d hd => ?_
  walk_at "m"
  refine ⟨_, _, rfl, .head, ?_⟩
  walk_at "m"
  intro wa hwa
  walk_at "m"
  refine Stm_WhileC F' (fun k σ' => ∃ (found W : List Int) (c : Int), σ' = ⟨[(Str.ofString "goes", .ref g), (Str.ofString "start", .int st), (Str.ofString "region", .ref r), (Str.ofString "found", .ref d), (Str.ofString "waiting", .ref wa)], B, [(wa, .list (W.map MV.int)), (d, .dict (tks found))]⟩ ∧
      DInv (edge gs) (inD rk) st gs.length found W c [] ∧ found.length + k = gs.length + W.length ∧ k ≤ gs.length) ?_ gs.length ⟨_, .refl _, [st], [st], st, rfl, .init h0 h1, Nat.add_comm _ _, Nat.le_refl _⟩
  rintro k σ' ⟨found, W, c, rfl, D, hk, hkn⟩
  walk_at "m"
  refine if_dec (fun hc => ?_) (fun hc => ?_)
  · obtain ⟨W', e, rfl⟩ : ∃ W' e, W = W' ++ [e] := by
      rcases List.eq_nil_or_concat W with rfl | ⟨W', e, rfl⟩
      · simp at hc
      · exact ⟨W', e, by simp⟩
    refine Sts_cons ?_
    refine Stm_ForC F' (fun _ => rfl) ?_
    walk_at "m"
    refine Ex_pop F' rfl rfl ?_
    walk_at "m"
    refine ⟨wa, W'.map MV.int, .int e, _, rfl, by rw [List.map_append]; exact .head, ?_⟩
    have he := D.rng e (D.sub e (by simp))
    obtain ⟨succ, hsu⟩ := get_in (l := gs) he.1 he.2
    obtain ⟨sa, hsa⟩ := get_in (l := as) he.1 (by rw [hlen]; exact he.2)
    rw [List.length_append] at hk
    have hk1 := dfs1 hk D.len
    refine SubG_list (.inr hg) he.1 (m := .ref sa) (by rw [List.getElem?_map, hsa]; rfl) ?_
    refine ⟨succ.map keyMV, fun i σ' => ∃ (found W : List Int), σ' = ⟨[(Str.ofString "goes", .ref g), (Str.ofString "start", .int st), (Str.ofString "region", .ref r), (Str.ofString "found", .ref d), (Str.ofString "waiting", .ref wa)], B, [(wa, .list (W.map MV.int)), (d, .dict (tks found))]⟩ ∧
      DInv (edge gs) (inD rk) st gs.length found W e (succ.drop i) ∧ found.length + (k - 1) = gs.length + W.length, ⟨sa, rfl, .inl (hgs _ _ _ hsa hsu)⟩, ⟨_, .refl _, found, W', rfl, ?_, hk1.1⟩, ?_, ?_⟩
    · refine D.pop fun b => ?_
      constructor
      · rintro ⟨_, l, hl, hb'⟩; rw [hsu] at hl; cases hl; simpa using hb'
      · intro hb'; exact ⟨he.1, succ, hsu, by simpa using hb'⟩
    · rintro C' F2 i σ' m ⟨found, W, rfl, D, hk⟩ hm
      rw [List.getElem?_map] at hm
      obtain ⟨o, ho, rfl⟩ := Option.map_eq_some_iff.mp hm
      have hdr : succ.drop i = o :: succ.drop (i + 1) := by
        have hlt := (List.getElem?_eq_some_iff.mp ho).1
        rw [List.drop_eq_getElem_cons hlt]; congr 1; rw [List.getElem?_eq_getElem hlt] at ho; exact Option.some.inj ho
      rw [hdr] at D
      cases o with
      | none =>
        show Store C' _ MV.none _ _
        walk_at "m"
        refine ⟨_, .pre [(_, _)] rfl, found, W, rfl, D.skip (fun b e => by cases e), hk⟩
      | some b =>
        show Store C' _ (MV.int b) _ _
        walk_at "m"
        refine if_b (fun hin => ?_) (fun hin => ?_)
        · walk_at "m"
          rw [dget_tks]
          refine if_ndec (fun hnf => ?_) (fun hf => ?_)
          · have hbr := hrk b hin
            have D2 := D.add hin hnf hbr.1 hbr.2
            have hl1 := D.len
            have hwl := lim_map (g := MV.int) (dfs3 hk hl1 (Nat.le_trans (Nat.sub_le k 1) hkn) hsz)
            walk_at "m"
            refine SetG_dicti F2 (.tail .head) (by rw [tks_length]; exact lim_ok hl1 hsz) ?_
            walk_at "m"
            rw [dput_tks hnf]
            rw [show List.map MV.int W ++ [MV.int b] = (W ++ [b]).map MV.int from by simp]
            exact ⟨_, .pre [(_, _)] rfl, found ++ [b], W ++ [b], rfl, D2, by rw [List.length_append, List.length_append]; exact dfs2 hk⟩
          · walk_at "m"
            exact ⟨_, .pre [(_, _)] rfl, found, W, rfl, D.skip (fun b' e _ => by cases e; exact hf), hk⟩
        · walk_at "m"
          exact ⟨_, .pre [(_, _)] rfl, found, W, rfl, D.skip (fun b' e h => by cases e; rw [inD, hin] at h; cases h), hk⟩
    · rintro C' F2 σ' ⟨found2, W2, rfl, D2, hk2⟩
      refine Sts_nil ?_
      refine Sts_nil ?_
      refine ⟨_, .refl _, k - 1, hk1.2, found2, W2, e, rfl, ?_, hk2, Nat.le_trans (Nat.sub_le k 1) hkn⟩
      · simpa using D2
  · have : W = [] := by
      cases W with
      | nil => rfl
      | cons a W => simp at hc
    subst this
    walk_at "m"
    refine ⟨_, .trans Cv.tl (.frz hd.md), ?_⟩
    exact hQ found D.nd D.done D.rng d hd.B
def goO (N : Int) (z : Int) : Option Int := if z = N then none else some z
def gsOf (rs : List Rw) : Gs := rs.map fun r => r.nx.map (goO rs.length)
def LsAt (B : MH) (as : List Addr) (gs : Gs) : Prop := as.length = gs.length ∧ ∀ (i : Nat) (c : Addr) (l : List (Option Int)), as[i]? = some c → gs[i]? = some l → B c = some (.list (l.map keyMV))
theorem LsAt.mono {B B' : MH} {as : List Addr} {gs : Gs} (h : LsAt B as gs) (s : Sub0 B B') : LsAt B' as gs := ⟨h.1, fun i c l h1 h2 => s _ _ (h.2 i c l h1 h2)⟩
theorem LsAt.snoc {B : MH} {as : List Addr} {gs : Gs} {c : Addr} {l : List (Option Int)} (h : LsAt B as gs) (hc : B c = some (.list (l.map keyMV))) : LsAt B (as ++ [c]) (gs ++ [l]) := by
  refine ⟨by simp [h.1], fun i c' l' h1 h2 => ?_⟩
  by_cases hi : i < as.length
  · rw [List.getElem?_append_left hi] at h1
    rw [List.getElem?_append_left (by rw [← h.1]; exact hi)] at h2
    exact h.2 i c' l' h1 h2
  · rw [List.getElem?_append_right (by omega)] at h1
    rw [List.getElem?_append_right (by rw [← h.1]; omega), ← h.1] at h2
    have e : i - as.length = 0 := by
      have := (List.getElem?_eq_some_iff.mp h1).1
      simp at this; omega
    rw [e] at h1 h2
    simp at h1 h2
    subst h1; subst h2; exact hc
def S_goings : Spec := fun args B own Q => own = [] ∧ ∃ (b : Addr) (rs : List Rw), args = [.ref b] ∧ RowsAt B b rs ∧ rs.length ≤ 20 ∧
  ∀ (g : Addr) (B' : MH), Sub0 B B' → GoesAt B' g (gsOf rs) → Q (.ref g) B' []
theorem ct_goings (F : FnAt hb f i_goings) (hlim : hb.NoLimit) (hnx : FnC P w hb "nexts" 1 S_nexts) (glen : Gl hb "len" (.oth (.builtin "len"))) (gint : Gl hb "int" (.oth (.type "int"))) : Contract P w hb (.ref f) 2 S_goings := by
  refine Contract.of F hlim (by rintro args B own Q ⟨_, _, _, e, _⟩; subst e; rfl) ?_
  rintro C args B own Q F' ⟨rfl, b, rs, rfl, ⟨ts, hb1, ht⟩, h20, hQ⟩
  show Sts C (bodyAt P i_goings) ⟨[(Str.ofString "rows", _)], B, []⟩ _
  refine Sts_cons ?_
  walk_at "m"
  intro fo hfo
  walk_at "m"
  refine Stm_ForC F' (fun _ => rfl) ?_
  walk_at "m"
  refine ⟨ts.map MV.ref, fun i σ' => ∃ (as : List Addr) (B' : MH), σ' = ⟨[(Str.ofString "rows", .ref b), (Str.ofString "found", .ref fo)], B', [(fo, .list (as.map MV.ref))]⟩ ∧ Sub0 B B' ∧ LsAt B' as ((gsOf rs).take i), ⟨b, rfl, .inl hb1⟩, ⟨_, .refl _, [], B, rfl, Sub0.rfl' B, ⟨rfl, by simp⟩⟩, ?_, ?_⟩
  · rintro C' F2 i σ' m ⟨as, B', rfl, hs, hls⟩ hm
    rw [List.getElem?_map] at hm
    obtain ⟨c, hc, rfl⟩ := Option.map_eq_some_iff.mp hm
    obtain ⟨r, hr, hrB⟩ := ht.geta hc
    have hi : i < rs.length := (List.getElem?_eq_some_iff.mp hr).1
    have hal : (as.map MV.ref).length + 1 ≤ lim := lim_map (lim_ok (by rw [hls.1]; exact Nat.le_trans (List.length_take_le' ..) (by rw [gsOf, List.length_map]; exact h20)) (by decide))
    walk_at "m"
    refine Ex_Comp F2 (by walk_at "m compok") (fun _ => rfl) ?_
    walk_at "m"
    refine ⟨rfl, c, r, rfl, hs _ _ hrB, fun na hna => ?_⟩
    have hs2 : Sub0 B (setB B' na (.list (r.nx.map MV.int))) := hs.trans (Sub0.set hna)
    refine ⟨r.nx.map MV.int, fun i ys B'' own'' => B'' = setB B' na (.list (r.nx.map MV.int)) ∧ own'' = [(fo, .list (as.map MV.ref))] ∧ ys = ((r.nx.take i).map (goO rs.length)).map keyMV, ⟨na, rfl, .inl setB_self⟩, by simp [Rw.nx]; split <;> simp [lim], ⟨rfl, rfl, rfl⟩, ?_, ?_⟩
    · rintro C3 F3 i ys B'' own'' m ⟨rfl, rfl, rfl⟩ hm
      rw [List.getElem?_map] at hm
      obtain ⟨z, hz, rfl⟩ := Option.map_eq_some_iff.mp hm
      refine CTs_nil ?_
      dsimp only
      refine if_tt ?_
      walk_at "m cex"
      walk_at "m"
      intro la hla
      have hb2 := hs2 _ _ hb1
      walk_at "m"
      have e1 : ((ts.map MV.ref).length : Int) = rs.length := by simp [ht.1]
      rw [e1]
      have et : r.nx.take (i + 1) = r.nx.take i ++ [z] := by rw [List.take_add_one, hz]; rfl
      by_cases hz1 : z = rs.length
      · rw [if_pos (by simpa using hz1)]
        refine SubG_list (.inl (.head _)) (by decide) (m := .none) rfl ?_
        exact ⟨_, Cv.tl, rfl, rfl, by rw [et]; simp [goO, hz1, keyMV]⟩
      · rw [if_neg (by simpa using hz1)]
        refine SubG_list (.inl (.head _)) (by decide) (m := .int z) rfl ?_
        exact ⟨_, Cv.tl, rfl, rfl, by rw [et]; simp [goO, hz1, keyMV]⟩
    · rintro ys B'' own'' ⟨rfl, rfl, rfl⟩ la hla
      walk_at "m"
      rw [show as.map MV.ref ++ [MV.ref la] = (as ++ [la]).map MV.ref from by simp, show r.nx.take (r.nx.map MV.int).length = r.nx from by simp]
      refine ⟨_, .trans (.pre [(_, _)] rfl) (.frz hla.md), as ++ [la], setB (setB B' na (.list (r.nx.map MV.int))) la (.list ((r.nx.map (goO rs.length)).map keyMV)), rfl, hs2.trans (Sub0.set hla.B), ?_⟩
      · have eg : (gsOf rs).take (i + 1) = (gsOf rs).take i ++ [r.nx.map (goO rs.length)] := by
          rw [List.take_add_one]; congr 1; simp [gsOf, hr]
        rw [eg]
        exact ((hls.mono (Sub0.set hna)).mono (Sub0.set hla.B)).snoc setB_self
  · rintro C' F2 σ' ⟨as, B', rfl, hs, hls⟩
    refine Sts_facts fun hfa _ => ?_
    have hfb : B' fo = none := hfa fo (by simp)
    walk_at "m"
    refine ⟨_, .frz hfo.md, hQ fo _ (hs.trans (Sub0.set hfb)) ⟨as, setB_self, ?_⟩⟩
    rw [List.length_map, ht.1] at hls
    have : (gsOf rs).take rs.length = gsOf rs := List.take_of_length_le (by simp [gsOf])
    rw [this] at hls
    exact hls.mono (Sub0.set hfb)
theorem length_gsOf (rs : List Rw) : (gsOf rs).length = rs.length := by simp [gsOf]
theorem inD_nums0 {N : Nat} {b : Int} : inD (tks (nums0 N)) b ↔ 0 ≤ b ∧ b < N := by unfold inD; rw [dget_tks]; simp [mem_nums0]
def goTo (rs : List Rw) (a b : Int) : Prop := 0 ≤ a ∧ ∃ r, rs[a.toNat]? = some r ∧ b ∈ r.nx
def inR (rs : List Rw) (without : List Int) (b : Int) : Prop := b < rs.length ∧ b ∉ without
def S_law_come : Spec := fun args B own Q => own = [] ∧ ∃ (b wi : Addr) (st : Int) (rs : List Rw) (wo : List Int), args = [.ref b, .int st, .ref wi] ∧ RowsAt B b rs ∧ RowsOk rs ∧ B wi = some (.list (wo.map MV.int)) ∧ 0 ≤ st ∧ st < rs.length ∧
  (∀ found : List Int, found.Nodup → (∀ a, a ∈ found ↔ st ∉ wo ∧ Rch (goTo rs) (inR rs wo) st a) → (∀ a ∈ found, 0 ≤ a ∧ a < rs.length) → ∀ d B', Sub0 B B' → B' d = some (.dict (tks found)) → Q (.ref d) B' [])
theorem nx_rng {rs : List Rw} (h : RowsOk rs) {i : Nat} {r : Rw} (hr : rs[i]? = some r) {b : Int} (hb : b ∈ r.nx) : 0 ≤ b ∧ b ≤ rs.length := by
  have ok := h.2.2 r (List.mem_of_getElem? hr)
  unfold Rw.nx at hb
  unfold Rw.Ok at ok
  cases e : r.add with
  | true => rw [e] at hb; simp at hb; subst hb; exact ⟨ok.2.2.1, ok.2.2.2.1⟩
  | false =>
    rw [e] at hb; simp at hb
    rcases hb with rfl | rfl
    · exact ok.2.2.2.2 e
    · exact ⟨ok.2.2.1, ok.2.2.2.1⟩
theorem ct_law_come (F : FnAt hb f i_law_come) (hlim : hb.NoLimit) (glen : Gl hb "len" (.oth (.builtin "len"))) : Contract P w hb (.ref f) (n + 1) S_law_come := by
  refine Contract.of F hlim (by rintro args B own Q ⟨_, _, _, _, _, _, e, _⟩; subst e; rfl) ?_
  rintro C args B own Q F' ⟨rfl, b, wi, st, rs, wo, rfl, ⟨as, hb1, ht⟩, hok, hwi, h0, h1, hQ⟩
  show Sts C (bodyAt P i_law_come) ⟨[(Str.ofString "_law_rows", _), (Str.ofString "_law_start", _), (Str.ofString "_law_without", _)], B, []⟩ _
  refine Sts_cons ?_
  walk_at "m"
  refine Ex_Dict0 F' hlim fun d hd => ?_
  walk_at "m"
  refine if_dec (fun hin => ?_) (fun hin => ?_)
  · walk_at "m"
    refine ⟨_, .frz hd.md, ?_⟩
    exact hQ [] .nil (fun a => by simp [hin]) (by simp) d _ (Sub0.set hd.B) setB_self
  walk_at "m"
  refine SetG_dicti F' .head (by simp [lim]) ?_
  walk_at "m"
  intro wa hwa
  walk_at "m"
  have h20 := hok.2.1
  refine Stm_WhileC F' (fun k σ' => ∃ (found W : List Int) (c : Int) (B' : MH), σ' = ⟨[(Str.ofString "_law_rows", .ref b), (Str.ofString "_law_start", .int st), (Str.ofString "_law_without", .ref wi), (Str.ofString "_law_found", .ref d), (Str.ofString "_law_waiting", .ref wa)], B', [(wa, .list (W.map MV.int)), (d, .dict (tks found))]⟩ ∧ Sub0 B B' ∧
      DInv (goTo rs) (inR rs wo) st rs.length found W c [] ∧ found.length + k = rs.length + W.length ∧ k ≤ rs.length) ?_ rs.length ⟨_, .refl _, [st], [st], st, B, rfl, Sub0.rfl' _, .init h0 (by omega), by simp; omega, Nat.le_refl _⟩
  rintro k σ' ⟨found, W, c, B', rfl, hs, D, hk, hkn⟩
  refine Ts_facts fun hfa _ => ?_
  have hBd : B' d = none := hfa d (by simp)
  walk_at "m"
  refine if_dec (fun hc => ?_) (fun hc => ?_)
  · obtain ⟨W', e, rfl⟩ : ∃ W' e, W = W' ++ [e] := by
      rcases List.eq_nil_or_concat W with rfl | ⟨W', e, rfl⟩
      · simp at hc
      · exact ⟨W', e, by simp⟩
    refine Sts_cons ?_
    walk_at "m"
    refine Ex_pop F' rfl rfl ?_
    walk_at "m"
    refine ⟨wa, W'.map MV.int, .int e, _, rfl, by rw [List.map_append]; exact .head, ?_⟩
    have he := D.rng e (D.sub e (by simp))
    obtain ⟨r, hr⟩ : ∃ l, rs[e.toNat]? = some l := ⟨rs[e.toNat]'(by omega), by simp⟩
    obtain ⟨ra, hra, hrB⟩ := (ht.mono hs).get hr
    refine SubG_list (.inr (hs _ _ hb1)) he.1 (m := .ref ra) (by rw [List.getElem?_map, hra]; rfl) ?_
    walk_at "m"
    intro u1 hu1
    walk_at "m"
    cases hadd : r.add
    case' true =>
      refine if_neg' (by rw [word_add hadd]; exact ofString_ne (by decide)) ?_
      walk_at "m"
      refine Stm_cv F' (.frz hu1.md) ?_
      rw [show [MV.int r.y] = r.nx.map MV.int from by simp [Rw.nx, hadd]]
      have hs2 : Sub0 B' (setB B' u1 (.list (r.nx.map MV.int))) := Sub0.set hu1.B
      have hu2 : (setB B' u1 (.list (r.nx.map MV.int))) u1 = some (.list (r.nx.map MV.int)) := setB_self
      revert hs2 hu2
      generalize setB B' u1 (.list (r.nx.map MV.int)) = Bu
      generalize u1 = u
    case' false =>
      refine if_pos' (word_more hadd) ?_
      walk_at "m"
      intro u2 hu2
      walk_at "m"
      refine Stm_cv F' (.trans (.frz hu2.md) Cv.tl) ?_
      rw [show [MV.int r.z, MV.int r.y] = r.nx.map MV.int from by simp [Rw.nx, hadd]]
      have hs2 : Sub0 B' (setB B' u2 (.list (r.nx.map MV.int))) := Sub0.set hu2.B
      have hu2 : (setB B' u2 (.list (r.nx.map MV.int))) u2 = some (.list (r.nx.map MV.int)) := setB_self
      revert hs2 hu2
      generalize setB B' u2 (.list (r.nx.map MV.int)) = Bu
      generalize u2 = u
    all_goals (
      intro hs2 hu2
      have hsB := hs.trans hs2
      refine Stm_ForC F' (fun _ => rfl) ?_
      walk_at "m"
      refine ⟨r.nx.map MV.int, fun i σ' => ∃ (found W : List Int), σ' = ⟨[(Str.ofString "_law_rows", .ref b), (Str.ofString "_law_start", .int st), (Str.ofString "_law_without", .ref wi), (Str.ofString "_law_found", .ref d), (Str.ofString "_law_waiting", .ref wa)], Bu, [(wa, .list (W.map MV.int)), (d, .dict (tks found))]⟩ ∧
        DInv (goTo rs) (inR rs wo) st rs.length found W e ((r.nx.drop i).map some) ∧ found.length + (k - 1) = rs.length + W.length, ⟨u, rfl, .inl hu2⟩, ⟨_, .pre [(_, _), (_, _)] rfl, found, W', rfl, ?_, by have := D.len; simp only [List.length_append, List.length_singleton] at hk; omega⟩, ?_, ?_⟩
      · refine D.pop fun b => ?_
        constructor
        · rintro ⟨_, l, hl, hb'⟩; rw [hr] at hl; cases hl; simpa using hb'
        · intro hb'; exact ⟨he.1, r, hr, by simpa using hb'⟩
      · rintro C' F2 i σ' m ⟨found, W, rfl, D, hk⟩ hm
        rw [List.getElem?_map] at hm
        obtain ⟨o, ho, rfl⟩ := Option.map_eq_some_iff.mp hm
        have hdr : r.nx.drop i = o :: r.nx.drop (i + 1) := by
          have hlt := (List.getElem?_eq_some_iff.mp ho).1
          rw [List.drop_eq_getElem_cons hlt]; congr 1; rw [List.getElem?_eq_getElem hlt] at ho; exact Option.some.inj ho
        rw [hdr, List.map_cons] at D
        have hor := nx_rng hok hr (List.mem_of_getElem? ho)
        have hbu := hsB _ _ hb1
        have hwu := hsB _ _ hwi
        walk_at "m"
        have el : ((as.map MV.ref).length : Int) = (rs.length : Nat) := by simp [ht.1]
        rw [el]
        refine if_dec (fun hlt => ?_) (fun hlt => ?_)
        · walk_at "m"
          rw [dget_tks]
          refine if_ndec (fun hnf => ?_) (fun hf => ?_)
          · walk_at "m"
            refine if_ndec (fun hnw => ?_) (fun hw => ?_)
            · have D2 := D.add ⟨hlt, hnw⟩ hnf hor.1 hlt
              have hl2 := D2.len
              have hl1 := D.len
              walk_at "m"
              refine SetG_dicti F2 (.tail .head) (by rw [tks_length]; unfold lim; omega) ?_
              walk_at "m"
              rw [dput_tks hnf]
              rw [show List.map MV.int W ++ [MV.int o] = (W ++ [o]).map MV.int from by simp]
              exact ⟨_, .pre [(_, _)] rfl, found ++ [o], W ++ [o], rfl, D2, by simp; omega⟩
            · walk_at "m"
              exact ⟨_, .pre [(_, _)] rfl, found, W, rfl, D.skip (fun b' e h => by cases e; exact absurd hw h.2), hk⟩
          · walk_at "m"
            exact ⟨_, .pre [(_, _)] rfl, found, W, rfl, D.skip (fun b' e _ => by cases e; exact hf), hk⟩
        · walk_at "m"
          exact ⟨_, .pre [(_, _)] rfl, found, W, rfl, D.skip (fun b' e h => by cases e; exact absurd h.1 hlt), hk⟩
      · rintro C' F2 σ' ⟨found2, W2, rfl, D2, hk2⟩
        refine Sts_nil ?_
        refine Sts_nil ?_
        refine ⟨_, .refl _, k - 1, ?_, found2, W2, e, Bu, rfl, hsB, ?_, hk2, by omega⟩
        · have := D.len; simp only [List.length_append, List.length_singleton] at hk; omega
        · simpa using D2)
  · have : W = [] := by
      cases W with
      | nil => rfl
      | cons a W => simp at hc
    subst this
    walk_at "m"
    refine ⟨_, .trans Cv.tl (.frz hd.md), ?_⟩
    exact hQ found D.nd (fun a => by rw [D.done a]; simp [hin]) D.rng d _ (hs.trans (Sub0.set hBd)) setB_self
def ReachAt (B : MH) (ds : List Addr) (rs : List Rw) (m : Nat) : Prop := ds.length = m ∧ ∀ (i : Nat) (d : Addr), ds[i]? = some d → ∃ found : List Int, B d = some (.dict (tks found)) ∧ ∀ a, a ∈ found ↔ Rch (goTo rs) (inR rs []) i a
theorem ReachAt.mono {B B' : MH} {ds : List Addr} {rs : List Rw} {m : Nat} (h : ReachAt B ds rs m) (s : Sub0 B B') : ReachAt B' ds rs m := ⟨h.1, fun i d h1 => let ⟨fo, h2, h3⟩ := h.2 i d h1; ⟨fo, s _ _ h2, h3⟩⟩
theorem ReachAt.snoc {B : MH} {ds : List Addr} {rs : List Rw} {m : Nat} {d : Addr} {found : List Int} (h : ReachAt B ds rs m) (hc : B d = some (.dict (tks found))) (hf : ∀ a, a ∈ found ↔ Rch (goTo rs) (inR rs []) m a) : ReachAt B (ds ++ [d]) rs (m + 1) := by
  refine ⟨by simp [h.1], fun i c h1 => ?_⟩
  by_cases hi : i < ds.length
  · rw [List.getElem?_append_left hi] at h1
    exact h.2 i c h1
  · rw [List.getElem?_append_right (by omega)] at h1
    have hl := h.1
    have e : i - ds.length = 0 := by
      have := (List.getElem?_eq_some_iff.mp h1).1
      simp at this; omega
    rw [e] at h1
    simp at h1
    subst h1
    have : i = m := by omega
    subst this
    exact ⟨found, hc, hf⟩
def S_law_reach : Spec := fun args B own Q => own = [] ∧ ∃ (b : Addr) (rs : List Rw), args = [.ref b] ∧ RowsAt B b rs ∧ RowsOk rs ∧
  ∀ (a : Addr) (ds : List Addr) (B' : MH), Sub0 B B' → B' a = some (.list (ds.map MV.ref)) → ReachAt B' ds rs rs.length → Q (.ref a) B' []
theorem ct_law_reach (F : FnAt hb f i_law_reach) (hlim : hb.NoLimit) (h1 : FnC P w hb "_law_come" 1 S_law_come) (glen : Gl hb "len" (.oth (.builtin "len"))) (gr : Gl hb "range" (.oth (.type "range"))) : Contract P w hb (.ref f) 2 S_law_reach := by
  refine Contract.of F hlim (by rintro args B own Q ⟨_, _, _, e, _⟩; subst e; rfl) ?_
  rintro C args B own Q F' ⟨rfl, b, rs, rfl, ⟨as, hb1, ht⟩, hok, hQ⟩
  show Sts C (bodyAt P i_law_reach) ⟨[(Str.ofString "_law_rows", _)], B, []⟩ _
  refine Sts_cons ?_
  walk_at "m"
  refine Ex_Comp F' (by walk_at "m compok") (fun _ => rfl) ?_
  walk_at "m"
  have el : ((as.map MV.ref).length : Int) = (rs.length : Nat) := by simp [ht.1]
  rw [el]
  refine Call_range (by omega) (by have := hok.2.1; unfold lim; omega) fun ra => ?_
  rw [Int.toNat_natCast]
  refine ⟨_, fun i ys B' own' => own' = [(ra, .range rs.length)] ∧ Sub0 B B' ∧ ∃ ds, ys = ds.map MV.ref ∧ ReachAt B' ds rs i, ⟨ra, rfl, .inr (.inr ⟨_, .inl (.head _), (range_nums0 _).symm⟩)⟩, by rw [List.length_map, length_nums0]; have := hok.2.1; unfold lim; omega, ⟨rfl, Sub0.rfl' _, [], rfl, rfl, by simp⟩, ?_, ?_⟩
  · rintro C' F2 i ys B' own' m ⟨rfl, hs, ds, rfl, hd⟩ hm
    rw [List.getElem?_map] at hm
    obtain ⟨z, hz, rfl⟩ := Option.map_eq_some_iff.mp hm
    obtain ⟨hi, rfl⟩ := get_nums0 hz
    refine CTs_nil ?_
    dsimp only
    refine if_tt ?_
    walk_at "m cex"
    walk_at "m"
    intro la hla
    refine Exs_cv F2 (.frz hla.md) ?_
    have hs2 : Sub0 B' (setB B' la (.list [])) := Sub0.set hla.B
    walk_at "m"
    refine ⟨rfl, b, la, i, rs, [], rfl, RowsAt.mono ⟨as, hb1, ht⟩ (hs.trans hs2), hok, setB_self, by omega, by omega, fun found _ hfo _ d B3 hs3 hd3 => ?_⟩
    refine ⟨_, .refl _, rfl, hs.trans (hs2.trans hs3), ds ++ [d], by simp, ?_⟩
    exact (hd.mono (hs2.trans hs3)).snoc hd3 fun a => by rw [hfo a]; simp
  · rintro ys B' own' ⟨rfl, hs, ds, rfl, hd⟩ la hla
    rw [List.length_map, length_nums0] at hd
    walk_at "m"
    exact ⟨_, .trans (.frz hla.md) Cv.none, hQ la ds _ (hs.trans (Sub0.set hla.B)) setB_self (hd.mono (Sub0.set hla.B))⟩
theorem rch_goTo {rs : List Rw} (hok : RowsOk rs) {a b : Int} (ha : 0 ≤ a ∧ a < rs.length) : Rch (edge (gsOf rs)) (inD (tks (nums0 rs.length))) a b ↔ Rch (goTo rs) (inR rs []) a b := by
  have key : ∀ x y : Int, (edge (gsOf rs) x y ∧ inD (tks (nums0 rs.length)) y) ↔ (goTo rs x y ∧ inR rs [] y) := by
    intro x y
    rw [inD_nums0]
    unfold edge goTo inR gsOf
    constructor
    · rintro ⟨⟨h0, l, hl, hy⟩, h1, h2⟩
      rw [List.getElem?_map] at hl
      obtain ⟨r, hr, rfl⟩ := Option.map_eq_some_iff.mp hl
      obtain ⟨z, hz, e⟩ := List.mem_map.mp hy
      unfold goO at e
      split at e
      · cases e
      · cases e; exact ⟨⟨h0, r, hr, hz⟩, h2, by simp⟩
    · rintro ⟨⟨h0, r, hr, hy⟩, h2, _⟩
      have hn := nx_rng hok hr hy
      refine ⟨⟨h0, r.nx.map (goO rs.length), by rw [List.getElem?_map, hr]; rfl, ?_⟩, hn.1, h2⟩
      refine List.mem_map.mpr ⟨y, hy, ?_⟩
      unfold goO
      rw [if_neg (by omega)]
  exact ⟨Rch.mono fun x y h1 h2 => (key x y).mp ⟨h1, h2⟩, Rch.mono fun x y h1 h2 => (key x y).mpr ⟨h1, h2⟩⟩
theorem mem_keys_of_isSome {kvs : KV} {k : Option Int} : (dget kvs k).isSome = decide (k ∈ kvs.map (·.1)) := by
  induction kvs with
  | nil => simp [dget]
  | cons p kvs ih =>
    obtain ⟨y, v⟩ := p
    simp only [dget]
    by_cases e : y = k
    · simp [e]
    · rw [if_neg e, ih]; simp [Ne.symm e]
theorem dget_at {kvs : KV} {i : Nat} {k : Option Int} {m : MV} (hn : (kvs.map (·.1)).Nodup) (h : kvs[i]? = some (k, m)) : dget kvs k = some m := by
  induction kvs generalizing i with
  | nil => simp at h
  | cons p kvs ih =>
    obtain ⟨y, v⟩ := p
    simp only [List.map_cons, List.nodup_cons] at hn
    simp only [dget]
    cases i with
    | zero => simp at h; obtain ⟨rfl, rfl⟩ := h; simp
    | succ i =>
      simp at h
      rw [if_neg (fun e => hn.1 (by rw [e]; exact List.mem_map.mpr ⟨_, List.mem_of_getElem? h, rfl⟩))]
      exact ih hn.2 h
theorem dput_new {kvs : KV} {k : Option Int} {m : MV} (h : k ∉ kvs.map (·.1)) : dput kvs k m = kvs ++ [(k, m)] := by
  induction kvs with
  | nil => rfl
  | cons p kvs ih =>
    obtain ⟨y, v⟩ := p
    simp only [List.map_cons, List.mem_cons, not_or] at h
    simp only [dput]
    rw [if_neg (Ne.symm h.1), ih h.2]; rfl
def S_law_ahead : Spec := fun args B own Q => own = [] ∧ ∃ (c : Addr) (r : Rw), args = [.ref c] ∧ B c = some (.tup (Rw.mv r)) ∧ ∀ a, B a = none → Q (.ref a) (setB B a (.list (r.nx.map MV.int))) []
theorem tks_mv (l : List Int) : (tks l).map (fun p => keyMV p.1) = l.map MV.int := by simp [tks, keyMV, Function.comp_def]
def S_live_rows : Spec := fun args B own Q => own = [] ∧ ∃ (b : Addr) (rs : List Rw), args = [.ref b] ∧ RowsAt B b rs ∧ RowsOk rs ∧
  ∀ (a : Addr) (ns : List Int) (B' : MH), Sub0 B B' → B' a = some (.list (ns.map MV.int)) → ns.Pairwise (· ≤ ·) → ns.Nodup → ns.length ≤ rs.length → (∀ x, x ∈ ns ↔ Rch (goTo rs) (inR rs []) 0 x) → Q (.ref a) B' []
theorem ct_live_rows (F : FnAt hb f i_live_rows) (hlim : hb.NoLimit) (h2 : FnC P w hb "goings" 2 S_goings) (h3 : FnC P w hb "come_to" 1 S_come_to) (gd : GlD hb) (glen : Gl hb "len" (.oth (.builtin "len"))) (gr : Gl hb "range" (.oth (.type "range"))) (gli : Gl hb "list" (.oth (.type "list"))) (gso : Gl hb "sorted" (.oth (.builtin "sorted"))) : Contract P w hb (.ref f) 3 S_live_rows := by
  refine Contract.of F hlim (by rintro args B own Q ⟨_, _, _, e, _⟩; subst e; rfl) ?_
  rintro C args B own Q F' ⟨rfl, b, rs, rfl, ⟨as, hb1, ht⟩, hok, hQ⟩
  show Sts C (bodyAt P i_live_rows) ⟨[(Str.ofString "rows", _)], B, []⟩ _
  have h20 := hok.2.1
  have h01 := hok.1
  have el : ((as.map MV.ref).length : Int) = (rs.length : Nat) := by simp [ht.1]
  refine Sts_cons ?_
  walk_at "m"
  refine Ex_dictTrue F' hlim gd rfl (by walk_at "m compok") (fun _ => rfl) (by decide) ?_
  walk_at "m"
  rw [el]
  refine Call_range (Int.natCast_nonneg _) (lim20 h20) fun ra => ?_
  refine ⟨nums0 rs.length, ⟨ra, rfl, .inr (.inr ⟨_, .inl (.head _), by rw [Int.toNat_natCast]; exact (range_nums0 _).symm⟩)⟩, nodup_nums0 _, by rw [length_nums0]; exact lim20 h20, fun B2 d hs2 hd hdm hdo => ?_⟩
  have hs3 : Sub0 B (setB B2 d (.dict (tks (nums0 rs.length)))) := hs2.trans (Sub0.set hd)
  have hd3 : (setB B2 d (.dict (tks (nums0 rs.length)))) d = some (.dict (tks (nums0 rs.length))) := setB_self
  refine Store_cv F' (.trans (.frz hdm) Cv.none) ?_
  revert hs3 hd3
  generalize setB B2 d (.dict (tks (nums0 rs.length))) = B3
  intro hs3 hd3
  walk_at "m"
  refine ⟨rfl, _, _, rfl, RowsAt.mono ⟨as, hb1, ht⟩ hs3, h20, fun g B4 hs4 hg => ?_⟩
  walk_at "m"
  refine ⟨rfl, g, d, 0, gsOf rs, _, rfl, hg, hs4 _ _ hd3, by rw [length_gsOf]; exact k20 h20, Int.le_refl _, by rw [length_gsOf]; exact Int.ofNat_lt.mpr h01, fun i hi => by rw [length_gsOf]; exact inD_nums0.mp hi, fun found hnd hfo hrng e he => ?_⟩
  have hs5 : Sub0 B4 (setB B4 e (.dict (tks found))) := Sub0.set he
  have he5 : (setB B4 e (.dict (tks found))) e = some (.dict (tks found)) := setB_self
  revert hs5 he5
  generalize setB B4 e (.dict (tks found)) = B5
  intro hs5 he5
  have hfl : found.length ≤ rs.length := by
    have := length_le_of_nodup (gsOf rs).length found hnd hrng
    rw [length_gsOf] at this; exact this
  walk_at "m"
  refine Call_listDict F' (.inr he5) fun l1 hl1 => ?_
  rw [tks_mv]
  walk_at "m"
  refine Call_sorted F' (.inl (.head _)) (Nat.lt_of_le_of_lt (Nat.le_trans hfl h20) (by decide)) fun ns l2 hp hso hl2 => ?_
  refine ⟨_, .trans (.frz hl2.md) Cv.none, hQ l2 ns _ ((hs3.trans (hs4.trans hs5)).trans (Sub0.set hl2.B)) setB_self hso (hp.nodup_iff.mpr hnd) (by rw [hp.length_eq]; exact hfl) fun x => ?_⟩
  rw [hp.mem_iff, hfo x]
  exact rch_goTo hok ⟨Int.le_refl _, Int.ofNat_lt.mpr h01⟩
theorem Wk.mono {E E' : Int → Int → Prop} {ok ok' : Int → Prop} {st : Prop} {s : Int} (h : ∀ a b, E a b → ok b → E' a b ∧ ok' b) {k : Nat} {x : Int} (hw : Wk E ok st s k x) : Wk E' ok' st s k x := by
  induction hw with
  | zero h => exact .zero h
  | succ _ e o ih => exact .succ ih (h _ _ e o).1 (h _ _ e o).2
theorem edge_goTo {rs : List Rw} (hok : RowsOk rs) (wo : List Int) (x y : Int) : (edge (gsOf rs) x y ∧ y ∉ wo) ↔ (goTo rs x y ∧ inR rs wo y) := by
  unfold edge goTo inR gsOf
  constructor
  · rintro ⟨⟨h0, l, hl, hy⟩, h1⟩
    rw [List.getElem?_map] at hl
    obtain ⟨r, hr, rfl⟩ := Option.map_eq_some_iff.mp hl
    obtain ⟨z, hz, e⟩ := List.mem_map.mp hy
    unfold goO at e
    split at e
    · cases e
    · cases e; have := nx_rng hok hr hz; exact ⟨⟨h0, r, hr, hz⟩, by omega, h1⟩
  · rintro ⟨⟨h0, r, hr, hy⟩, h2, h3⟩
    have hn := nx_rng hok hr hy
    refine ⟨⟨h0, r.nx.map (goO rs.length), by rw [List.getElem?_map, hr]; rfl, ?_⟩, h3⟩
    refine List.mem_map.mpr ⟨y, hy, ?_⟩
    unfold goO
    rw [if_neg (by omega)]
def cameOf (L : BL) : KV := L.map fun t => (some t.1, keyMV t.2.1)
theorem cameOf_keys (L : BL) : (cameOf L).map (·.1) = (L.map (·.1)).map some := by simp [cameOf, Function.comp_def]
theorem cameOf_in (L : BL) (b : Int) : (dget (cameOf L) (some b)).isSome = decide (b ∈ L.map (·.1)) := by
  rw [mem_keys_of_isSome, cameOf_keys]; simp
theorem cameOf_get {L : BL} (hn : (L.map (·.1)).Nodup) {i : Nat} {x : Int} {p : Option Int} {l : Nat} (h : L[i]? = some (x, p, l)) : dget (cameOf L) (some x) = some (keyMV p) :=
  dget_at (i := i) (by rw [cameOf_keys]; exact nodup_map_some hn) (by simp [cameOf, h])
theorem cameOf_put {L : BL} {x p : Int} {l : Nat} (h : x ∉ L.map (·.1)) : dput (cameOf L) (some x) (.int p) = cameOf (L ++ [(x, some p, l)]) := by
  rw [dput_new (by rw [cameOf_keys]; simpa using h)]; simp [cameOf, keyMV]
theorem cameOf_length (L : BL) : (cameOf L).length = L.length := by simp [cameOf]
structure IsWay (rs : List Rw) (wo : List Int) (start goal : Int) (p : List Int) : Prop where
  len : ∃ k, p.length = k + 1 ∧ Wk (goTo rs) (inR rs wo) (start ∉ wo) start k goal ∧ ∀ j, Wk (goTo rs) (inR rs wo) (start ∉ wo) start j goal → k ≤ j
  hd : p[0]? = some start
  lst : p[p.length - 1]? = some goal
  lk : ∀ (i : Nat) (a b : Int), p[i]? = some a → p[i + 1]? = some b → goTo rs a b
  rng : ∀ x ∈ p, 0 ≤ x ∧ x < (rs.length : Nat) ∧ x ∉ wo
  small : p.length ≤ rs.length
def S_way : Spec := fun args B own Q => own = [] ∧ ∃ (b wi : Addr) (start goal : Int) (rs : List Rw) (wo : List Int), args = [.ref b, .int start, .int goal, .ref wi] ∧ RowsAt B b rs ∧ RowsOk rs ∧ B wi = some (.list (wo.map MV.int)) ∧ 0 ≤ start ∧ start < rs.length ∧ 0 ≤ goal ∧ goal < rs.length ∧
  ((∀ k, ¬ Wk (goTo rs) (inR rs wo) (start ∉ wo) start k goal) → ∀ B', Sub0 B B' → Q .none B' []) ∧
  (∀ (a : Addr) (p : List Int) (B' : MH), Sub0 B B' → B' a = some (.list (p.map MV.int)) → IsWay rs wo start goal p → Q (.ref a) B' [])
theorem ct_way (F : FnAt hb f i_way) (hlim : hb.NoLimit) (h1 : FnC P w hb "need_rows" 4 S_need_rows) (h2 : FnC P w hb "goings" 2 S_goings) (glen : Gl hb "len" (.oth (.builtin "len"))) (gli : Gl hb "list" (.oth (.type "list"))) (grv : Gl hb "reversed" (.oth (.type "reversed"))) : Contract P w hb (.ref f) 5 S_way := by
  refine Contract.of F hlim (by rintro args B own Q ⟨_, _, _, _, _, _, _, e, _⟩; subst e; rfl) ?_
  rintro C args B own Q F' ⟨rfl, b, wi, start, goal, rs, wo, rfl, hR, hok, hwi, h0, h0', hg0, hg1, hQn, hQs⟩
  show Sts C (bodyAt P i_way) ⟨[(Str.ofString "rows", _), (Str.ofString "start", _), (Str.ofString "goal", _), (Str.ofString "without", _)], B, []⟩ _
  have h20 := hok.2.1
  refine Sts_cons ?_
  walk_at "m"
  refine ⟨rfl, _, _, rfl, hR, hok, ?_⟩
  walk_at "m"
  refine if_dec (fun hin => ?_) (fun hin => ?_)
  · walk_at "m"
    exact ⟨_, .refl _, hQn (fun k hw => hw.hst hin) _ (Sub0.rfl' _)⟩
  walk_at "m"
  refine if_dec (fun hin2 => ?_) (fun hin2 => ?_)
  · walk_at "m"
    refine ⟨_, .refl _, hQn (fun k hw => ?_) _ (Sub0.rfl' _)⟩
    cases hw with
    | zero h => exact h hin2
    | succ _ _ o => exact o.2 hin2
  walk_at "m"
  refine ⟨rfl, _, _, rfl, hR, h20, fun g B1 hs1 hg => ?_⟩
  obtain ⟨as, hgB, hlen, hgs⟩ := hg
  rw [length_gsOf] at hlen
  have hw1 := hs1 _ _ hwi
  walk_at "m"
  refine Ex_Dict1 F' hlim fun cd hcd => ?_
  walk_at "m"
  refine ⟨_, _, rfl, .head, ?_⟩
  walk_at "m"
  intro wa hwa
  walk_at "m"
  refine Stm_WhileC F' (fun k σ' => ∃ (L : BL) (pr : Nat), σ' = ⟨[(Str.ofString "rows", .ref b), (Str.ofString "start", .int start), (Str.ofString "goal", .int goal), (Str.ofString "without", .ref wi), (Str.ofString "goes", .ref g), (Str.ofString "came", .ref cd), (Str.ofString "waiting", .ref wa), (Str.ofString "at", .int pr)], B1, [(wa, .list ((L.map (·.1)).map MV.int)), (cd, .dict (cameOf L))]⟩ ∧
      BInv (edge (gsOf rs)) (· ∉ wo) start rs.length L pr [] ∧ k + pr = rs.length) ?_ rs.length ⟨_, .refl _, [(start, none, 1)], 0, rfl, .init h0 h0', rfl⟩
  rintro k σ' ⟨L, pr, rfl, D, hk⟩
  refine Ts_mono (Q := fun c σ₁ => σ₁ = ⟨[(Str.ofString "rows", .ref b), (Str.ofString "start", .int start), (Str.ofString "goal", .int goal), (Str.ofString "without", .ref wi), (Str.ofString "goes", .ref g), (Str.ofString "came", .ref cd), (Str.ofString "waiting", .ref wa), (Str.ofString "at", .int pr)], B1, [(wa, .list ((L.map (·.1)).map MV.int)), (cd, .dict (cameOf L))]⟩ ∧ (c = true → pr < L.length) ∧ (c = false → pr = L.length ∨ goal ∈ L.map (·.1))) ?_ ?_
  · walk_at "m"
    refine if_dec (fun hc => ?_) (fun hc => ?_)
    · simp only [List.length_map] at hc
      walk_at "m"
      rw [cameOf_in]
      refine if_ndec (fun hnc => ?_) (fun hnc => ?_)
      · walk_at "m"
        exact ⟨rfl, fun _ => Int.ofNat_lt.mp hc, fun h => by cases h⟩
      · walk_at "m"
        exact ⟨rfl, fun h => (by cases h), fun _ => .inr hnc⟩
    · simp only [List.length_map] at hc
      walk_at "m"
      exact ⟨rfl, fun h => (by cases h), fun _ => .inl (Nat.le_antisymm D.ple (Nat.not_lt.mp fun h => hc (Int.ofNat_lt.mpr h)))⟩
  rintro c _ ⟨rfl, hct, hcf⟩
  cases c with
  | true =>
    have hpr := hct rfl
    refine if_tt ?_
    refine Sts_cons ?_
    refine Stm_ForC F' (fun _ => rfl) ?_
    obtain ⟨⟨e, q, l⟩, hL⟩ : ∃ t, L[pr]? = some t := ⟨L[pr], by simp⟩
    have her := D.rng e (List.mem_map.mpr ⟨_, List.mem_of_getElem? hL, rfl⟩)
    obtain ⟨succ, hsu⟩ := get_in (l := gsOf rs) her.1 (by rw [length_gsOf]; exact her.2)
    obtain ⟨sa, hsa⟩ := get_in (l := as) her.1 (by rw [hlen]; exact her.2)
    have hwl : ((L.map (·.1)).map MV.int)[((pr : Nat) : Int).toNat]? = some (.int e) := by simp [hL]
    walk_at "m"
    refine SubG_list (.inl (.head _)) (Int.natCast_nonneg _) hwl ?_
    walk_at "m"
    refine SubG_list (.inr hgB) her.1 (m := .ref sa) (by rw [List.getElem?_map, hsa]; rfl) ?_
    refine ⟨succ.map keyMV, fun i σ' => ∃ (L : BL), σ' = ⟨[(Str.ofString "rows", .ref b), (Str.ofString "start", .int start), (Str.ofString "goal", .int goal), (Str.ofString "without", .ref wi), (Str.ofString "goes", .ref g), (Str.ofString "came", .ref cd), (Str.ofString "waiting", .ref wa), (Str.ofString "at", .int pr)], B1, [(wa, .list ((L.map (·.1)).map MV.int)), (cd, .dict (cameOf L))]⟩ ∧
      BInv (edge (gsOf rs)) (· ∉ wo) start rs.length L (pr + 1) (succ.drop i) ∧ L[pr]? = some (e, q, l), ⟨sa, rfl, .inl (hgs _ _ _ hsa hsu)⟩, ⟨_, .refl _, L, rfl, D.enter hL fun b' ⟨_, l', hl', hb'⟩ => by rw [hsu] at hl'; cases hl'; simpa using hb', hL⟩, ?_, ?_⟩
    · rintro C' F2 i σ' m ⟨L, rfl, D, hL⟩ hm
      rw [List.getElem?_map] at hm
      obtain ⟨o, ho, rfl⟩ := Option.map_eq_some_iff.mp hm
      have hdr : succ.drop i = o :: succ.drop (i + 1) := by
        have hlt := (List.getElem?_eq_some_iff.mp ho).1
        rw [List.drop_eq_getElem_cons hlt]; congr 1; rw [List.getElem?_eq_getElem hlt] at ho; exact Option.some.inj ho
      rw [hdr] at D
      have hwl : ((L.map (·.1)).map MV.int)[((pr : Nat) : Int).toNat]? = some (.int e) := by simp [hL]
      have hLl := D.len
      cases o with
      | none =>
        show Store C' _ MV.none _ _
        walk_at "m"
        refine ⟨_, .pre [(_, _)] rfl, L, rfl, D.skip hL (fun b e => by cases e), hL⟩
      | some o =>
        have hed : edge (gsOf rs) e o := ⟨her.1, succ, hsu, List.mem_of_getElem? ho⟩
        show Store C' _ (MV.int o) _ _
        walk_at "m"
        refine if_ndec (fun hnw => ?_) (fun hw => ?_)
        · walk_at "m"
          rw [cameOf_in]
          refine if_ndec (fun hnf => ?_) (fun hf => ?_)
          · have hor : 0 ≤ o ∧ o < rs.length := by
              obtain ⟨⟨_, r, hr, hn⟩, hi⟩ := (edge_goTo hok wo e o).mp ⟨hed, hnw⟩
              exact ⟨(nx_rng hok hr hn).1, hi.1⟩
            have D2 := D.add hL hed hnw hnf hor.1 hor.2
            have hwm := lim_map (g := MV.int) (l := L.map (·.1)) (by rw [List.length_map]; exact lim_ok hLl (k20 h20))
            walk_at "m"
            refine SubG_list (.inl (.head _)) (Int.natCast_nonneg _) hwl ?_
            walk_at "m"
            refine SetG_dicti F2 (.tail .head) (by rw [cameOf_length]; exact lim_ok hLl (k20 h20)) ?_
            walk_at "m"
            rw [cameOf_put (l := l + 1) hnf]
            rw [show List.map MV.int (L.map (·.1)) ++ [MV.int o] = ((L ++ [(o, some e, l + 1)]).map (·.1)).map MV.int from by simp]
            exact ⟨_, .pre [(_, _)] rfl, L ++ [(o, some e, l + 1)], rfl, D2, by rw [List.getElem?_append_left (List.getElem?_eq_some_iff.mp hL).1]; exact hL⟩
          · walk_at "m"
            exact ⟨_, .pre [(_, _)] rfl, L, rfl, D.skip hL (fun b' e _ => by cases e; exact hf), hL⟩
        · walk_at "m"
          exact ⟨_, .pre [(_, _)] rfl, L, rfl, D.skip hL (fun b' e h => by cases e; exact absurd hw h), hL⟩
    · rintro C' F2 σ' ⟨L2, rfl, D2, hL2⟩
      rw [List.length_map, List.drop_length] at D2
      have hple := D2.ple
      have hLl := D2.len
      walk_at "m"
      refine ⟨_, .refl _, k - 1, (bfs1 hk (Nat.le_trans hple hLl)).2, L2, pr + 1, ?_, D2, (bfs1 hk (Nat.le_trans hple hLl)).1⟩
      rfl
  | false =>
    refine if_ff ?_
    have hcf := hcf rfl
    clear hct
    have key := edge_goTo hok wo
    have wk1 : ∀ {j x}, Wk (edge (gsOf rs)) (· ∉ wo) (start ∉ wo) start j x → Wk (goTo rs) (inR rs wo) (start ∉ wo) start j x := fun {j x} h => h.mono fun a b e o => (key a b).mp ⟨e, o⟩
    have wk2 : ∀ {j x}, Wk (goTo rs) (inR rs wo) (start ∉ wo) start j x → Wk (edge (gsOf rs)) (· ∉ wo) (start ∉ wo) start j x := fun {j x} h => h.mono fun a b e o => (key a b).mpr ⟨e, o⟩
    refine Sts_nil ?_
    walk_at "m"
    rw [cameOf_in]
    refine if_ndec (fun hnc => ?_) (fun hc => ?_)
    · walk_at "m"
      refine ⟨_, .none, hQn (fun k hw => ?_) _ hs1⟩
      obtain rfl := hcf.resolve_right hnc
      exact hnc (D.all (wk2 hw))
    · obtain ⟨⟨g', q0, lg⟩, hm0, rfl⟩ := List.mem_map.mp hc
      obtain ⟨gi, hgi⟩ := List.mem_iff_getElem?.mp hm0
      dsimp only at *
      obtain ⟨kg, hkg, hwg⟩ := D.sound (st := start ∉ wo) hin gi g' q0 lg hgi
      walk_at "m"
      intro fo hfo
      walk_at "m"
      refine Stm_WhileC F' (fun k σ' => ∃ (found : List Int) (cur : Option Int), σ' = ⟨[(Str.ofString "rows", .ref b), (Str.ofString "start", .int start), (Str.ofString "goal", keyMV cur), (Str.ofString "without", .ref wi), (Str.ofString "goes", .ref g), (Str.ofString "came", .ref cd), (Str.ofString "waiting", .ref wa), (Str.ofString "at", .int pr), (Str.ofString "found", .ref fo)], B1, [(fo, .list (found.map MV.int)), (wa, .list ((L.map (·.1)).map MV.int)), (cd, .dict (cameOf L))]⟩ ∧
        Back (edge (gsOf rs)) (· ∉ wo) g' found ∧ (∀ x ∈ found, x ∈ L.map (·.1)) ∧ found.length + k = lg ∧ (match cur with
          | some c => ∃ (j : Nat) (q : Option Int), L[j]? = some (c, q, k) ∧ (found = [] → c = g') ∧ ∀ a, found.getLast? = some a → edge (gsOf rs) c a ∧ a ∉ wo
          | none => k = 0 ∧ found.getLast? = some start)) ?_ lg ⟨_, .refl _, [], some g', rfl, ⟨by simp, by simp⟩, by simp, by simp, gi, q0, hgi, fun _ => rfl, by simp⟩
      rintro k2 σ' ⟨found, cur, rfl, hB, hmem, hk2, hcur⟩
      have hlgn : lg ≤ rs.length := by
        exact Nat.le_trans (D.lvl gi g' q0 lg hgi) (Nat.le_trans (List.getElem?_eq_some_iff.mp hgi).1 D.len)
      cases cur with
      | some c =>
        obtain ⟨j, q, hj, hz, hlast⟩ := hcur
        have hfm := lim_map (g := MV.int) (l := found) (lim_ok (Nat.le_trans (Nat.le_add_right ..) (hk2 ▸ hlgn)) (k20 h20))
        dsimp only [keyMV]
        walk_at "m"
        refine SubG_dicti (.inl (by simp)) (cameOf_get D.nd hj) ?_
        walk_at "m"
        rw [show List.map MV.int found ++ [MV.int c] = (found ++ [c]).map MV.int from by simp]
        have hcm : c ∈ L.map (·.1) := List.mem_map.mpr ⟨_, List.mem_of_getElem? hj, rfl⟩
        have hmem' : ∀ x ∈ found ++ [c], x ∈ L.map (·.1) := fun x hx => by
          rcases List.mem_append.mp hx with h | h
          · exact hmem x h
          · simp at h; subst h; exact hcm
        cases q with
        | none =>
          obtain rfl := D.root j c k2 hj
          have hh := D.hd
          rw [hj] at hh; cases hh
          exact ⟨_, .refl _, 0, Nat.zero_lt_one, found ++ [start], none, rfl, hB.snoc hz hlast, hmem', by rw [List.length_append]; exact hk2, rfl, by simp⟩
        | some p =>
          obtain ⟨i, q', l', a1, a2, a3, a4, a5, a6⟩ := D.par j c p k2 hj
          exact ⟨_, .refl _, l', by rw [a4]; exact Nat.lt_succ_self _, found ++ [c], some p, rfl, hB.snoc hz hlast, hmem', by rw [List.length_append]; rw [a4] at hk2; exact (Nat.add_right_comm _ _ _).trans hk2, i, q', a3, fun h => (by simp at h), fun a ha => by simp at ha; subst ha; exact ⟨a5, a6⟩⟩
      | none =>
        obtain ⟨rfl, hlast⟩ := hcur
        dsimp only [keyMV]
        walk_at "m"
        refine Call_reversed F' (.inl (.head _)) fun rv hrv => ?_
        walk_at "m"
        refine Call_listRev F' hrv.md (.inl (.head _)) fun rd hrd => ?_
        walk_at "m"
        refine ⟨_, .trans (.frz hrd.md) .none, hQs rd found.reverse _ (hs1.trans (Sub0.set hrd.B)) (by rw [← List.map_reverse]; exact setB_self) ?_⟩
        have hfl : found.length = lg := hk2
        refine ⟨⟨kg, by rw [List.length_reverse]; exact hfl.trans hkg, wk1 hwg, fun j hw => Nat.le_of_succ_le_succ (Nat.le_trans (Nat.le_of_eq hkg.symm) (D.least hgi (wk2 hw)))⟩, ?_, ?_, fun i a b' ha hb' => ?_, fun x hx => ?_, by rw [List.length_reverse, hfl]; exact hlgn⟩
        · rw [← List.head?_eq_getElem?, List.head?_reverse]; exact hlast
        · rw [← List.getLast?_eq_getElem?, List.getLast?_reverse]
          cases found with
          | nil => simp at hlast
          | cons y found => rw [hB.hd y rfl]; rfl
        · obtain ⟨j, hj1, hj2⟩ := rev_lk ha hb'
          have h := hB.lk j b' a hj1 hj2
          exact ((key a b').mp h).1
        · have hm := hmem x (List.mem_reverse.mp hx)
          have hr := D.rng x hm
          exact ⟨hr.1, hr.2, D.oks (ok := (· ∉ wo)) hin hm⟩
end
section
set_option autoImplicit false
set_option linter.unusedVariables false
set_option linter.unusedSimpArgs false
set_option maxRecDepth 100000
open PySem
variable {hb : Heap} {w : World} {f : Addr} {n : Nat}
/-! lists of lists of ints in the heap -/
inductive LsI (B : MH) : List Addr → List (List Int) → Prop
  | nil : LsI B [] []
  | cons {a : Addr} {as : List Addr} {l : List Int} {ls : List (List Int)} : B a = some (.list (l.map MV.int)) → LsI B as ls → LsI B (a :: as) (l :: ls)
theorem LsI.mono {B B' : MH} (s : Sub0 B B') : ∀ {as : List Addr} {ls : List (List Int)}, LsI B as ls → LsI B' as ls
  | _, _, .nil => .nil
  | _, _, .cons h h' => .cons (s _ _ h) (h'.mono s)
theorem LsI.length {B : MH} : ∀ {as : List Addr} {ls : List (List Int)}, LsI B as ls → as.length = ls.length
  | _, _, .nil => rfl
  | _, _, .cons _ h => congrArg Nat.succ h.length
theorem LsI.snoc {B : MH} {a : Addr} {l : List Int} (hl : B a = some (.list (l.map MV.int))) : ∀ {as : List Addr} {ls : List (List Int)}, LsI B as ls → LsI B (as ++ [a]) (ls ++ [l])
  | _, _, .nil => .cons hl .nil
  | _, _, .cons h h' => .cons h (h'.snoc hl)
theorem LsI.get {B : MH} : ∀ {as : List Addr} {ls : List (List Int)}, LsI B as ls → ∀ {i : Nat} {a : Addr}, as[i]? = some a → ∃ l, ls[i]? = some l ∧ B a = some (.list (l.map MV.int))
  | _, _, .nil, i, a, h => by simp at h
  | _, _, .cons h h', 0, a, e => by simp at e; subst e; exact ⟨_, rfl, h⟩
  | _, _, .cons h h', i + 1, a, e => by simpa using h'.get (i := i) (by simpa using e)
/-! behind: what each comes to -/
inductive BhAt (B : MH) (W : Int → Int → Prop) : List Addr → List Addr → List Int → Prop
  | nil : BhAt B W [] [] []
  | cons {t d : Addr} {x : Int} {found : List Int} {ts ds : List Addr} {l : List Int} : B t = some (.tup [.int x, .ref d]) → B d = some (.dict (tks found)) → (∀ a, a ∈ found ↔ W x a) → BhAt B W ts ds l → BhAt B W (t :: ts) (d :: ds) (x :: l)
theorem BhAt.mono {B B' : MH} {W : Int → Int → Prop} (s : Sub0 B B') : ∀ {ts ds : List Addr} {l : List Int}, BhAt B W ts ds l → BhAt B' W ts ds l
  | _, _, _, .nil => .nil
  | _, _, _, .cons h1 h2 h3 h => .cons (s _ _ h1) (s _ _ h2) h3 (h.mono s)
theorem BhAt.snoc {B : MH} {W : Int → Int → Prop} {t d : Addr} {x : Int} {found : List Int} (h1 : B t = some (.tup [.int x, .ref d])) (h2 : B d = some (.dict (tks found))) (h3 : ∀ a, a ∈ found ↔ W x a) : ∀ {ts ds : List Addr} {l : List Int}, BhAt B W ts ds l → BhAt B W (ts ++ [t]) (ds ++ [d]) (l ++ [x])
  | _, _, _, .nil => .cons h1 h2 h3 .nil
  | _, _, _, .cons g1 g2 g3 g => .cons g1 g2 g3 (g.snoc h1 h2 h3)
def bhKV : List Int → List Addr → KV
  | x :: l, d :: ds => (some x, .ref d) :: bhKV l ds
  | _, _ => []
theorem BhAt.keys {B : MH} {W : Int → Int → Prop} : ∀ {ts ds : List Addr} {l : List Int}, BhAt B W ts ds l → (bhKV l ds).map (·.1) = l.map some ∧ ts.length = (bhKV l ds).length
  | _, _, _, .nil => ⟨rfl, rfl⟩
  | _, _, _, .cons _ _ _ h => ⟨by rw [bhKV, List.map_cons, h.keys.1]; rfl, by rw [bhKV, List.length_cons, List.length_cons, h.keys.2]⟩
theorem BhAt.tup {B : MH} {W : Int → Int → Prop} : ∀ {ts ds : List Addr} {l : List Int}, BhAt B W ts ds l → ∀ (i : Nat) (t : Addr) (p : Option Int × MV), ts[i]? = some t → (bhKV l ds)[i]? = some p → B t = some (.tup [keyMV p.1, p.2])
  | _, _, _, .nil, i, t, p, h, _ => by simp at h
  | _, _, _, .cons g1 _ _ _, 0, t, p, h, h' => by simp [bhKV] at h h'; subst h h'; exact g1
  | _, _, _, .cons _ _ _ g, i + 1, t, p, h, h' => g.tup i t p (by simpa using h) (by simpa [bhKV] using h')
theorem BhAt.get {B : MH} {W : Int → Int → Prop} : ∀ {ts ds : List Addr} {l : List Int}, BhAt B W ts ds l → ∀ {x : Int}, x ∈ l → ∃ d found, dget (bhKV l ds) (some x) = some (.ref d) ∧ B d = some (.dict (tks found)) ∧ ∀ a, a ∈ found ↔ W x a
  | _, _, _, .nil, x, h => by simp at h
  | _, _, _, .cons (x := y) (d := d) _ g2 g3 g, x, h => by
    unfold bhKV dget
    by_cases e : y = x
    · subst e
      exact ⟨d, _, if_pos rfl, g2, g3⟩
    · rcases List.mem_cons.mp h with h | h
      · exact absurd h.symm e
      · obtain ⟨d', fo, h1, h2, h3⟩ := g.get h
        exact ⟨d', fo, by rw [if_neg (fun h => e (Option.some.inj h))]; exact h1, h2, h3⟩
theorem inD_tks {S : List Int} {b : Int} : inD (tks S) b ↔ b ∈ S := by unfold inD; rw [dget_tks]; simp
theorem rch_tks {gs : Gs} {S : List Int} {a b : Int} : Rch (edge gs) (inD (tks S)) a b ↔ RS (edge gs) S a b :=
  ⟨fun h => h.weak fun _ => inD_tks.mp, fun h => h.weak fun _ => inD_tks.mpr⟩
theorem GoesAt.mono' {B B' : MH} {g : Addr} {gs : Gs} (h : GoesAt B g gs) (s : Sub0 B B') : GoesAt B' g gs := let ⟨as, h1, h2, h3⟩ := h; ⟨as, s _ _ h1, h2, fun i c l e1 e2 => s _ _ (h3 i c l e1 e2)⟩
theorem take_snoc {l : List Int} {i : Nat} {x : Int} (h : l[i]? = some x) : l.take (i + 1) = l.take i ++ [x] := by rw [List.take_add_one, h]; rfl
def S_rings_of : Spec := fun args B own Q => own = [] ∧ ∃ (g s : Addr) (gs : Gs) (S : List Int), args = [.ref g, .ref s] ∧ GoesAt B g gs ∧ B s = some (.list (S.map MV.int)) ∧ gs.length ≤ 1000 ∧ S.Nodup ∧ S.length < 64 ∧ (∀ x ∈ S, 0 ≤ x ∧ x < gs.length) ∧
  ∀ (a : Addr) (as : List Addr) (RL : List (List Int)) (B' : MH), Sub0 B B' → B' a = some (.list (as.map MV.ref)) → LsI B' as RL → Rings (edge gs) S RL → Q (.ref a) B' []
theorem ct_rings_of (F : FnAt hb f i_rings_of) (hlim : hb.NoLimit) (h1 : FnC P w hb "come_to" 1 S_come_to) (gd : GlD hb) (glen : Gl hb "len" (.oth (.builtin "len"))) (gso : Gl hb "sorted" (.oth (.builtin "sorted"))) : Contract P w hb (.ref f) 2 S_rings_of := by
  refine Contract.of F hlim (by rintro args B own Q ⟨_, _, _, _, _, e, _⟩; subst e; rfl) ?_
  rintro C args B own Q F' ⟨rfl, g, s, gs, S, rfl, hg, hs, hgl, hnd, h64, hrg, hQ⟩
  have hSl : S.length ≤ lim := Nat.le_trans (Nat.le_of_lt h64) (by unfold lim; decide)
  show Sts C (bodyAt P i_rings_of) ⟨[(Str.ofString "goes", _), (Str.ofString "some", _)], B, []⟩ _
  refine Sts_cons ?_
  walk_at "m"
  refine Ex_dictTrue F' hlim gd rfl (by walk_at "m compok") (fun _ => rfl) (by decide) ?_
  walk_at "m"
  refine ⟨S, ⟨s, rfl, .inl hs⟩, hnd, hSl, fun B1 rg s1 hd1 hm1 ho1 => ?_⟩
  refine Store_frzs F' [(rg, _)] [] (fun _ _ h => nomatch h) fun B2 s2 g2 => ?_
  have q2 := g2 _ (.head _)
  dsimp only at q2
  have s12 : Sub0 B B2 := s1.trans s2
  clear g2 s2 hd1 hm1 ho1 s1
  walk_at "m"
  refine Ex_CallT F'.ok gd (F'.kind rfl) rfl rfl ?_
  refine Exs_cons rfl ?_
  refine Ex_Comp F' (by walk_at "m compok") (fun _ => rfl) ?_
  walk_at "m"
  refine ⟨S.map MV.int, fun i ys B' own' => own' = [] ∧ Sub0 B2 B' ∧ ∃ ts ds, ys = ts.map MV.ref ∧ BhAt B' (RS (edge gs) S) ts ds (S.take i), ⟨s, rfl, .inl (s12 _ _ hs)⟩, by rw [List.length_map]; exact hSl, ⟨rfl, Sub0.rfl' _, [], [], rfl, .nil⟩, ?_, ?_⟩
  · rintro C1 F1 i ys B' own' m ⟨rfl, s3, ts, ds, rfl, hbh⟩ hm
    rw [List.getElem?_map] at hm
    obtain ⟨x, hx, rfl⟩ := Option.map_eq_some_iff.mp hm
    have hxS := List.mem_of_getElem? hx
    have hxr := hrg x hxS
    refine CTs_nil ?_
    dsimp only
    refine if_tt ?_
    walk_at "m cex"
    walk_at "m"
    refine ⟨rfl, g, rg, x, gs, _, rfl, hg.mono' (s12.trans s3), s3 _ _ q2, hgl, hxr.1, hxr.2, fun i hi => hrg i (inD_tks.mp hi), fun found _ hfo _ d hd => ?_⟩
    have s4 := Sub0.set (o := .dict (tks found)) hd
    have q4 := setB_self (B := B') (a := d) (o := .dict (tks found))
    generalize setB B' d (.dict (tks found)) = B4 at s4 q4 ⊢
    walk_at "m"
    intro t ht
    have s5 := Sub0.set (o := .tup [.int x, .ref d]) ht.B
    refine ⟨_, .frz ht.md, rfl, s3.trans (s4.trans s5), ts ++ [t], ds ++ [d], by rw [List.map_append]; rfl, ?_⟩
    rw [take_snoc hx]
    exact (hbh.mono (s4.trans s5)).snoc setB_self (s5 _ _ q4) fun a => (hfo a).trans rch_tks
  rintro ys B3 own' ⟨rfl, s3, ts, ds, rfl, hbh⟩ la hla
  rw [List.length_map, List.take_length] at hbh
  walk_at "m"
  refine Call_dict F' hlim (.inl (.head _)) hbh.keys.2 (by rw [hbh.keys.1]; exact nodup_map_some hnd) (fun i t p e1 e2 => .inr (hbh.tup i t p e1 e2)) fun be hbe => ?_
  refine Store_frzs F' [(be, _), (la, _)] [] (fun _ _ h => nomatch h) fun B4 s4 g4 => ?_
  have q4 := g4 _ (.head _)
  dsimp only at q4
  replace hbh := hbh.mono s4
  have s24 := s3.trans s4
  clear g4 s4 s3 hla hbe
  walk_at "m"
  intro fd hfd
  walk_at "m"
  refine Ex_Dict0 F' hlim fun kn hkn => ?_
  walk_at "m"
  refine Stm_ForC F' (fun _ => rfl) ?_
  refine Ex_postN F' ?_
  have hs4 := s24 _ _ (s12 _ _ hs)
  walk_at "m"
  refine Call_sorted F' (.inr hs4) h64 fun ns so hp hso hsof => ?_
  refine ⟨[(so, _)], _, rfl, (fun _ _ h => nomatch h), fun B5 s5 g5 => ?_⟩
  have q5 := g5 _ (.head _)
  dsimp only at q5
  clear g5
  replace hbh := hbh.mono s5
  replace q4 := s5 _ _ q4
  have hs5 := s5 _ _ hs4
  have sB5 := s12.trans (s24.trans s5)
  refine ⟨ns.map MV.int, fun i σ' => ∃ (B' : MH) (as : List Addr) (RL : List (List Int)) (K : List Int), σ' = ⟨[(Str.ofString "goes", .ref g), (Str.ofString "some", .ref s), (Str.ofString "region", .ref rg), (Str.ofString "behind", .ref be), (Str.ofString "found", .ref fd), (Str.ofString "known", .ref kn)], B', [(kn, .dict (tks K)), (fd, .list (as.map MV.ref))]⟩ ∧ Sub0 B5 B' ∧ LsI B' as RL ∧ RI (edge gs) S (ns.take i) RL K ∧ K.Nodup, ⟨so, rfl, .inl q5⟩, ⟨_, .refl _, B5, [], [], [], rfl, Sub0.rfl' _, .nil, .init, .nil⟩, ?_, ?_⟩
  · clear hsof hkn hfd hs4 s24 s12 q2 s5
    rintro C1 F1 i σ' m ⟨B6, as, RL, K, rfl, s6, hls, hri, hKn⟩ hm
    rw [List.getElem?_map] at hm
    obtain ⟨x, hx, rfl⟩ := Option.map_eq_some_iff.mp hm
    have hxS : x ∈ S := hp.mem_iff.mp (List.mem_of_getElem? hx)
    obtain ⟨dx, fx, e1, e2, e3⟩ := (hbh.mono s6).get hxS
    have hbe6 := s6 _ _ q4
    have hs6 := s6 _ _ hs5
    walk_at "m"
    refine Stm_Comp F1 (by walk_at "m compok") (fun _ => rfl) (swaps_yes F1 rfl rfl (by decide)) ?_
    refine Ex_postN F1 ?_
    walk_at "m"
    refine Call_sorted F1 (.inr hs6) h64 fun ns2 so2 hp2 hso2 hsof2 => ?_
    refine ⟨[(so2, _)], _, rfl, (fun _ _ h => nomatch h), fun B7 s7 g7 => ?_⟩
    have q7 := g7 _ (.head _)
    dsimp only at q7
    have hbe7 := s7 _ _ hbe6
    have e2' := s7 _ _ e2
    have hbh7 := hbh.mono (s6.trans s7)
    refine ⟨ns2.map MV.int, fun j ys B' own' => own' = [(kn, .dict (tks K)), (fd, .list (as.map MV.ref))] ∧ B' = B7 ∧ ∃ R : List Int, ys = R.map MV.int ∧ R.Sublist (ns2.take j) ∧ ∀ y, y ∈ R ↔ y ∈ ns2.take j ∧ mutS (edge gs) S x y, ⟨so2, rfl, .inl q7⟩, by rw [List.length_map, hp2.length_eq]; exact hSl, ⟨rfl, rfl, [], rfl, .slnil, by simp⟩, ?_, ?_⟩
    · rintro C2 F2 j ys B' own' m ⟨rfl, rfl, R, rfl, hsub, hiff⟩ hm
      rw [List.getElem?_map] at hm
      obtain ⟨y, hy, rfl⟩ := Option.map_eq_some_iff.mp hm
      have hyS : y ∈ S := hp2.mem_iff.mp (List.mem_of_getElem? hy)
      obtain ⟨dy, fy, e4, e5, e6⟩ := hbh7.get hyS
      have ht := take_snoc hy
      refine CTs_cons ?_
      walk_at "m cex"
      walk_at "m"
      refine SubG_dicti (.inr hbe7) e1 ?_
      walk_at "m"
      rw [dget_tks]
      refine if_dec (fun hc => ?_) (fun hc => ?_)
      · walk_at "m"
        refine SubG_dicti (.inr hbe7) e4 ?_
        walk_at "m"
        rw [dget_tks]
        refine if_dec (fun hc2 => ?_) (fun hc2 => ?_)
        · walk_at "m"
          refine CTs_nil ?_
          refine if_tt ?_
          walk_at "m"
          refine ⟨_, .refl _, rfl, rfl, R ++ [y], by rw [List.map_append]; rfl, by rw [ht]; exact hsub.append (.refl _), fun z => ?_⟩
          rw [ht, List.mem_append, List.mem_append, hiff z, List.mem_singleton]
          constructor
          · rintro (h | rfl)
            · exact ⟨.inl h.1, h.2⟩
            · exact ⟨.inr rfl, (e3 z).mp hc, (e6 x).mp hc2⟩
          · rintro ⟨h | h, h'⟩
            · exact .inl ⟨h, h'⟩
            · exact .inr h
        · walk_at "m"
          refine ⟨_, .refl _, rfl, rfl, R, rfl, by rw [ht]; exact hsub.trans (List.sublist_append_left ..), fun z => ?_⟩
          rw [ht, List.mem_append, hiff z, List.mem_singleton]
          constructor
          · exact fun h => ⟨.inl h.1, h.2⟩
          · rintro ⟨h | rfl, h'⟩
            · exact ⟨h, h'⟩
            · exact absurd ((e6 x).mpr h'.2) hc2
      · walk_at "m"
        refine ⟨_, .refl _, rfl, rfl, R, rfl, by rw [ht]; exact hsub.trans (List.sublist_append_left ..), fun z => ?_⟩
        rw [ht, List.mem_append, hiff z, List.mem_singleton]
        constructor
        · exact fun h => ⟨.inl h.1, h.2⟩
        · rintro ⟨h | rfl, h'⟩
          · exact ⟨h, h'⟩
          · exact absurd ((e3 z).mpr h'.1) hc
    rintro ys B' own' ⟨rfl, rfl, R, rfl, hsub, hiff⟩ C2 F2 ra hra
    rw [List.length_map, List.take_length] at hsub hiff
    have hRn : R.Nodup := hsub.nodup (hp2.nodup_iff.mpr hnd)
    replace hiff : ∀ y, y ∈ R ↔ y ∈ S ∧ mutS (edge gs) S x y := fun y => by rw [hiff y, hp2.mem_iff]
    refine Store_frzs F2 [(ra, _)] _ (fun _ _ h => nomatch h) fun B8 s8 g8 => ?_
    have q8 := g8 _ (.head _)
    dsimp only at q8
    have hls8 := hls.mono (s7.trans s8)
    have s68 := s6.trans (s7.trans s8)
    have ht := take_snoc hx
    have hRl : RL.length ≤ S.length := hri.len
    have hal : (as.map MV.ref).length + 1 ≤ lim := by rw [List.length_map, hls.length]; exact lim_ok (n := 64) (Nat.le_trans hRl (Nat.le_of_lt h64)) (by decide)
    have skip : (x ∈ K ∨ ∀ b ∈ S, x ≠ b → ¬ mutS (edge gs) S x b) → Tn [] (fun σ' => ∃ (B' : MH) (as : List Addr) (RL : List (List Int)) (K : List Int), σ' = ⟨[(Str.ofString "goes", .ref g), (Str.ofString "some", .ref s), (Str.ofString "region", .ref rg), (Str.ofString "behind", .ref be), (Str.ofString "found", .ref fd), (Str.ofString "known", .ref kn)], B', [(kn, .dict (tks K)), (fd, .list (as.map MV.ref))]⟩ ∧ Sub0 B5 B' ∧ LsI B' as RL ∧ RI (edge gs) S (ns.take (i + 1)) RL K ∧ K.Nodup)
        ⟨[(Str.ofString "goes", .ref g), (Str.ofString "some", .ref s), (Str.ofString "region", .ref rg), (Str.ofString "behind", .ref be), (Str.ofString "found", .ref fd), (Str.ofString "known", .ref kn), (Str.ofString "one", .int x), (Str.ofString "ring", .ref ra)], B8, [(kn, .dict (tks K)), (fd, .list (as.map MV.ref))]⟩ :=
      fun h => ⟨_, .pre [_, _] rfl, B8, as, RL, K, rfl, s68, hls8, by rw [ht]; exact hri.skip h, hKn⟩
    walk_at "m"
    rw [dget_tks]
    refine if_ndec (fun hnk => ?_) (fun hk => ?_)
    · walk_at "m"
      rw [List.length_map]
      refine if_dec (fun h2 => ?_) (fun h2 => ?_)
      · have hadd := hri.add hxS hnk hiff hRn (Int.ofNat_lt.mp h2)
        have hdis : ∀ y ∈ R, y ∉ K := fun y hy hyK => by
          obtain ⟨R', hR', hyR⟩ := List.mem_flatten.mp ((hri.kn y).mp hyK)
          obtain ⟨_, hm⟩ := (hiff y).mp hy
          exact hnk ((hri.kn x).mpr (List.mem_flatten.mpr ⟨R', hR', (hri.ring R' hR').1.mem hyR hxS hm.2 hm.1⟩))
        walk_at "m"
        refine Stm_ForC F1 (fun _ => rfl) ?_
        walk_at "m"
        refine ⟨R.map MV.int, fun j σ' => σ' = ⟨[(Str.ofString "goes", .ref g), (Str.ofString "some", .ref s), (Str.ofString "region", .ref rg), (Str.ofString "behind", .ref be), (Str.ofString "found", .ref fd), (Str.ofString "known", .ref kn), (Str.ofString "one", .int x), (Str.ofString "ring", .ref ra)], B8, [(kn, .dict (tks (K ++ R.take j))), (fd, .list ((as ++ [ra]).map MV.ref))]⟩, ⟨ra, rfl, .inl q8⟩, ⟨_, .refl _, by dsimp only; rw [List.take_zero, List.append_nil, List.map_append]; rfl⟩, ?_, ?_⟩
        · rintro C3 F3 j σ' m rfl hm
          rw [List.getElem?_map] at hm
          obtain ⟨y, hy, rfl⟩ := Option.map_eq_some_iff.mp hm
          have hyR := List.mem_of_getElem? hy
          have hnew : y ∉ K ++ R.take j := fun h => by
            rcases List.mem_append.mp h with h | h
            · exact hdis y hyR h
            · have hn2 := hRn
              rw [← List.take_append_drop (j + 1) R, take_snoc hy] at hn2
              have := (List.nodup_append.mp (List.nodup_append.mp hn2).1).2.2 y h y (by simp)
              exact this rfl
          have hln : (tks (K ++ R.take j)).length + 1 ≤ lim := by
            rw [tks_length, List.length_append]
            have l1 := hri.knlen hKn
            have l2 := len_sub R S hRn fun z hz => ((hiff z).mp hz).1
            have l3 : (R.take j).length ≤ R.length := by simp; omega
            unfold lim; omega
          walk_at "m"
          refine SetG_dicti F3 .head hln ?_
          walk_at "m"
          rw [dput_tks hnew, List.append_assoc, ← take_snoc hy]
          exact ⟨_, .pre [_] rfl, rfl⟩
        · rintro C3 F3 σ' rfl
          rw [List.length_map, List.take_length]
          walk_at "m"
          refine ⟨_, .pre [_, _] rfl, B8, as ++ [ra], RL ++ [R], K ++ R, rfl, s68, hls8.snoc q8, by rw [ht]; exact hadd, List.nodup_append.mpr ⟨hKn, hRn, fun a ha b hb e => by subst e; exact hdis a hb ha⟩⟩
      · walk_at "m"
        refine skip (.inr fun b hbS hne hm => h2 ?_)
        exact Int.ofNat_lt.mpr (two_mem ((hiff x).mpr ⟨hxS, .refl, .refl⟩) ((hiff b).mpr ⟨hbS, hm⟩) hne)
    · walk_at "m"
      exact skip (.inl hk)
  · rintro C1 F1 σ' ⟨B6, as, RL, K, rfl, s6, hls, hri, hKn⟩
    rw [List.length_map, List.take_length] at hri
    refine Sts_facts fun hfa _ => ?_
    have hfd0 : B6 fd = none := hfa fd (by simp)
    walk_at "m"
    refine ⟨_, .trans .tl (.frz (fun h => nomatch h)), hQ fd as RL _ ((sB5.trans s6).trans (Sub0.set hfd0)) setB_self (hls.mono (Sub0.set hfd0)) (hri.rings fun a ha => hp.mem_iff.mpr ha)⟩
end
section
set_option autoImplicit false
set_option linter.unusedVariables false
set_option linter.unusedSimpArgs false
set_option maxRecDepth 100000
open PySem
variable {hb : Heap} {w : World} {f : Addr} {n : Nat}
theorem GoesAt.get {B : MH} {g : Addr} {gs : Gs} (h : GoesAt B g gs) {x : Int} (h0 : 0 ≤ x) (h1 : x < gs.length) : ∃ (as : List Addr) (c : Addr) (l : List (Option Int)), B g = some (.list (as.map MV.ref)) ∧ (as.map MV.ref)[x.toNat]? = some (.ref c) ∧ B c = some (.list (l.map keyMV)) ∧ gs[x.toNat]? = some l := by
  obtain ⟨as, e1, e2, e3⟩ := h
  obtain ⟨l, hl⟩ := get_in (l := gs) h0 h1
  obtain ⟨c, hc⟩ := get_in (l := as) h0 (by rw [e2]; exact h1)
  exact ⟨as, c, l, e1, by rw [List.getElem?_map, hc]; rfl, e3 _ _ _ hc hl, hl⟩
theorem edge_at {gs : Gs} {x : Int} {l : List (Option Int)} (h0 : 0 ≤ x) (h : gs[x.toNat]? = some l) (b : Int) : edge gs x b ↔ some b ∈ l := by
  constructor
  · rintro ⟨_, l', hl, hb'⟩; rw [h] at hl; cases hl; exact hb'
  · exact fun hb' => ⟨h0, l, h, hb'⟩
theorem take_snocO {l : List (Option Int)} {i : Nat} {x : Option Int} (h : l[i]? = some x) : l.take (i + 1) = l.take i ++ [x] := by rw [List.take_add_one, h]; rfl
/-- found[x] = True -/
theorem tks_set (l : List Int) (hn : l.Nodup) (b : Int) : ∃ l', dput (tks l) (some b) (.bool true) = tks l' ∧ l'.Nodup ∧ ∀ x, x ∈ l' ↔ x ∈ l ∨ x = b := by
  by_cases h : b ∈ l
  · exact ⟨l, dput_tks_mem h, hn, fun x => ⟨.inl, fun h' => h'.elim id fun e => e ▸ h⟩⟩
  · refine ⟨l ++ [b], dput_tks h, List.nodup_append.mpr ⟨hn, by simp, fun a ha c hc e => ?_⟩, fun x => by simp⟩
    rw [List.mem_singleton] at hc
    subst e hc; exact h ha
def insOf (gs : Gs) (L R : List Int) (x : Int) : Prop := x ∈ R ∧ ((∃ y ∈ L, y ∉ R ∧ edge gs y x) ∨ x = 0)
def S_entries : Spec := fun args B own Q => own = [] ∧ ∃ (g la ra : Addr) (gs : Gs) (L R : List Int), args = [.ref g, .ref la, .ref ra] ∧ GoesAt B g gs ∧ B la = some (.list (L.map MV.int)) ∧ B ra = some (.list (R.map MV.int)) ∧ R.Nodup ∧ R.length < 64 ∧ (∀ x ∈ L, 0 ≤ x ∧ x < gs.length) ∧
  ∀ (a : Addr) (ins : List Int) (B' : MH), Sub0 B B' → B' a = some (.list (ins.map MV.int)) → ins.Pairwise (· ≤ ·) → ins.Nodup → (∀ x, x ∈ ins ↔ insOf gs L R x) → Q (.ref a) B' []
theorem ct_entries (F : FnAt hb f i_entries) (hlim : hb.NoLimit) (gd : GlD hb) (gli : Gl hb "list" (.oth (.type "list"))) (gso : Gl hb "sorted" (.oth (.builtin "sorted"))) : Contract P w hb (.ref f) (n + 1) S_entries := by
  refine Contract.of F hlim (by rintro args B own Q ⟨_, _, _, _, _, _, _, e, _⟩; subst e; rfl) ?_
  rintro C args B own Q F' ⟨rfl, g, la, ra, gs, L, R, rfl, hg, hla, hra, hnd, h64, hrg, hQ⟩
  show Sts C (bodyAt P i_entries) ⟨[(Str.ofString "goes", _), (Str.ofString "live", _), (Str.ofString "ring", _)], B, []⟩ _
  refine Sts_cons ?_
  walk_at "m"
  refine Ex_dictTrue F' hlim gd rfl (by walk_at "m compok") (fun _ => rfl) (by decide) ?_
  walk_at "m"
  refine ⟨R, ⟨ra, rfl, .inl hra⟩, hnd, Nat.le_trans (Nat.le_of_lt h64) (by unfold lim; decide), fun B1 rg s1 hd1 hm1 ho1 => ?_⟩
  refine Store_frzs F' [(rg, _)] [] (fun _ _ h => nomatch h) fun B2 s2 g2 => ?_
  have q2 := g2 _ (.head _)
  dsimp only at q2
  have s12 : Sub0 B B2 := s1.trans s2
  clear g2 s2 hd1 hm1 ho1 s1
  replace hg := hg.mono' s12
  replace hla := s12 _ _ hla
  walk_at "m"
  refine Ex_Dict0 F' hlim fun fd hfd => ?_
  walk_at "m"
  have bound : ∀ fo : List Int, fo.Nodup → (∀ x ∈ fo, x ∈ R) → (tks fo).length + 1 ≤ lim := fun fo h1 h2 => by
    rw [tks_length]
    exact lim_ok (n := 64) (Nat.le_trans (len_sub fo R h1 h2) (Nat.le_of_lt h64)) (by decide)
  refine Stm_ForC F' (fun _ => rfl) ?_
  walk_at "m"
  refine ⟨L.map MV.int, fun i σ' => ∃ fo : List Int, σ' = ⟨[(Str.ofString "goes", .ref g), (Str.ofString "live", .ref la), (Str.ofString "ring", .ref ra), (Str.ofString "inside", .ref rg), (Str.ofString "found", .ref fd)], B2, [(fd, .dict (tks fo))]⟩ ∧ fo.Nodup ∧ ∀ x, x ∈ fo ↔ x ∈ R ∧ ∃ y ∈ L.take i, y ∉ R ∧ edge gs y x, ⟨la, rfl, .inl hla⟩, ⟨_, .refl _, [], rfl, .nil, by simp⟩, ?_, ?_⟩
  · rintro C1 F1 i σ' m ⟨fo, rfl, hfn, hfo⟩ hm
    rw [List.getElem?_map] at hm
    obtain ⟨x, hx, rfl⟩ := Option.map_eq_some_iff.mp hm
    obtain ⟨hx0, hx1⟩ := hrg x (List.mem_of_getElem? hx)
    have ht := take_snoc hx
    walk_at "m"
    rw [dget_tks]
    refine if_ndec (fun hxR => ?_) (fun hxR => ?_)
    · obtain ⟨as, c, l, k1, k2, k3, k4⟩ := hg.get hx0 hx1
      have hed := edge_at hx0 k4
      refine Sts_cons ?_
      refine Stm_ForC F1 (fun _ => rfl) ?_
      walk_at "m"
      refine SubG_list (.inr k1) hx0 k2 ?_
      refine ⟨l.map keyMV, fun j σ' => ∃ fo : List Int, σ' = ⟨[(Str.ofString "goes", .ref g), (Str.ofString "live", .ref la), (Str.ofString "ring", .ref ra), (Str.ofString "inside", .ref rg), (Str.ofString "found", .ref fd), (Str.ofString "one", .int x)], B2, [(fd, .dict (tks fo))]⟩ ∧ fo.Nodup ∧ ∀ z, z ∈ fo ↔ z ∈ R ∧ ((∃ y ∈ L.take i, y ∉ R ∧ edge gs y z) ∨ some z ∈ l.take j), ⟨c, rfl, .inl k3⟩, ⟨_, .refl _, fo, rfl, hfn, fun z => by rw [hfo z]; simp⟩, ?_, ?_⟩
      · rintro C2 F2 j σ' m ⟨fo, rfl, hfn, hfo⟩ hm
        rw [List.getElem?_map] at hm
        obtain ⟨o, ho, rfl⟩ := Option.map_eq_some_iff.mp hm
        have ht2 := take_snocO ho
        cases o with
        | none =>
          show Store C2 _ MV.none _ _
          walk_at "m"
          rw [dget_tks_none]
          walk_at "m"
          refine if_ff ?_
          walk_at "m"
          refine ⟨_, .pre [_] rfl, fo, rfl, hfn, fun z => ?_⟩
          rw [hfo z, ht2]; simp
        | some o =>
          show Store C2 _ (MV.int o) _ _
          walk_at "m"
          rw [dget_tks]
          refine if_dec (fun hoR => ?_) (fun hoR => ?_)
          · obtain ⟨fo', e1, e2, e3⟩ := tks_set fo hfn o
            walk_at "m"
            refine SetG_dicti F2 .head (bound fo hfn fun z hz => ((hfo z).mp hz).1) ?_
            walk_at "m"
            rw [e1]
            refine ⟨_, .pre [_] rfl, fo', rfl, e2, fun z => ?_⟩
            rw [e3 z, hfo z, ht2, List.mem_append, List.mem_singleton]
            constructor
            · rintro (⟨h1, h2 | h2⟩ | rfl)
              · exact ⟨h1, .inl h2⟩
              · exact ⟨h1, .inr (.inl h2)⟩
              · exact ⟨hoR, .inr (.inr rfl)⟩
            · rintro ⟨h1, h2 | h2 | h2⟩
              · exact .inl ⟨h1, .inl h2⟩
              · exact .inl ⟨h1, .inr h2⟩
              · exact .inr (Option.some.inj h2)
          · walk_at "m"
            refine ⟨_, .pre [_] rfl, fo, rfl, hfn, fun z => ?_⟩
            rw [hfo z, ht2, List.mem_append, List.mem_singleton]
            constructor
            · rintro ⟨h1, h2 | h2⟩
              · exact ⟨h1, .inl h2⟩
              · exact ⟨h1, .inr (.inl h2)⟩
            · rintro ⟨h1, h2 | h2 | h2⟩
              · exact ⟨h1, .inl h2⟩
              · exact ⟨h1, .inr h2⟩
              · cases h2; exact absurd h1 hoR
      · rintro C2 F2 σ' ⟨fo, rfl, hfn, hfo⟩
        rw [List.length_map, List.take_length] at hfo
        walk_at "m"
        refine ⟨_, .pre [_] rfl, fo, rfl, hfn, fun z => ?_⟩
        rw [hfo z, ht]
        constructor
        · rintro ⟨h1, ⟨y, h2, h3⟩ | h2⟩
          · exact ⟨h1, y, List.mem_append_left _ h2, h3⟩
          · exact ⟨h1, x, by simp, hxR, (hed z).mpr h2⟩
        · rintro ⟨h1, y, h2, h3, h4⟩
          rcases List.mem_append.mp h2 with h2 | h2
          · exact ⟨h1, .inl ⟨y, h2, h3, h4⟩⟩
          · obtain rfl := List.mem_singleton.mp h2
            exact ⟨h1, .inr ((hed z).mp h4)⟩
    · walk_at "m"
      refine ⟨_, .pre [_] rfl, fo, rfl, hfn, fun z => ?_⟩
      rw [hfo z, ht]
      constructor
      · rintro ⟨h1, y, h2, h3⟩
        exact ⟨h1, y, List.mem_append_left _ h2, h3⟩
      · rintro ⟨h1, y, h2, h3, h4⟩
        rcases List.mem_append.mp h2 with h2 | h2
        · exact ⟨h1, y, h2, h3, h4⟩
        · obtain rfl := List.mem_singleton.mp h2
          exact absurd hxR h3
  · rintro C1 F1 σ' ⟨fo, rfl, hfn, hfo⟩
    rw [List.length_map, List.take_length] at hfo
    refine Sts_nil ?_
    dsimp only
    refine Sts_cons ?_
    refine Stm_mono (Q := fun f σ' => f = .next ∧ ∃ fo : List Int, σ' = ⟨[(Str.ofString "goes", .ref g), (Str.ofString "live", .ref la), (Str.ofString "ring", .ref ra), (Str.ofString "inside", .ref rg), (Str.ofString "found", .ref fd)], B2, [(fd, .dict (tks fo))]⟩ ∧ fo.Nodup ∧ ∀ x, x ∈ fo ↔ insOf gs L R x) ?_ ?_
    · walk_at "m"
      rw [dget_tks]
      refine if_dec (fun h0 => ?_) (fun h0 => ?_)
      · obtain ⟨fo', e1, e2, e3⟩ := tks_set fo hfn 0
        walk_at "m"
        refine SetG_dicti F' .head (bound fo hfn fun z hz => ((hfo z).mp hz).1) ?_
        walk_at "m"
        rw [e1]
        refine ⟨rfl, fo', rfl, e2, fun z => ?_⟩
        unfold insOf
        rw [e3 z, hfo z]
        constructor
        · rintro (⟨h1, h2⟩ | rfl)
          · exact ⟨h1, .inl h2⟩
          · exact ⟨h0, .inr rfl⟩
        · rintro ⟨h1, h2 | h2⟩
          · exact .inl ⟨h1, h2⟩
          · exact .inr h2
      · walk_at "m"
        refine ⟨rfl, fo, rfl, hfn, fun z => ?_⟩
        unfold insOf
        rw [hfo z]
        constructor
        · rintro ⟨h1, h2⟩
          exact ⟨h1, .inl h2⟩
        · rintro ⟨h1, h2 | rfl⟩
          · exact ⟨h1, h2⟩
          · exact absurd h1 h0
    rintro _ _ ⟨rfl, fo, rfl, hfn, hfo⟩
    have hfl : fo.length < 64 := Nat.lt_of_le_of_lt (len_sub fo R hfn fun z hz => ((hfo z).mp hz).1) h64
    dsimp only
    walk_at "m"
    refine Call_listDict F' (.inl (.head _)) fun l1 hl1 => ?_
    rw [tks_mv]
    walk_at "m"
    refine Call_sorted F' (.inl (.head _)) hfl fun ns l2 hp hso hl2 => ?_
    refine ⟨_, .trans (.frz hl2.md) Cv.none, hQ l2 ns _ (s12.trans (Sub0.set hl2.B)) setB_self hso (hp.nodup_iff.mpr hfn) fun x => ?_⟩
    rw [hp.mem_iff, hfo x]
end
section
set_option autoImplicit false
set_option linter.unusedVariables false
set_option linter.unusedSimpArgs false
set_option maxRecDepth 100000
open PySem
variable {hb : Heap} {w : World} {f : Addr} {n : Nat}
/-- a region that waits -/
structure Okr (gs : Gs) (L S : List Int) : Prop where
  nd : S.Nodup
  l64 : S.length < 64
  sub : ∀ x ∈ S, x ∈ L
  phi : Phi (edge gs) S
def mW : List (List Int) → Nat
  | [] => 0
  | S :: r => S.length + 1 + mW r
theorem mW_snoc : ∀ (WL : List (List Int)) (S : List Int), mW (WL ++ [S]) = mW WL + (S.length + 1)
  | [], S => by simp [mW]
  | T :: WL, S => by rw [List.cons_append, mW, mW, mW_snoc WL S]; omega
theorem LsI.unsnoc {B : MH} : ∀ {as : List Addr} {a : Addr} {ls : List (List Int)}, LsI B (as ++ [a]) ls → ∃ ls' l, ls = ls' ++ [l] ∧ LsI B as ls' ∧ B a = some (.list (l.map MV.int))
  | [], a, _, .cons h .nil => ⟨[], _, rfl, .nil, h⟩
  | _ :: as, a, _, .cons h h' => by
    obtain ⟨ls', l, rfl, h1, h2⟩ := LsI.unsnoc (as := as) h'
    exact ⟨_ :: ls', l, rfl, .cons h h1, h2⟩
theorem mW_len : ∀ (WL : List (List Int)), WL.length ≤ mW WL
  | [] => Nat.le_refl _
  | S :: r => by have := mW_len r; simp only [List.length_cons, mW]; omega
theorem flat_take {RL : List (List Int)} {i : Nat} {R : List Int} (h : RL[i]? = some R) : (RL.take (i + 1)).flatten.length = (RL.take i).flatten.length + R.length := by
  rw [List.take_add_one, h, List.flatten_append, List.length_append]
  show _ + [R].flatten.length = _
  rw [List.flatten_singleton]
theorem flat_le (RL : List (List Int)) (i : Nat) : (RL.take i).flatten.length ≤ RL.flatten.length := by
  have := congrArg (fun l : List (List Int) => l.flatten.length) (List.take_append_drop i RL)
  simp only [List.flatten_append, List.length_append] at this
  omega
theorem drop_get {RL : List (List Int)} {i : Nat} {R : List Int} (h : RL[i]? = some R) : RL.drop i = R :: RL.drop (i + 1) := by
  obtain ⟨h1, h2⟩ := List.getElem?_eq_some_iff.mp h
  rw [List.drop_eq_getElem_cons h1, h2]
structure Crossed (gs : Gs) (R ins : List Int) : Prop where
  S : ∃ S, Phi (edge gs) S ∧ (∀ x ∈ S, Live (edge gs) x) ∧ IsRing (edge gs) S R
  isIns : IsIns (edge gs) R ins
  two : 2 ≤ ins.length
  nd : ins.Nodup
theorem IsIns.of {gs : Gs} {L R ins : List Int} (hL : ∀ y, y ∈ L ↔ Live (edge gs) y) (h : ∀ x, x ∈ ins ↔ insOf gs L R x) : IsIns (edge gs) R ins := ⟨fun x => by
  rw [h x]
  unfold insOf
  constructor
  · rintro ⟨h1, ⟨y, h2, h3, h4⟩ | h2⟩
    · exact ⟨h1, .inl ⟨y, (hL y).mp h2, h3, h4⟩⟩
    · exact ⟨h1, .inr h2⟩
  · rintro ⟨h1, ⟨y, h2, h3, h4⟩ | h2⟩
    · exact ⟨h1, .inl ⟨y, (hL y).mpr h2, h3, h4⟩⟩
    · exact ⟨h1, .inr h2⟩⟩
def S_crossed_ring : Spec := fun args B own Q => own = [] ∧ ∃ (g la sa : Addr) (gs : Gs) (L S : List Int), args = [.ref g, .ref la, .ref sa] ∧ GoesAt B g gs ∧ B la = some (.list (L.map MV.int)) ∧ B sa = some (.list (S.map MV.int)) ∧ gs.length ≤ 1000 ∧ (∀ x ∈ L, 0 ≤ x ∧ x < gs.length) ∧ (∀ y, y ∈ L ↔ Live (edge gs) y) ∧ Okr gs L S ∧
  (¬ Cyc (edge gs) S → ∀ B', Sub0 B B' → Q .none B' []) ∧
  (∀ (ra : Addr) (R ins : List Int) (B' : MH), Sub0 B B' → B' ra = some (.list (R.map MV.int)) → R.Nodup → (∀ x ∈ R, x ∈ L) → R.length < 64 → Crossed gs R ins → Q (.ref ra) B' [])
theorem ct_crossed_ring (F : FnAt hb f i_crossed_ring) (hlim : hb.NoLimit) (h1 : FnC P w hb "rings_of" 2 S_rings_of) (h2 : FnC P w hb "entries" 1 S_entries) (glen : Gl hb "len" (.oth (.builtin "len"))) (gli : Gl hb "list" (.oth (.type "list"))) : Contract P w hb (.ref f) 3 S_crossed_ring := by
  refine Contract.of F hlim (by rintro args B own Q ⟨_, _, _, _, _, _, _, e, _⟩; subst e; rfl) ?_
  rintro C args B own Q F' ⟨rfl, g, la, sa, gs, L, S, rfl, hg, hla, hsa, hgl, hrg, hL, hS, hQn, hQs⟩
  show Sts C (bodyAt P i_crossed_ring) ⟨[(Str.ofString "goes", _), (Str.ofString "live", _), (Str.ofString "some", _)], B, []⟩ _
  refine Sts_cons ?_
  walk_at "m"
  intro l0 hl0
  refine Exs_frzs F' [(l0, _)] [] (fun _ _ h => nomatch h) fun B1 s1 g1 => ?_
  have q1 := g1 _ (.head _)
  dsimp only at q1
  clear g1 hl0
  walk_at "m"
  intro wa hwa
  walk_at "m"
  refine Stm_WhileC F' (fun k σ' => ∃ (B' : MH) (was : List Addr) (WL : List (List Int)), σ' = ⟨[(Str.ofString "goes", .ref g), (Str.ofString "live", .ref la), (Str.ofString "some", .ref sa), (Str.ofString "waiting", .ref wa)], B', [(wa, .list (was.map MV.ref))]⟩ ∧ k = mW WL ∧ mW WL ≤ 100 ∧ Sub0 B B' ∧ LsI B' was WL ∧ (∀ S ∈ WL, Okr gs L S) ∧ (Cyc (edge gs) S → ∃ S' ∈ WL, Cyc (edge gs) S')) ?_ _ ⟨_, .refl _, B1, [l0], [S], rfl, rfl, by simp only [mW]; have := hS.l64; omega, s1, .cons q1 .nil, fun S' h => by rw [List.mem_singleton.mp h]; exact hS, fun h => ⟨S, by simp, h⟩⟩
  clear hwa q1 s1
  rintro k σ' ⟨B1, was, WL, rfl, rfl, hmw, s1, hls, hok, hcyc⟩
  rcases List.eq_nil_or_concat was with rfl | ⟨was', a, rfl⟩
  · cases hls
    walk_at "m"
    refine if_neg' (by decide) ?_
    walk_at "m"
    refine ⟨_, .none, hQn (fun h => ?_) _ s1⟩
    obtain ⟨_, h', _⟩ := hcyc h
    cases h'
  · rw [List.concat_eq_append] at hls ⊢
    obtain ⟨WL', T, rfl, hls', hT⟩ := hls.unsnoc
    have hTok := hok T (by simp)
    rw [mW_snoc] at hmw ⊢
    rw [List.map_append]
    walk_at "m"
    refine if_pos' (by rw [List.length_append]; exact Int.ofNat_lt.mpr (Nat.succ_pos _)) ?_
    walk_at "m"
    refine Stm_ForC F' (fun _ => rfl) ?_
    walk_at "m"
    refine Ex_pop F' rfl rfl ?_
    walk_at "m"
    refine ⟨wa, was'.map MV.ref, .ref a, _, rfl, .head, ?_⟩
    walk_at "m"
    refine ⟨rfl, g, a, gs, T, rfl, hg.mono' s1, hT, hgl, hTok.nd, hTok.l64, fun x hx => hrg x (hTok.sub x hx), fun rl as RL B2 s2 hrl hras hR => ?_⟩
    dsimp only [List.nil_append]
    have hRl := hR.len
    refine ⟨as.map MV.ref, fun i σ' => ∃ (B' : MH) (was : List Addr) (WL : List (List Int)), σ' = ⟨[(Str.ofString "goes", .ref g), (Str.ofString "live", .ref la), (Str.ofString "some", .ref sa), (Str.ofString "waiting", .ref wa)], B', [(wa, .list (was.map MV.ref))]⟩ ∧ mW WL ≤ mW WL' + (RL.take i).flatten.length ∧ Sub0 B2 B' ∧ LsI B' was WL ∧ (∀ S ∈ WL, Okr gs L S) ∧ (Cyc (edge gs) S → (∃ S' ∈ WL, Cyc (edge gs) S') ∨ ∃ R ∈ RL.drop i, Cyc (edge gs) R), ⟨rl, rfl, .inl hrl⟩, ⟨_, .refl _, B2, was', WL', rfl, Nat.le_add_right _ _, Sub0.rfl' _, hls'.mono s2, fun S' h => hok S' (List.mem_append_left _ h), fun h => ?_⟩, ?_, ?_⟩
    · obtain ⟨S', h1, h2⟩ := hcyc h
      rcases List.mem_append.mp h1 with h1 | h1
      · exact .inl ⟨S', h1, h2⟩
      · obtain rfl := List.mem_singleton.mp h1
        exact .inr (h2.ring hR.all)
    · rintro C1 F1 i σ' m ⟨B3, was, WL, rfl, hm3, s3, hls3, hok3, hcyc3⟩ hm
      rw [List.getElem?_map] at hm
      obtain ⟨ra, hra, rfl⟩ := Option.map_eq_some_iff.mp hm
      obtain ⟨R, hRi, hRB⟩ := (hras.mono s3).get hra
      obtain ⟨hring, hR2, hRn⟩ := hR.ring R (List.mem_of_getElem? hRi)
      have hRT := len_sub R T hRn fun x hx => hring.sub hx
      have hR64 : R.length < 64 := Nat.lt_of_le_of_lt hRT hTok.l64
      have hRL : ∀ x ∈ R, x ∈ L := fun x hx => hTok.sub x (hring.sub hx)
      have s13 := s1.trans (s2.trans s3)
      walk_at "m"
      refine ⟨rfl, g, la, ra, gs, L, R, rfl, hg.mono' s13, s13 _ _ hla, hRB, hRn, hR64, hrg, fun ia ins B4 s4 hia hiso hin himem => ?_⟩
      have I := IsIns.of hL himem
      have hRB4 := s4 _ _ hRB
      walk_at "m"
      rw [List.length_map]
      refine if_dec (fun h2 => ?_) (fun h2 => ?_)
      · walk_at "m"
        exact ⟨_, .none, hQs ra R ins _ (s13.trans s4) hRB4 hRn hRL hR64 ⟨⟨T, hTok.phi, fun x hx => (hL x).mp (hTok.sub x hx), hring⟩, I, Int.ofNat_lt.mp h2, hin⟩⟩
      have hi1 : ins.length ≤ 1 := by omega
      walk_at "m"
      refine Ex_Comp F1 (by walk_at "m compok") (fun _ => rfl) ?_
      walk_at "m"
      refine ⟨R.map MV.int, fun j ys B' own' => own' = [(wa, .list (was.map MV.ref))] ∧ B' = B4 ∧ ∃ R' : List Int, ys = R'.map MV.int ∧ R'.Sublist (R.take j) ∧ ∀ y, y ∈ R' ↔ y ∈ R.take j ∧ y ∉ ins, ⟨ra, rfl, .inl hRB4⟩, by rw [List.length_map]; exact Nat.le_trans (Nat.le_of_lt hR64) (by unfold lim; decide), ⟨rfl, rfl, [], rfl, .slnil, by simp⟩, ?_, ?_⟩
      · rintro C2 F2 j ys B' own' m ⟨rfl, rfl, R', rfl, hsub, hiff⟩ hm
        rw [List.getElem?_map] at hm
        obtain ⟨y, hy, rfl⟩ := Option.map_eq_some_iff.mp hm
        have ht := take_snoc hy
        refine CTs_cons ?_
        walk_at "m cex"
        walk_at "m"
        refine if_ndec (fun hc => ?_) (fun hc => ?_)
        · walk_at "m"
          refine CTs_nil ?_
          refine if_tt ?_
          walk_at "m"
          refine ⟨_, .refl _, rfl, rfl, R' ++ [y], by rw [List.map_append]; rfl, by rw [ht]; exact hsub.append (.refl _), fun z => ?_⟩
          rw [ht, List.mem_append, List.mem_append, hiff z, List.mem_singleton]
          constructor
          · rintro (h | rfl)
            · exact ⟨.inl h.1, h.2⟩
            · exact ⟨.inr rfl, hc⟩
          · rintro ⟨h | h, h'⟩
            · exact .inl ⟨h, h'⟩
            · exact .inr h
        · walk_at "m"
          refine ⟨_, .refl _, rfl, rfl, R', rfl, by rw [ht]; exact hsub.trans (List.sublist_append_left ..), fun z => ?_⟩
          rw [ht, List.mem_append, hiff z, List.mem_singleton]
          constructor
          · exact fun h => ⟨.inl h.1, h.2⟩
          · rintro ⟨h | rfl, h'⟩
            · exact ⟨h, h'⟩
            · exact absurd hc h'
      rintro ys B' own' ⟨rfl, rfl, R', rfl, hsub, hiff⟩ na hna
      rw [List.length_map, List.take_length] at hsub hiff
      have hlive : ∀ x ∈ R, Live (edge gs) x := fun x hx => (hL x).mp (hRL x hx)
      have hRlt : R'.length < R.length := by
        obtain ⟨x, hx⟩ : ∃ x, x ∈ R := by
          cases R with
          | nil => simp at hR2
          | cons x _ => exact ⟨x, by simp⟩
        obtain ⟨e, rfl⟩ := I.one hi1 hx (hlive x hx)
        have heR : e ∈ R := ((I.mem e).mp (by simp)).1
        refine Nat.lt_of_le_of_ne hsub.length_le fun hh => ?_
        have := hsub.eq_of_length hh
        rw [← this] at heR
        exact ((hiff e).mp heR).2 (by simp)
      have hft := flat_take hRi
      have hfl := flat_le RL (i + 1)
      have hwl := mW_len WL
      have hal : (was.map MV.ref).length + 1 ≤ lim := by
        rw [List.length_map, hls3.length]
        exact lim_ok (n := 200) (by omega) (by decide)
      refine App2_i (.tail .head) hal ?_
      refine Sts_facts fun hfa _ => ?_
      have hna0 : B' na = none := hfa na (by simp)
      walk_at "m"
      have s5 := Sub0.set (o := .list (R'.map MV.int)) hna0
      rw [show was.map MV.ref ++ [MV.ref na] = (was ++ [na]).map MV.ref by rw [List.map_append]; rfl]
      refine ⟨_, .trans (.frz (fun h => nomatch h)) (.pre [_, _] rfl), _, was ++ [na], WL ++ [R'], rfl, ?_, s3.trans (s4.trans s5), (hls3.mono (s4.trans s5)).snoc setB_self, ?_, ?_⟩
      · rw [mW_snoc, hft]; omega
      · intro S' h
        rcases List.mem_append.mp h with h | h
        · exact hok3 S' h
        · obtain rfl := List.mem_singleton.mp h
          exact ⟨hsub.nodup hRn, Nat.lt_trans hRlt hR64, fun x hx => hRL x ((hiff x).mp hx).1, Phi.next I hi1 hlive hiff⟩
      · intro h
        rcases hcyc3 h with ⟨S', h1, h2⟩ | ⟨R2, h1, h2⟩
        · exact .inl ⟨S', List.mem_append_left _ h1, h2⟩
        · rw [drop_get hRi] at h1
          rcases List.mem_cons.mp h1 with rfl | h1
          · exact .inl ⟨R', by simp, Cyc.next I hi1 hlive hiff h2⟩
          · exact .inr ⟨R2, h1, h2⟩
    · rintro C1 F1 σ' ⟨B3, was, WL, rfl, hm3, s3, hls3, hok3, hcyc3⟩
      rw [List.length_map, hras.length, List.take_length] at hm3
      rw [List.length_map, hras.length, List.drop_length] at hcyc3
      walk_at "m"
      refine ⟨_, .refl _, mW WL, by omega, B3, was, WL, rfl, rfl, by omega, s1.trans (s2.trans s3), hls3, hok3, fun h => ?_⟩
      rcases hcyc3 h with h | ⟨_, h, _⟩
      · exact h
      · cases h
end
section
set_option autoImplicit false
set_option linter.unusedVariables false
set_option linter.unusedSimpArgs false
set_option maxRecDepth 100000
open PySem
variable {hb : Heap} {w : World} {f : Addr} {n : Nat}
theorem live_iff {rs : List Rw} (hok : RowsOk rs) {x : Int} : Rch (goTo rs) (inR rs []) 0 x ↔ Live (edge (gsOf rs)) x :=
  ⟨fun h => h.mono fun a b e o => ⟨((edge_goTo hok [] a b).mpr ⟨e, o⟩).1, trivial⟩, fun h => h.mono fun a b e _ => (edge_goTo hok [] a b).mp ⟨e, by simp⟩⟩
theorem edge_rng {rs : List Rw} (hok : RowsOk rs) {a b : Int} (h : edge (gsOf rs) a b) : 0 ≤ b ∧ b < rs.length := by
  obtain ⟨⟨_, r, hr, hn⟩, hi⟩ := (edge_goTo hok [] a b).mp ⟨h, by simp⟩
  exact ⟨(nx_rng hok hr hn).1, hi.1⟩
theorem live_rng {rs : List Rw} (hok : RowsOk rs) {x : Int} (h : Live (edge (gsOf rs)) x) : 0 ≤ x ∧ x < rs.length := by
  cases h with
  | refl => exact ⟨Int.le_refl _, Int.ofNat_lt.mpr hok.1⟩
  | step _ e _ => exact edge_rng hok e
theorem wk_of {rs : List Rw} (hok : RowsOk rs) {ok : Int → Prop} {wo : List Int} {s x : Int} (h : Rch (edge (gsOf rs)) ok s x) (hw : ∀ y, ok y → y ∉ wo) (hs : s ∉ wo) : ∃ k, Wk (goTo rs) (inR rs wo) (s ∉ wo) s k x := by
  induction h with
  | refl => exact ⟨0, .zero hs⟩
  | step _ e o ih =>
    obtain ⟨k, hk⟩ := ih
    have := (edge_goTo hok wo _ _).mp ⟨e, hw _ o⟩
    exact ⟨k + 1, .succ hk this.1 this.2⟩
structure WayP (rs : List Rw) (s g : Int) (p : List Int) : Prop where
  hd : p[0]? = some s
  lst : p[p.length - 1]? = some g
  lk : ∀ (i : Nat) (a b : Int), p[i]? = some a → p[i + 1]? = some b → goTo rs a b
  rng : ∀ x ∈ p, 0 ≤ x ∧ x < (rs.length : Nat)
  small : p.length ≤ rs.length
theorem IsWay.p {rs : List Rw} {wo : List Int} {s g : Int} {p : List Int} (h : IsWay rs wo s g p) : WayP rs s g p := ⟨h.hd, h.lst, h.lk, fun x hx => ⟨(h.rng x hx).1, (h.rng x hx).2.1⟩, h.small⟩
/-- what crossing tells where rows cross -/
structure Cross (rs : List Rw) (R : List Int) (one other : Int) (p1 p2 p3 p4 : List Int) : Prop where
  lt : one < other
  w1 : WayP rs 0 one p1
  w2 : WayP rs 0 other p2
  w3 : WayP rs one other p3
  w4 : WayP rs other one p4
  r1 : ∀ x ∈ p1, x ∈ R → x = one
  r2 : ∀ x ∈ p2, x ∈ R → x = other
  r3 : ∀ x ∈ p3, x ∈ R
  r4 : ∀ x ∈ p4, x ∈ R
def S_crossing : Spec := fun args B own Q => own = [] ∧ ∃ (b : Addr) (rs : List Rw), args = [.ref b] ∧ RowsAt B b rs ∧ RowsOk rs ∧
  (∀ (L : List Int) (B' : MH), Sub0 B B' → (∀ y, y ∈ L ↔ Live (edge (gsOf rs)) y) → ¬ Cyc (edge (gsOf rs)) L → Q .none B' []) ∧
  (∀ (t a1 a2 a3 a4 : Addr) (one other : Int) (R p1 p2 p3 p4 : List Int) (B' : MH), Sub0 B B' → B' t = some (.tup [.int one, .int other, .ref a1, .ref a2, .ref a3, .ref a4]) → B' a1 = some (.list (p1.map MV.int)) → B' a2 = some (.list (p2.map MV.int)) → B' a3 = some (.list (p3.map MV.int)) → B' a4 = some (.list (p4.map MV.int)) → Cross rs R one other p1 p2 p3 p4 → Q (.ref t) B' [])
theorem two_first {ins : List Int} (h2 : 2 ≤ ins.length) (hs : ins.Pairwise (· ≤ ·)) (hn : ins.Nodup) : ∃ one other, ins[0]? = some one ∧ ins[1]? = some other ∧ one < other := by
  match ins, h2, hs, hn with
  | a :: b :: r, _, hs, hn =>
    refine ⟨a, b, rfl, rfl, ?_⟩
    have h1 := (List.pairwise_cons.mp hs).1 b (by simp)
    have h3 : a ≠ b := fun e => (List.nodup_cons.mp hn).1 (by simp [e])
    omega
theorem mv_at {l : List Int} {i : Nat} {x : Int} (h : l[i]? = some x) : (l.map MV.int)[((i : Nat) : Int).toNat]? = some (.int x) := by rw [Int.toNat_natCast, List.getElem?_map, h]; rfl
theorem ct_crossing (F : FnAt hb f i_crossing) (hlim : hb.NoLimit) (h1 : FnC P w hb "need_rows" 4 S_need_rows) (h2 : FnC P w hb "goings" 2 S_goings) (h3 : FnC P w hb "live_rows" 3 S_live_rows) (h4 : FnC P w hb "crossed_ring" 3 S_crossed_ring) (h5 : FnC P w hb "entries" 1 S_entries) (h6 : FnC P w hb "way" 5 S_way) (glen : Gl hb "len" (.oth (.builtin "len"))) (gr : Gl hb "range" (.oth (.type "range"))) : Contract P w hb (.ref f) 6 S_crossing := by
  refine Contract.of F hlim (by rintro args B own Q ⟨_, _, _, e, _⟩; subst e; rfl) ?_
  rintro C args B own Q F' ⟨rfl, b, rs, rfl, hR, hok, hQn, hQs⟩
  show Sts C (bodyAt P i_crossing) ⟨[(Str.ofString "rows", _)], B, []⟩ _
  have h20 := hok.2.1
  refine Sts_cons ?_
  walk_at "m"
  refine ⟨rfl, _, _, rfl, hR, hok, ?_⟩
  walk_at "m"
  refine ⟨rfl, _, _, rfl, hR, h20, fun g B1 s1 hg => ?_⟩
  walk_at "m"
  refine ⟨rfl, _, _, rfl, hR.mono s1, hok, fun la L B2 s2 hla hLs hLn hLl hLm => ?_⟩
  replace hLm : ∀ y, y ∈ L ↔ Live (edge (gsOf rs)) y := fun y => (hLm y).trans (live_iff hok)
  have hLr : ∀ x ∈ L, 0 ≤ x ∧ x < (gsOf rs).length := fun x hx => by rw [length_gsOf]; exact live_rng hok ((hLm x).mp hx)
  have hgl : (gsOf rs).length ≤ 1000 := by rw [length_gsOf]; exact k20 h20
  walk_at "m"
  refine ⟨rfl, g, la, la, gsOf rs, L, L, rfl, hg.mono' s2, hla, hla, hgl, hLr, hLm, ⟨hLn, by omega, fun x h => h, Phi.live fun x hx => (hLm x).mpr hx⟩, fun hnc B3 s3 => ?_, fun ra R ins0 B3 s3 hra hRn hRL hR64 hX => ?_⟩
  · walk_at "m"
    exact ⟨_, .refl _, hQn L B3 (s1.trans (s2.trans s3)) hLm hnc⟩
  have s13 := s1.trans (s2.trans s3)
  walk_at "m"
  refine ⟨rfl, g, la, ra, gsOf rs, L, R, rfl, hg.mono' (s2.trans s3), s3 _ _ hla, hra, hRn, hR64, hLr, fun ia ins B4 s4 hia hiso hin himem => ?_⟩
  have I := IsIns.of hLm himem
  have hi2 : 2 ≤ ins.length := Nat.le_trans hX.two (len_sub _ _ hX.nd fun x hx => (I.mem x).mpr ((hX.isIns.mem x).mp hx))
  obtain ⟨one, other, ho1, ho2, hlt⟩ := two_first hi2 hiso hin
  obtain ⟨S, hphi, hSL, hring⟩ := hX.S
  have hone := List.mem_of_getElem? ho1
  have hoth := List.mem_of_getElem? ho2
  have hoR := ((I.mem one).mp hone).1
  have htR := ((I.mem other).mp hoth).1
  have wi1 := way_in hphi hSL hring I hone
  have wi2 := way_in hphi hSL hring I hoth
  have hr1 := hLr one (hRL one hoR)
  have hr2 := hLr other (hRL other htR)
  rw [length_gsOf] at hr1 hr2
  have hra4 := s4 _ _ hra
  have s14 := s13.trans s4
  have hR4 := hR.mono s14
  clear hphi hSL hX himem hiso hin hi2 hg hla
  walk_at "m"
  refine SubG_list (.inr hia) (by decide) (mv_at ho1) ?_
  walk_at "m"
  refine SubG_list (.inr hia) (by decide) (mv_at ho2) ?_
  walk_at "m"
  refine Stm_Comp F' (by walk_at "m compok") (fun _ => rfl) (swaps_yes F' rfl rfl (by decide)) ?_
  obtain ⟨as, hbB, hta⟩ := hR4
  have el : ((as.map MV.ref).length : Int) = (rs.length : Nat) := by simp [hta.1]
  walk_at "m"
  rw [el]
  refine Call_range (Int.natCast_nonneg _) (lim20 h20) fun rn => ?_
  rw [Int.toNat_natCast]
  refine ⟨(nums0 rs.length).map MV.int, fun j ys B' own' => own' = [(rn, .range rs.length)] ∧ B' = B4 ∧ ∃ out : List Int, ys = out.map MV.int ∧ ∀ y, y ∈ out ↔ y ∈ (nums0 rs.length).take j ∧ y ∉ R, ⟨rn, rfl, .inr (.inr ⟨_, .inl (.head _), (range_nums0 _).symm⟩)⟩, by rw [List.length_map, length_nums0]; exact lim20 h20, ⟨rfl, rfl, [], rfl, by simp⟩, ?_, ?_⟩
  · rintro C2 F2 j ys B' own' m ⟨rfl, rfl, out, rfl, hiff⟩ hm
    rw [List.getElem?_map] at hm
    obtain ⟨y, hy, rfl⟩ := Option.map_eq_some_iff.mp hm
    have ht := take_snoc hy
    refine CTs_cons ?_
    walk_at "m cex"
    walk_at "m"
    refine if_ndec (fun hc => ?_) (fun hc => ?_)
    · walk_at "m"
      refine CTs_nil ?_
      refine if_tt ?_
      walk_at "m"
      refine ⟨_, .refl _, rfl, rfl, out ++ [y], by rw [List.map_append]; rfl, fun z => ?_⟩
      rw [ht, List.mem_append, List.mem_append, hiff z, List.mem_singleton]
      constructor
      · rintro (h | rfl)
        · exact ⟨.inl h.1, h.2⟩
        · exact ⟨.inr rfl, hc⟩
      · rintro ⟨h | h, h'⟩
        · exact .inl ⟨h, h'⟩
        · exact .inr h
    · walk_at "m"
      refine ⟨_, .refl _, rfl, rfl, out, rfl, fun z => ?_⟩
      rw [ht, List.mem_append, hiff z, List.mem_singleton]
      constructor
      · exact fun h => ⟨.inl h.1, h.2⟩
      · rintro ⟨h | rfl, h'⟩
        · exact ⟨h, h'⟩
        · exact absurd hc h'
  rintro ys B' own' ⟨rfl, rfl, out, rfl, hout⟩ C2 F2 oa hoa
  rw [List.length_map, List.take_length] at hout
  refine Store_frzs F2 [(oa, _), (rn, _)] [] (fun _ _ h => nomatch h) fun B5 s5 g5 => ?_
  have q5 := g5 _ (.head _)
  dsimp only at q5
  clear g5 hoa
  have hra5 := s5 _ _ hra4
  have hbB5 := s5 _ _ hbB
  have hta5 := hta.mono s5
  have s15 := s14.trans s5
  have side : ∀ (x : Int) (C2 : Cx) (B' : MH) (ifs : List Expr) (elt : Expr), True := fun _ _ _ _ _ => trivial
  clear side
  walk_at "m"
  refine Ex_Comp F' (by walk_at "m compok") (fun _ => rfl) ?_
  walk_at "m"
  refine ⟨R.map MV.int, fun j ys B' own' => own' = [] ∧ B' = B5 ∧ ∃ wo : List Int, ys = wo.map MV.int ∧ ∀ y, y ∈ wo ↔ y ∈ R.take j ∧ y ≠ one, ⟨ra, rfl, .inl hra5⟩, by rw [List.length_map]; exact Nat.le_trans (Nat.le_of_lt hR64) (by unfold lim; decide), ⟨rfl, rfl, [], rfl, by simp⟩, ?_, ?_⟩
  · rintro C3 F3 j ys B' own' m ⟨rfl, rfl, wo, rfl, hiff⟩ hm
    rw [List.getElem?_map] at hm
    obtain ⟨y, hy, rfl⟩ := Option.map_eq_some_iff.mp hm
    have ht := take_snoc hy
    refine CTs_cons ?_
    walk_at "m cex"
    walk_at "m"
    refine if_ndec (fun hc => ?_) (fun hc => ?_)
    · walk_at "m"
      refine CTs_nil ?_
      refine if_tt ?_
      walk_at "m"
      refine ⟨_, .refl _, rfl, rfl, wo ++ [y], by rw [List.map_append]; rfl, fun z => ?_⟩
      rw [ht, List.mem_append, List.mem_append, hiff z, List.mem_singleton]
      constructor
      · rintro (h | rfl)
        · exact ⟨.inl h.1, h.2⟩
        · exact ⟨.inr rfl, hc⟩
      · rintro ⟨h | h, h'⟩
        · exact .inl ⟨h, h'⟩
        · exact .inr h
    · walk_at "m"
      refine ⟨_, .refl _, rfl, rfl, wo, rfl, fun z => ?_⟩
      rw [ht, List.mem_append, hiff z, List.mem_singleton]
      constructor
      · exact fun h => ⟨.inl h.1, h.2⟩
      · rintro ⟨h | rfl, h'⟩
        · exact ⟨h, h'⟩
        · exact absurd hc h'
  rintro ys B' own' ⟨rfl, rfl, wo1, rfl, hwo1⟩ wa1 hwa1
  rw [List.length_map, List.take_length] at hwo1
  refine Exs_frzs F' [(wa1, _)] [] (fun _ _ h => nomatch h) fun B6 s6 g6 => ?_
  have q6 := g6 _ (.head _)
  dsimp only at q6
  clear g6 hwa1
  walk_at "m"
  refine ⟨rfl, b, wa1, 0, one, rs, wo1, rfl, RowsAt.mono ⟨as, hbB5, hta5⟩ s6, hok, q6, Int.le_refl _, Int.ofNat_lt.mpr hok.1, hr1.1, hr1.2, fun hno => ?_, fun a1 p1 B7 s7 ha1 W1 => ?_⟩
  · obtain ⟨k, hk⟩ := wk_of hok wi1.2 (wo := wo1) (fun y hy h => ((hwo1 y).mp h).2 (hy ((hwo1 y).mp h).1)) fun h => ((hwo1 0).mp h).2 (wi1.1 ((hwo1 0).mp h).1)
    exact absurd hk (hno k)
  have s67 := s6.trans s7
  have hra7 := s67 _ _ hra5
  have hbB7 := s67 _ _ hbB5
  have hta7 := hta5.mono s67
  have q7 := s67 _ _ q5
  have s17 := s15.trans s67
  clear s67 s6 s7 q6 q5 hra5 hbB5 hta5 s15
  walk_at "m"
  refine Ex_Comp F' (by walk_at "m compok") (fun _ => rfl) ?_
  walk_at "m"
  refine ⟨R.map MV.int, fun j ys B' own' => own' = [] ∧ B' = B7 ∧ ∃ wo : List Int, ys = wo.map MV.int ∧ ∀ y, y ∈ wo ↔ y ∈ R.take j ∧ y ≠ other, ⟨ra, rfl, .inl hra7⟩, by rw [List.length_map]; exact Nat.le_trans (Nat.le_of_lt hR64) (by unfold lim; decide), ⟨rfl, rfl, [], rfl, by simp⟩, ?_, ?_⟩
  · rintro C3 F3 j ys B' own' m ⟨rfl, rfl, wo, rfl, hiff⟩ hm
    rw [List.getElem?_map] at hm
    obtain ⟨y, hy, rfl⟩ := Option.map_eq_some_iff.mp hm
    have ht := take_snoc hy
    refine CTs_cons ?_
    walk_at "m cex"
    walk_at "m"
    refine if_ndec (fun hc => ?_) (fun hc => ?_)
    · walk_at "m"
      refine CTs_nil ?_
      refine if_tt ?_
      walk_at "m"
      refine ⟨_, .refl _, rfl, rfl, wo ++ [y], by rw [List.map_append]; rfl, fun z => ?_⟩
      rw [ht, List.mem_append, List.mem_append, hiff z, List.mem_singleton]
      constructor
      · rintro (h | rfl)
        · exact ⟨.inl h.1, h.2⟩
        · exact ⟨.inr rfl, hc⟩
      · rintro ⟨h | h, h'⟩
        · exact .inl ⟨h, h'⟩
        · exact .inr h
    · walk_at "m"
      refine ⟨_, .refl _, rfl, rfl, wo, rfl, fun z => ?_⟩
      rw [ht, List.mem_append, hiff z, List.mem_singleton]
      constructor
      · exact fun h => ⟨.inl h.1, h.2⟩
      · rintro ⟨h | rfl, h'⟩
        · exact ⟨h, h'⟩
        · exact absurd hc h'
  rintro ys B' own' ⟨rfl, rfl, wo2, rfl, hwo2⟩ wa2 hwa2
  rw [List.length_map, List.take_length] at hwo2
  refine Exs_frzs F' [(wa2, _)] [] (fun _ _ h => nomatch h) fun B8 s8 g8 => ?_
  have q8 := g8 _ (.head _)
  dsimp only at q8
  clear g8 hwa2
  walk_at "m"
  refine ⟨rfl, b, wa2, 0, other, rs, wo2, rfl, RowsAt.mono ⟨as, hbB7, hta7⟩ s8, hok, q8, Int.le_refl _, Int.ofNat_lt.mpr hok.1, hr2.1, hr2.2, fun hno => ?_, fun a2 p2 B9 s9 ha2 W2 => ?_⟩
  · obtain ⟨k, hk⟩ := wk_of hok wi2.2 (wo := wo2) (fun y hy h => ((hwo2 y).mp h).2 (hy ((hwo2 y).mp h).1)) fun h => ((hwo2 0).mp h).2 (wi2.1 ((hwo2 0).mp h).1)
    exact absurd hk (hno k)
  have s89 := s8.trans s9
  have hbB9 := s89 _ _ hbB7
  have hta9 := hta7.mono s89
  have q9 := s89 _ _ q7
  replace ha1 := s89 _ _ ha1
  have s19 := s17.trans s89
  have hin : ∀ {x y : Int}, x ∈ R → y ∈ R → ∃ k, Wk (goTo rs) (inR rs out) (x ∉ out) x k y := fun {x y} hx hy =>
    wk_of hok (hring.inside hx hy) (fun z hz h => ((hout z).mp h).2 hz) fun h => ((hout x).mp h).2 hx
  have hinR : ∀ (p : List Int) (s t : Int), IsWay rs out s t p → ∀ x ∈ p, x ∈ R := fun p s t W x hx => by
    have := W.rng x hx
    refine Classical.byContradiction fun h => this.2.2 ((hout x).mpr ⟨mem_nums0.mpr ⟨this.1, this.2.1⟩, h⟩)
  clear s89 s8 s9 q8 q7 hra7 hbB7 hta7 s17
  walk_at "m"
  refine ⟨rfl, b, oa, one, other, rs, out, rfl, ⟨as, hbB9, hta9⟩, hok, q9, hr1.1, hr1.2, hr2.1, hr2.2, fun hno => ?_, fun a3 p3 B10 s10 ha3 W3 => ?_⟩
  · obtain ⟨k, hk⟩ := hin hoR htR
    exact absurd hk (hno k)
  walk_at "m"
  refine ⟨rfl, b, oa, other, one, rs, out, rfl, RowsAt.mono ⟨as, hbB9, hta9⟩ s10, hok, s10 _ _ q9, hr2.1, hr2.2, hr1.1, hr1.2, fun hno => ?_, fun a4 p4 B11 s11 ha4 W4 => ?_⟩
  · obtain ⟨k, hk⟩ := hin htR hoR
    exact absurd hk (hno k)
  walk_at "m"
  intro t ht
  have s12 := Sub0.set (o := .tup [.int one, .int other, .ref a1, .ref a2, .ref a3, .ref a4]) ht.B
  refine ⟨_, .frz ht.md, hQs t a1 a2 a3 a4 one other R p1 p2 p3 p4 _ (s19.trans (s10.trans (s11.trans s12))) setB_self ((s10.trans (s11.trans s12)) _ _ ha1) ((s10.trans (s11.trans s12)) _ _ ha2) ((s11.trans s12) _ _ ha3) (s12 _ _ ha4) ⟨hlt, W1.p, W2.p, W3.p, W4.p, fun x hx hxR => ?_, fun x hx hxR => ?_, hinR p3 _ _ W3, hinR p4 _ _ W4⟩⟩
  · exact Classical.byContradiction fun h => (W1.rng x hx).2.2 ((hwo1 x).mpr ⟨hxR, h⟩)
  · exact Classical.byContradiction fun h => (W2.rng x hx).2.2 ((hwo2 x).mpr ⟨hxR, h⟩)
end
section
set_option autoImplicit false
set_option linter.unusedVariables false
set_option linter.unusedSimpArgs false
set_option maxRecDepth 100000
open PySem
variable {hb : Heap} {w : World} {f : Addr} {n : Nat}
theorem swaps_no {C : Cx} {prog : Program} {sc cs : Scope} {md : List Addr} {fl : Bool} {elt : Expr} {gens : List Comprehension} {y : Str} {py pos : Pos} {ln : Nat} (F : Fx C hb prog w sc n md fl) (hk : sc.names.lookup y = some .cell) :
    swapsWith (.ListComp elt gens cs pos) (some (.Name y py)) ln C.env = pure false := by
  have hv : (C.env.kindOf y == some NameKind.local) = false := by rw [F.kind hk]; rfl
  show (pure (C.env.blockKind == .function && C.env.kindOf y == some .local && py.line == pos.line && !(cs.names.any fun p => p.1 == y && (p.2 == .local || p.2 == .cell))) : Sem Bool) = pure false
  rw [hv, Bool.and_false]; rfl
theorem ct_law_after (F : FnAt hb f i_law_after) (hlim : hb.NoLimit) : Contract P w hb (.ref f) (n + 1) S_law_ahead := by
  refine Contract.of F hlim (by rintro args B own Q ⟨_, _, _, e, _⟩; subst e; rfl) ?_
  rintro C args B own Q F' ⟨rfl, c, r, rfl, hc, hQ⟩
  show Sts C (bodyAt P i_law_after) ⟨[(Str.ofString "_law_row", _)], B, []⟩ _
  refine Sts_cons ?_
  walk_at "m"
  cases hadd : r.add with
  | true =>
    refine if_neg' (by rw [word_add hadd]; exact ofString_ne (by decide)) ?_
    walk_at "m"
    intro a ha
    rw [show [MV.int r.y] = r.nx.map MV.int from by simp [Rw.nx, hadd]]
    exact ⟨_, .frz ha.md, hQ a ha.B⟩
  | false =>
    refine if_pos' (word_more hadd) ?_
    walk_at "m"
    intro a ha
    rw [show [MV.int r.z, MV.int r.y] = r.nx.map MV.int from by simp [Rw.nx, hadd]]
    exact ⟨_, .frz ha.md, hQ a ha.B⟩
/-! each with its list -/
inductive OnAt (B : MH) (W : Int → Int → Prop) : List Addr → List Int → Prop
  | nil : OnAt B W [] []
  | cons {a : Addr} {x : Int} {l : List Int} {as : List Addr} {xs : List Int} : B a = some (.list (l.map MV.int)) → (∀ z, z ∈ l ↔ W x z) → l.length ≤ 2 → OnAt B W as xs → OnAt B W (a :: as) (x :: xs)
theorem OnAt.mono {B B' : MH} {W : Int → Int → Prop} (s : Sub0 B B') : ∀ {as : List Addr} {xs : List Int}, OnAt B W as xs → OnAt B' W as xs
  | _, _, .nil => .nil
  | _, _, .cons h1 h2 h3 h => .cons (s _ _ h1) h2 h3 (h.mono s)
theorem OnAt.snoc {B : MH} {W : Int → Int → Prop} {a : Addr} {x : Int} {l : List Int} (h1 : B a = some (.list (l.map MV.int))) (h2 : ∀ z, z ∈ l ↔ W x z) (h3 : l.length ≤ 2) : ∀ {as : List Addr} {xs : List Int}, OnAt B W as xs → OnAt B W (as ++ [a]) (xs ++ [x])
  | _, _, .nil => .cons h1 h2 h3 .nil
  | _, _, .cons g1 g2 g3 g => .cons g1 g2 g3 (g.snoc h1 h2 h3)
theorem OnAt.kv {B : MH} {W : Int → Int → Prop} {a : Addr} {x : Int} : ∀ {as : List Addr} {xs : List Int}, OnAt B W as xs → bhKV (xs ++ [x]) (as ++ [a]) = bhKV xs as ++ [(some x, .ref a)]
  | _, _, .nil => rfl
  | _, _, .cons _ _ _ h => by rw [List.cons_append, List.cons_append, bhKV, h.kv]; rfl
theorem OnAt.keys {B : MH} {W : Int → Int → Prop} : ∀ {as : List Addr} {xs : List Int}, OnAt B W as xs → (bhKV xs as).map (·.1) = xs.map some
  | _, _, .nil => rfl
  | _, _, .cons _ _ _ h => by rw [bhKV, List.map_cons, h.keys]; rfl
theorem OnAt.get {B : MH} {W : Int → Int → Prop} : ∀ {as : List Addr} {xs : List Int}, OnAt B W as xs → ∀ {x : Int}, x ∈ xs → ∃ (a : Addr) (l : List Int), dget (bhKV xs as) (some x) = some (.ref a) ∧ B a = some (.list (l.map MV.int)) ∧ (∀ z, z ∈ l ↔ W x z) ∧ l.length ≤ 2
  | _, _, .nil, x, h => by simp at h
  | _, _, .cons (x := y) (a := a) g1 g2 g3 g, x, h => by
    unfold bhKV dget
    by_cases e : y = x
    · subst e
      exact ⟨a, _, if_pos rfl, g1, g2, g3⟩
    · rcases List.mem_cons.mp h with h | h
      · exact absurd h.symm e
      · obtain ⟨a', l, h1, h2, h3⟩ := g.get h
        exact ⟨a', l, by rw [if_neg (fun h => e (Option.some.inj h))]; exact h1, h2, h3⟩
def WithAt (B : MH) (ds : List Addr) (rs : List Rw) (m : Nat) : Prop := ds.length = m ∧ ∀ (i : Nat) (d : Addr), ds[i]? = some d → ∃ found : List Int, B d = some (.dict (tks found)) ∧ ∀ a, a ∈ found ↔ Rv (edge (gsOf rs)) [(i : Int)] a
theorem WithAt.mono {B B' : MH} {ds : List Addr} {rs : List Rw} {m : Nat} (h : WithAt B ds rs m) (s : Sub0 B B') : WithAt B' ds rs m := ⟨h.1, fun i d h1 => let ⟨fo, h2, h3⟩ := h.2 i d h1; ⟨fo, s _ _ h2, h3⟩⟩
theorem WithAt.snoc {B : MH} {ds : List Addr} {rs : List Rw} {m : Nat} {d : Addr} {found : List Int} (h : WithAt B ds rs m) (hc : B d = some (.dict (tks found))) (hf : ∀ a, a ∈ found ↔ Rv (edge (gsOf rs)) [(m : Int)] a) : WithAt B (ds ++ [d]) rs (m + 1) := by
  refine ⟨by simp [h.1], fun i c h1 => ?_⟩
  by_cases hi : i < ds.length
  · rw [List.getElem?_append_left hi] at h1
    exact h.2 i c h1
  · rw [List.getElem?_append_right (by omega)] at h1
    have hl := h.1
    have e : i - ds.length = 0 := by
      have := (List.getElem?_eq_some_iff.mp h1).1
      simp at this; omega
    rw [e] at h1
    simp at h1
    subst h1
    have : i = m := by omega
    subst this
    exact ⟨found, hc, hf⟩
theorem rv_iff {rs : List Rw} (hok : RowsOk rs) {wo : List Int} {x : Int} : (0 ∉ wo ∧ Rch (goTo rs) (inR rs wo) 0 x) ↔ Rv (edge (gsOf rs)) wo x :=
  ⟨fun h => ⟨h.1, h.2.mono fun a b e o => (edge_goTo hok wo a b).mpr ⟨e, o⟩⟩, fun h => ⟨h.1, h.2.mono fun a b e o => (edge_goTo hok wo a b).mp ⟨e, o⟩⟩⟩
abbrev Fw (rs : List Rw) : Int → Int → Prop := fw (edge (gsOf rs))
def S_law_onward : Spec := fun args B own Q => own = [] ∧ ∃ (b : Addr) (rs : List Rw), args = [.ref b] ∧ RowsAt B b rs ∧ RowsOk rs ∧
  ∀ (d : Addr) (L : List Int) (ls : List Addr) (B' : MH), Sub0 B B' → B' d = some (.dict (bhKV L ls)) → L.Nodup → L.length ≤ rs.length → (∀ y, y ∈ L ↔ Live (edge (gsOf rs)) y) → OnAt B' (Fw rs) ls L → Q (.ref d) B' []
theorem nx_len (r : Rw) : r.nx.length ≤ 2 := by unfold Rw.nx; split <;> simp
theorem ct_law_onward (F : FnAt hb f i_law_onward) (hlim : hb.NoLimit) (h1 : FnC P w hb "_law_come" 1 S_law_come) (h2 : FnC P w hb "_law_after" 1 S_law_ahead) (glen : Gl hb "len" (.oth (.builtin "len"))) (gr : Gl hb "range" (.oth (.type "range"))) : Contract P w hb (.ref f) 2 S_law_onward := by
  refine Contract.of F hlim (by rintro args B own Q ⟨_, _, _, e, _⟩; subst e; rfl) ?_
  rintro C args B own Q F' ⟨rfl, b, rs, rfl, ⟨as, hb1, ht⟩, hok, hQ⟩
  show Sts C (bodyAt P i_law_onward) ⟨[(Str.ofString "_law_rows", _)], B, []⟩ _
  have h20 := hok.2.1
  have el : ((as.map MV.ref).length : Int) = (rs.length : Nat) := by simp [ht.1]
  refine Sts_cons ?_
  refine Stm_Assign (swaps_no F' rfl) ?_
  refine Ex_Comp F' (by walk_at "m compok") (fun _ => rfl) ?_
  walk_at "m"
  rw [el]
  refine Call_range (Int.natCast_nonneg _) (lim20 h20) fun ra => ?_
  rw [Int.toNat_natCast]
  refine ⟨_, fun i ys B' own' => own' = [(ra, .range rs.length)] ∧ Sub0 B B' ∧ ∃ ds, ys = ds.map MV.ref ∧ WithAt B' ds rs i, ⟨ra, rfl, .inr (.inr ⟨_, .inl (.head _), (range_nums0 _).symm⟩)⟩, by rw [List.length_map, length_nums0]; exact lim20 h20, ⟨rfl, Sub0.rfl' _, [], rfl, rfl, by simp⟩, ?_, ?_⟩
  · rintro C' F2 i ys B' own' m ⟨rfl, hs, ds, rfl, hd⟩ hm
    rw [List.getElem?_map] at hm
    obtain ⟨z, hz, rfl⟩ := Option.map_eq_some_iff.mp hm
    obtain ⟨hi, rfl⟩ := get_nums0 hz
    refine CTs_nil ?_
    dsimp only
    refine if_tt ?_
    walk_at "m cex"
    walk_at "m"
    intro la hla
    refine Exs_frzs F2 [(la, _)] _ (fun _ _ h => nomatch h) fun B2 s2 g2 => ?_
    have q2 := g2 _ (.head _)
    dsimp only at q2
    walk_at "m"
    refine ⟨rfl, b, la, 0, rs, [(i : Int)], rfl, RowsAt.mono ⟨as, hb1, ht⟩ (hs.trans s2), hok, q2, Int.le_refl _, Int.ofNat_lt.mpr hok.1, fun found _ hfo _ d B3 hs3 hd3 => ?_⟩
    refine ⟨_, .refl _, rfl, hs.trans (s2.trans hs3), ds ++ [d], by rw [List.map_append]; rfl, ?_⟩
    exact (hd.mono (s2.trans hs3)).snoc hd3 fun a => (hfo a).trans (rv_iff hok)
  rintro ys B1 own' ⟨rfl, s1, ds, rfl, hd⟩ wa hwa
  rw [List.length_map, length_nums0] at hd
  refine Store_frzs F' [(wa, _), (ra, _)] [] (fun _ _ h => nomatch h) fun B2 s2 g2 => ?_
  have q2 := g2 _ (.head _)
  dsimp only at q2
  clear g2 hwa
  have hd2 := hd.mono s2
  have s12 := s1.trans s2
  have hb2 := s12 _ _ hb1
  have ht2 := ht.mono s12
  walk_at "m"
  refine Ex_Dict0 F' hlim fun fd hfd => ?_
  walk_at "m"
  refine Stm_ForC F' (fun _ => rfl) ?_
  walk_at "m"
  intro la hla
  refine Exs_frzs F' [(la, _)] _ (fun _ _ h => nomatch h) fun B3 s3 g3 => ?_
  have q3 := g3 _ (.head _)
  dsimp only at q3
  clear g3 hla
  walk_at "m"
  refine ⟨rfl, b, la, 0, rs, [], rfl, RowsAt.mono ⟨as, hb2, ht2⟩ s3, hok, q3, Int.le_refl _, Int.ofNat_lt.mpr hok.1, fun L hLn hLm hLr d B4 s4 hd4 => ?_⟩
  have s34 := s3.trans s4
  have q4 := s34 _ _ q2
  have hd4' := hd2.mono s34
  have hb4 := s34 _ _ hb2
  have ht4 := ht2.mono s34
  have hLl : L.length ≤ rs.length := length_le_of_nodup _ L hLn hLr
  replace hLm : ∀ y, y ∈ L ↔ Live (edge (gsOf rs)) y := fun y => (hLm y).trans ((and_iff_right (by simp)).trans (live_iff hok))
  dsimp only [List.nil_append]
  refine ⟨L.map MV.int, fun i σ' => ∃ (B' : MH) (ls : List Addr), σ' = ⟨[(Str.ofString "_law_rows", .ref b), (Str.ofString "_law_without", .ref wa), (Str.ofString "_law_found", .ref fd)], B', [(fd, .dict (bhKV (L.take i) ls))]⟩ ∧ Sub0 B4 B' ∧ OnAt B' (Fw rs) ls (L.take i), ⟨d, rfl, .inr (.inl (.inr ⟨_, hd4, (tks_mv L).symm⟩))⟩, ⟨_, .refl _, B4, [], rfl, Sub0.rfl' _, .nil⟩, ?_, ?_⟩
  · rintro C2 F2 i σ' m ⟨B5, ls, rfl, s5, hon⟩ hm
    rw [List.getElem?_map] at hm
    obtain ⟨x, hx, rfl⟩ := Option.map_eq_some_iff.mp hm
    have hxL := List.mem_of_getElem? hx
    obtain ⟨hx0, hx1⟩ := hLr x hxL
    obtain ⟨r, hr⟩ := get_in (l := rs) hx0 hx1
    have hb5 := s5 _ _ hb4
    have q5 := s5 _ _ q4
    obtain ⟨c, hc1, hc2⟩ := (ht4.mono s5).get hr
    walk_at "m"
    refine Ex_Comp F2 (by walk_at "m compok") (fun _ => rfl) ?_
    walk_at "m"
    refine SubG_list (.inr hb5) hx0 (m := .ref c) (by rw [List.getElem?_map, hc1]; rfl) ?_
    walk_at "m"
    refine ⟨rfl, c, r, rfl, hc2, fun na hna => ?_⟩
    have s6 := Sub0.set (o := .list (r.nx.map MV.int)) hna
    have q6 := setB_self (B := B5) (a := na) (o := .list (r.nx.map MV.int))
    generalize setB B5 na (.list (r.nx.map MV.int)) = B6 at s6 q6 ⊢
    dsimp only [List.nil_append]
    have hb6 := s6 _ _ hb5
    have q56 := s6 _ _ q5
    have hd6 := hd4'.mono (s5.trans s6)
    refine ⟨r.nx.map MV.int, fun j ys B' own' => own' = [(fd, .dict (bhKV (L.take i) ls))] ∧ B' = B6 ∧ ∃ l : List Int, ys = l.map MV.int ∧ l.Sublist (r.nx.take j) ∧ ∀ z, z ∈ l ↔ z ∈ r.nx.take j ∧ z < rs.length ∧ Rv (edge (gsOf rs)) [z] x, ⟨na, rfl, .inl q6⟩, by rw [List.length_map]; exact Nat.le_trans (nx_len r) (by unfold lim; decide), ⟨rfl, rfl, [], rfl, .slnil, by simp⟩, ?_, ?_⟩
    · rintro C3 F3 j ys B' own' m ⟨rfl, rfl, l, rfl, hsub, hiff⟩ hm
      rw [List.getElem?_map] at hm
      obtain ⟨y, hy, rfl⟩ := Option.map_eq_some_iff.mp hm
      have hyn := nx_rng hok hr (List.mem_of_getElem? hy)
      have hty := take_snoc hy
      refine CTs_cons ?_
      walk_at "m cex"
      walk_at "m"
      rw [el]
      refine if_dec (fun hc => ?_) (fun hc => ?_)
      · obtain ⟨wd, hwd⟩ := get_in (l := ds) hyn.1 (by rw [hd6.1]; exact hc)
        obtain ⟨fo, hfoB, hfom⟩ := hd6.2 _ _ hwd
        rw [Int.toNat_of_nonneg hyn.1] at hfom
        walk_at "m"
        refine SubG_list (.inr q56) hyn.1 (m := .ref wd) (by rw [List.getElem?_map, hwd]; rfl) ?_
        walk_at "m"
        rw [dget_tks]
        refine if_dec (fun hc2 => ?_) (fun hc2 => ?_)
        · walk_at "m"
          refine CTs_nil ?_
          refine if_tt ?_
          walk_at "m"
          refine ⟨_, .refl _, rfl, rfl, l ++ [y], by rw [List.map_append]; rfl, by rw [hty]; exact hsub.append (.refl _), fun z => ?_⟩
          rw [hty, List.mem_append, List.mem_append, hiff z, List.mem_singleton]
          constructor
          · rintro (h | rfl)
            · exact ⟨.inl h.1, h.2⟩
            · exact ⟨.inr rfl, hc, (hfom x).mp hc2⟩
          · rintro ⟨h | h, h'⟩
            · exact .inl ⟨h, h'⟩
            · exact .inr h
        · walk_at "m"
          refine ⟨_, .refl _, rfl, rfl, l, rfl, by rw [hty]; exact hsub.trans (List.sublist_append_left ..), fun z => ?_⟩
          rw [hty, List.mem_append, hiff z, List.mem_singleton]
          constructor
          · exact fun h => ⟨.inl h.1, h.2⟩
          · rintro ⟨h | rfl, h'⟩
            · exact ⟨h, h'⟩
            · exact absurd ((hfom x).mpr h'.2) hc2
      · walk_at "m"
        refine ⟨_, .refl _, rfl, rfl, l, rfl, by rw [hty]; exact hsub.trans (List.sublist_append_left ..), fun z => ?_⟩
        rw [hty, List.mem_append, hiff z, List.mem_singleton]
        constructor
        · exact fun h => ⟨.inl h.1, h.2⟩
        · rintro ⟨h | rfl, h'⟩
          · exact ⟨h, h'⟩
          · exact absurd h'.1 hc
    rintro ys B' own' ⟨rfl, rfl, l, rfl, hsub, hiff⟩ va hva
    rw [List.length_map, List.take_length] at hsub hiff
    have htx := take_snoc hx
    have hnew : (some x : Option Int) ∉ (bhKV (L.take i) ls).map (·.1) := by
      rw [hon.keys]
      intro h
      obtain ⟨x', h1, h2⟩ := List.mem_map.mp h
      cases h2
      have hn2 := hLn
      rw [← List.take_append_drop (i + 1) L, htx] at hn2
      exact (List.nodup_append.mp (List.nodup_append.mp hn2).1).2.2 x h1 x (by simp) rfl
    have hln : (bhKV (L.take i) ls).length + 1 ≤ lim := by
      have e1 := congrArg List.length hon.keys
      rw [List.length_map, List.length_map] at e1
      rw [e1]
      exact lim_ok (n := 20) (by rw [List.length_take]; omega) (by decide)
    walk_at "m"
    refine SetG_dicti F2 (.tail .head) hln ?_
    refine Sts_facts fun hfa _ => ?_
    have hva0 : B' va = none := hfa va (by simp)
    walk_at "m"
    have s7 := Sub0.set (o := .list (l.map MV.int)) hva0
    rw [dput_new hnew, ← (hon.kv (a := va) (x := x)), ← htx]
    refine ⟨_, .trans (.frz (fun h => nomatch h)) (.pre [_] rfl), _, ls ++ [va], rfl, s5.trans (s6.trans s7), ?_⟩
    rw [htx]
    refine (hon.mono (s6.trans s7)).snoc setB_self (fun z => ?_) (Nat.le_trans hsub.length_le (nx_len r))
    rw [hiff z]
    constructor
    · rintro ⟨g1, g2, g3⟩
      exact ⟨((edge_goTo hok [] x z).mpr ⟨⟨hx0, r, hr, g1⟩, g2, by simp⟩).1, g3⟩
    · rintro ⟨g1, g2⟩
      obtain ⟨⟨_, r', hr', hz⟩, g3⟩ := (edge_goTo hok [] x z).mp ⟨g1, by simp⟩
      rw [hr] at hr'; cases hr'
      exact ⟨hz, g3.1, g2⟩
  · rintro C2 F2 σ' ⟨B5, ls, rfl, s5, hon⟩
    rw [List.length_map, List.take_length] at hon ⊢
    refine Sts_facts fun hfa _ => ?_
    have hfd0 : B5 fd = none := hfa fd (by simp)
    walk_at "m"
    refine ⟨_, .frz (fun h => nomatch h), hQ fd L ls _ ((s12.trans (s34.trans s5)).trans (Sub0.set hfd0)) setB_self hLn hLl hLm (hon.mono (Sub0.set hfd0))⟩
end
section
set_option autoImplicit false
set_option linter.unusedVariables false
set_option linter.unusedSimpArgs false
set_option maxRecDepth 100000
open PySem
variable {hb : Heap} {w : World} {f : Addr} {n : Nat}
/-! what is come to by steps that do not go back -/
structure SI (G : Int → Int → Prop) (L : List Int) (x : Int) (seen W : List Int) : Prop where
  snd : ∀ y, y ∈ seen ∨ y ∈ W → Pl G L x y
  fst : ∀ z, fw G x z → z ∈ seen ∨ z ∈ W
  cl : ∀ y ∈ seen, ∀ z, fw G y z → z ∈ seen ∨ z ∈ W
  nd : seen.Nodup
theorem Pl.mem {G : Int → Int → Prop} {L : List Int} {x y : Int} (h : Pl G L x y) : y ∈ L := by cases h with | one _ o => exact o | step _ _ o => exact o
theorem SI.init {G : Int → Int → Prop} {L l : List Int} {x : Int} (hl : ∀ z, z ∈ l ↔ fw G x z) (hL : ∀ z, fw G x z → z ∈ L) : SI G L x [] l where
  snd := fun y h => h.elim (fun h => nomatch h) fun h => .one ((hl y).mp h) (hL y ((hl y).mp h))
  fst := fun z h => .inr ((hl z).mpr h)
  cl := fun y h => nomatch h
  nd := .nil
theorem SI.drop {G : Int → Int → Prop} {L seen W : List Int} {x o : Int} (h : SI G L x seen (W ++ [o])) (ho : o ∈ seen) : SI G L x seen W where
  snd := fun y hy => h.snd y (hy.imp id fun h => List.mem_append_left _ h)
  fst := fun z hz => (h.fst z hz).elim .inl fun h' => (List.mem_append.mp h').elim .inr fun e => .inl (by rw [List.mem_singleton.mp e]; exact ho)
  cl := fun y hy z hz => (h.cl y hy z hz).elim .inl fun h' => (List.mem_append.mp h').elim .inr fun e => .inl (by rw [List.mem_singleton.mp e]; exact ho)
  nd := h.nd
theorem SI.add {G : Int → Int → Prop} {L seen W l : List Int} {x o : Int} (h : SI G L x seen (W ++ [o])) (ho : o ∉ seen) (hl : ∀ z, z ∈ l ↔ fw G o z) (hL : ∀ z, fw G o z → z ∈ L) : SI G L x (seen ++ [o]) (W ++ l) where
  snd := fun y hy => by
    rcases hy with hy | hy
    · rcases List.mem_append.mp hy with hy | hy
      · exact h.snd y (.inl hy)
      · exact h.snd y (.inr (List.mem_append_right _ hy))
    · rcases List.mem_append.mp hy with hy | hy
      · exact h.snd y (.inr (List.mem_append_left _ hy))
      · exact .step (h.snd o (.inr (by simp))) ((hl y).mp hy) (hL y ((hl y).mp hy))
  fst := fun z hz => by
    rcases h.fst z hz with h' | h'
    · exact .inl (List.mem_append_left _ h')
    · rcases List.mem_append.mp h' with h' | h'
      · exact .inr (List.mem_append_left _ h')
      · exact .inl (List.mem_append_right _ h')
  cl := fun y hy z hz => by
    rcases List.mem_append.mp hy with hy | hy
    · rcases h.cl y hy z hz with h' | h'
      · exact .inl (List.mem_append_left _ h')
      · rcases List.mem_append.mp h' with h' | h'
        · exact .inr (List.mem_append_left _ h')
        · exact .inl (List.mem_append_right _ h')
    · obtain rfl := List.mem_singleton.mp hy
      exact .inr (List.mem_append_right _ ((hl z).mpr hz))
  nd := List.nodup_append.mpr ⟨h.nd, by simp, fun a ha b hb' e => by rw [List.mem_singleton] at hb'; subst e hb'; exact ho ha⟩
theorem SI.done {G : Int → Int → Prop} {L seen : List Int} {x : Int} (h : SI G L x seen []) (y : Int) : y ∈ seen ↔ Pl G L x y := by
  refine ⟨fun hy => h.snd y (.inl hy), fun hp => ?_⟩
  induction hp with
  | one e _ => exact (h.fst _ e).resolve_right fun h => nomatch h
  | step _ e _ ih => exact (h.cl _ ih _ e).resolve_right fun h => nomatch h
theorem SI.len {G : Int → Int → Prop} {L seen W : List Int} {x : Int} (h : SI G L x seen W) : seen.length ≤ L.length := len_sub _ _ h.nd fun y hy => (h.snd y (.inl hy)).mem
theorem keys_mv {kvs : KV} {l : List Int} (h : kvs.map (·.1) = l.map some) : kvs.map (fun p => keyMV p.1) = l.map MV.int := by
  have := congrArg (List.map keyMV) h
  rw [List.map_map, List.map_map] at this
  exact this
def S_law_round : Spec := fun args B own Q => own = [] ∧ ∃ (d : Addr) (L : List Int) (ls : List Addr) (rs : List Rw), args = [.ref d] ∧ B d = some (.dict (bhKV L ls)) ∧ OnAt B (Fw rs) ls L ∧ L.Nodup ∧ L.length ≤ 1000 ∧ (∀ y, y ∈ L ↔ Live (edge (gsOf rs)) y) ∧
  ∀ (a : Addr) (found : List Int) (B' : MH), Sub0 B B' → B' a = some (.list (found.map MV.int)) → found.Sublist L → (∀ x, x ∈ found ↔ x ∈ L ∧ Pl (edge (gsOf rs)) L x x) → Q (.ref a) B' []
theorem ct_law_round (F : FnAt hb f i_law_round) (hlim : hb.NoLimit) (glen : Gl hb "len" (.oth (.builtin "len"))) (gli : Gl hb "list" (.oth (.type "list"))) : Contract P w hb (.ref f) (n + 1) S_law_round := by
  refine Contract.of F hlim (by rintro args B own Q ⟨_, _, _, _, _, e, _⟩; subst e; rfl) ?_
  rintro C args B own Q F' ⟨rfl, d, L, ls, rs, rfl, hd, hon, hLn, hLl, hLm, hQ⟩
  show Sts C (bodyAt P i_law_round) ⟨[(Str.ofString "_law_onward_here", _)], B, []⟩ _
  have hcl : ∀ x ∈ L, ∀ z, Fw rs x z → z ∈ L := fun x hx z hz => (hLm z).mpr (((hLm x).mp hx).step hz.1)
  refine Sts_cons ?_
  walk_at "m"
  intro fd hfd
  walk_at "m"
  refine Stm_ForC F' (fun _ => rfl) ?_
  walk_at "m"
  refine ⟨L.map MV.int, fun i σ' => ∃ found : List Int, σ' = ⟨[(Str.ofString "_law_onward_here", .ref d), (Str.ofString "_law_found", .ref fd)], B, [(fd, .list (found.map MV.int))]⟩ ∧ found.Sublist (L.take i) ∧ ∀ x, x ∈ found ↔ x ∈ L.take i ∧ Pl (edge (gsOf rs)) L x x, ⟨d, rfl, .inr (.inl (.inr ⟨_, hd, (keys_mv hon.keys).symm⟩))⟩, ⟨_, .refl _, [], rfl, .slnil, by simp⟩, ?_, ?_⟩
  · rintro C1 F1 i σ' m ⟨found, rfl, hsub, hiff⟩ hm
    rw [List.getElem?_map] at hm
    obtain ⟨x, hx, rfl⟩ := Option.map_eq_some_iff.mp hm
    have hxL := List.mem_of_getElem? hx
    have htx := take_snoc hx
    obtain ⟨a, l, e1, e2, e3, e4⟩ := hon.get hxL
    walk_at "m"
    refine Ex_Dict0 F1 hlim fun sn hsn => ?_
    walk_at "m"
    refine SubG_dicti (.inr hd) e1 ?_
    walk_at "m"
    intro wa hwa
    walk_at "m"
    refine Stm_WhileC F1 (fun k σ' => ∃ (wa : Addr) (seen W : List Int), σ' = ⟨[(Str.ofString "_law_onward_here", .ref d), (Str.ofString "_law_found", .ref fd), (Str.ofString "_law_row", .int x), (Str.ofString "_law_seen", .ref sn), (Str.ofString "_law_waiting", .ref wa)], B, [(wa, .list (W.map MV.int)), (sn, .dict (tks seen)), (fd, .list (found.map MV.int))]⟩ ∧ k = 3 * (L.length - seen.length) + W.length ∧ SI (edge (gsOf rs)) L x seen W ∧ W.length ≤ 2 * seen.length + 2) ?_ _ ⟨_, .refl _, wa, [], l, rfl, rfl, .init e3 (hcl x hxL), by omega⟩
    rintro k σ' ⟨wa, seen, W, rfl, rfl, hI, hWl⟩
    have hsl := hI.len
    rcases List.eq_nil_or_concat W with rfl | ⟨W', o, rfl⟩
    · have hdone := hI.done
      walk_at "m"
      refine if_neg' (by decide) ?_
      walk_at "m"
      rw [dget_tks]
      refine if_dec (fun hc => ?_) (fun hc => ?_)
      · have hfl : (found.map MV.int).length + 1 ≤ lim := by
          rw [List.length_map]
          exact lim_ok (n := 1000) (Nat.le_trans hsub.length_le (by rw [List.length_take]; omega)) (by decide)
        walk_at "m"
        rw [show found.map MV.int ++ [MV.int x] = (found ++ [x]).map MV.int by rw [List.map_append]; rfl]
        refine ⟨_, .trans (.own (.cons _ (.cons _ (.refl _)))) (.pre [_, _, _] rfl), found ++ [x], rfl, by rw [htx]; exact hsub.append (.refl _), fun z => ?_⟩
        rw [htx, List.mem_append, List.mem_append, hiff z, List.mem_singleton]
        constructor
        · rintro (h | rfl)
          · exact ⟨.inl h.1, h.2⟩
          · exact ⟨.inr rfl, (hdone z).mp hc⟩
        · rintro ⟨h | h, h'⟩
          · exact .inl ⟨h, h'⟩
          · exact .inr h
      · walk_at "m"
        refine ⟨_, .trans (.own (.cons _ (.cons _ (.refl _)))) (.pre [_, _, _] rfl), found, rfl, by rw [htx]; exact hsub.trans (List.sublist_append_left ..), fun z => ?_⟩
        rw [htx, List.mem_append, hiff z, List.mem_singleton]
        constructor
        · exact fun h => ⟨.inl h.1, h.2⟩
        · rintro ⟨h | rfl, h'⟩
          · exact ⟨h, h'⟩
          · exact absurd ((hdone z).mpr h') hc
    · rw [List.concat_eq_append] at hI hWl ⊢
      rw [List.length_append, List.length_singleton] at hWl ⊢
      rw [List.map_append]
      walk_at "m"
      refine if_pos' (by rw [List.length_append]; exact Int.ofNat_lt.mpr (Nat.succ_pos _)) ?_
      walk_at "m"
      refine Ex_pop F1 rfl rfl ?_
      walk_at "m"
      refine ⟨wa, W'.map MV.int, .int o, _, rfl, .head, ?_⟩
      walk_at "m"
      rw [dget_tks]
      refine if_ndec (fun hc => ?_) (fun hc => ?_)
      · have hoL : o ∈ L := (hI.snd o (.inr (by simp))).mem
        obtain ⟨a', l', k1, k2, k3, k4⟩ := hon.get hoL
        have hI' := hI.add hc k3 (hcl o hoL)
        have hsl' := hI'.len
        rw [List.length_append, List.length_singleton] at hsl'
        walk_at "m"
        refine SetG_dicti F1 (.tail .head) (by rw [tks_length]; exact lim_ok (n := 1000) (by omega) (by decide)) ?_
        walk_at "m"
        refine SubG_dicti (.inr hd) k1 ?_
        walk_at "m"
        refine Bin_addList F1 (by walk_at "m has") (.inr k2) (by rw [List.length_map, List.length_map]; unfold lim; omega) fun wa2 hwa2 => ?_
        walk_at "m"
        rw [dput_tks hc, ← List.map_append]
        exact ⟨_, .trans (.own (.cons_cons _ (.cons _ (.refl _)))) (.pre [_] rfl), _, by rw [List.length_append, List.length_append, List.length_singleton]; omega, wa2, seen ++ [o], W' ++ l', rfl, rfl, hI', by rw [List.length_append, List.length_append, List.length_singleton]; omega⟩
      · walk_at "m"
        exact ⟨_, .pre [_] rfl, 3 * (L.length - seen.length) + W'.length, Nat.lt_succ_self _, wa, seen, W', rfl, rfl, hI.drop hc, by omega⟩
  · rintro C1 F1 σ' ⟨found, rfl, hsub, hiff⟩
    rw [List.length_map, List.take_length] at hsub hiff
    walk_at "m"
    exact ⟨_, .frz (fun h => nomatch h), hQ fd found _ (Sub0.set hfd.B) setB_self hsub hiff⟩
theorem Cyc.congr {G : Int → Int → Prop} {L L' : List Int} (h : ∀ y, y ∈ L → y ∈ L') (hc : Cyc G L) : Cyc G L' := by
  obtain ⟨x, hx, hp⟩ := hc
  refine ⟨x, h x hx, ?_⟩
  have : ∀ y, Pl G L x y → Pl G L' x y := fun y hy => by
    induction hy with
    | one e o => exact .one e (h _ o)
    | step _ e o ih => exact .step ih e (h _ o)
  exact this x hp
def S_law_crossers0 : Spec := fun args B own Q => own = [] ∧ ∃ (b rb : Addr) (rs : List Rw), args = [.ref b, .ref rb] ∧ RowsAt B b rs ∧ RowsOk rs ∧ (∀ L : List Int, (∀ y, y ∈ L ↔ Live (edge (gsOf rs)) y) → ¬ Cyc (edge (gsOf rs)) L) ∧
  ∀ (d : Addr) (B' : MH), Sub0 B B' → B' d = some (.dict []) → Q (.ref d) B' []
theorem ct_law_crossers0 (F : FnAt hb f i_law_crossers) (hlim : hb.NoLimit) (h1 : FnC P w hb "_law_onward" 2 S_law_onward) (h2 : FnC P w hb "_law_round" 1 S_law_round) : Contract P w hb (.ref f) 3 S_law_crossers0 := by
  refine Contract.of F hlim (by rintro args B own Q ⟨_, _, _, _, e, _⟩; subst e; rfl) ?_
  rintro C args B own Q F' ⟨rfl, b, rb, rs, rfl, hR, hok, hno, hQ⟩
  show Sts C (bodyAt P i_law_crossers) ⟨[(Str.ofString "_law_rows", _), (Str.ofString "_law_reach_here", _)], B, []⟩ _
  refine Sts_cons ?_
  walk_at "m"
  refine Ex_Dict0 F' hlim fun fd hfd => ?_
  walk_at "m"
  refine Stm_ForC F' (fun _ => rfl) ?_
  walk_at "m"
  refine ⟨rfl, b, rs, rfl, hR, hok, fun d L ls B1 s1 hd hLn hLl hLm hon => ?_⟩
  walk_at "m"
  refine ⟨rfl, d, L, ls, rs, rfl, hd, hon, hLn, Nat.le_trans hLl (k20 hok.2.1), hLm, fun a found B2 s2 ha hsub hiff => ?_⟩
  have hnil : found = [] := by
    cases found with
    | nil => rfl
    | cons x r =>
      obtain ⟨h1, h2⟩ := (hiff x).mp (by simp)
      exact absurd ⟨x, h1, h2⟩ (hno L hLm)
  subst hnil
  dsimp only [List.nil_append]
  refine ⟨[], fun _ σ' => σ' = ⟨[(Str.ofString "_law_rows", .ref b), (Str.ofString "_law_reach_here", .ref rb), (Str.ofString "_law_found", .ref fd)], B2, [(fd, .dict [])]⟩, ⟨a, rfl, .inl ha⟩, ⟨_, .refl _, rfl⟩, fun C1 F1 i σ' m _ hm => by simp at hm, ?_⟩
  rintro C1 F1 σ' rfl
  refine Sts_facts fun hfa _ => ?_
  have hfd0 : B2 fd = none := hfa fd (by simp)
  walk_at "m"
  exact ⟨_, .frz (fun h => nomatch h), hQ fd _ ((s1.trans s2).trans (Sub0.set hfd0)) setB_self⟩
end
section
set_option autoImplicit false
set_option linter.unusedVariables false
set_option linter.unusedSimpArgs false
set_option maxRecDepth 100000
open PySem
variable {hb : Heap} {w : World} {f : Addr} {n : Nat}
theorem cz_at {l : List Int} {k : Int} {j : Nat} (hk : k = j) (h : j < l.length) : (l.map MV.int)[k.toNat]? = some (.int (l.getD j 0)) := by
  subst hk
  rw [Int.toNat_natCast, List.getElem?_map, List.getElem?_eq_getElem h, List.getD_eq_getElem?_getD, List.getElem?_eq_getElem h]; rfl
theorem pick4 {a b c d : Int} {m lo hi : Int} (h0 : 0 ≤ m ∧ m < 4) (ha : lo ≤ a ∧ a ≤ hi) (hb' : lo ≤ b ∧ b ≤ hi) (hc : lo ≤ c ∧ c ≤ hi) (hd : lo ≤ d ∧ d ≤ hi) : ∃ v, [MV.int a, .int b, .int c, .int d][m.toNat]? = some (.int v) ∧ lo ≤ v ∧ v ≤ hi := by
  have : m = 0 ∨ m = 1 ∨ m = 2 ∨ m = 3 := by omega
  rcases this with rfl | rfl | rfl | rfl
  · exact ⟨a, rfl, ha⟩
  · exact ⟨b, rfl, hb'⟩
  · exact ⟨c, rfl, hc⟩
  · exact ⟨d, rfl, hd⟩
def S_ring_by : Spec := fun args B own Q => own = [] ∧ ∃ (N : Nat) (ca : Addr) (cells : List Int), args = [.int N, .ref ca] ∧ 2 ≤ N ∧ N ≤ 19 ∧ B ca = some (.list (cells.map MV.int)) ∧ 2 + N ≤ cells.length ∧
  ∀ (b : Addr) (B' : MH) (rs : List Rw), Sub0 B B' → RowsAt B' b rs → RowsOk rs → Q (.ref b) B' []
theorem ct_ring_by (F : FnAt hb f i_law_ring_by) (hlim : hb.NoLimit) (gr : Gl hb "range" (.oth (.type "range"))) : Contract P w hb (.ref f) (n + 1) S_ring_by := by
  refine Contract.of F hlim (by rintro args B own Q ⟨_, _, _, _, e, _⟩; subst e; rfl) ?_
  rintro C args B own Q F' ⟨rfl, N, ca, cells, rfl, hN2, hN9, hca, hcl, hQ⟩
  show Sts C (bodyAt P i_law_ring_by) ⟨[(Str.ofString "_law_size", _), (Str.ofString "_law_cells", _)], B, []⟩ _
  have hN0 : ((N : Nat) : Int) ≠ 0 := by omega
  have hNl : ((N : Nat) : Int).natAbs.log2 < 9000 := log2_small (by omega)
  have hNp : (0 : Int) < ((N : Nat) : Int) := by omega
  refine Sts_cons ?_
  walk_at "m"
  refine SubG_list (.inr hca) (by decide) (cz_at (j := 0) rfl (by omega)) ?_
  walk_at "m"
  refine SubG_list (.inr hca) (by decide) (cz_at (j := 1) rfl (by omega)) ?_
  walk_at "m"
  intro t0 ht0
  have m0 := fmod_bounds (cells.getD 0 0) hNp
  have m1 := fmod_bounds (cells.getD 1 0) hNp
  generalize (cells.getD 0 0).fmod N = y0 at m0 ⊢
  generalize (cells.getD 1 0).fmod N = y1 at m1 ⊢
  refine Exs_frzs F' [(t0, _)] [] (fun _ _ h => nomatch h) fun B1 s1 g1 => ?_
  have q1 := g1 _ (.head _)
  dsimp only at q1
  clear g1 ht0
  walk_at "m"
  intro lr hlr
  walk_at "m"
  refine Stm_ForC F' (fun _ => rfl) ?_
  walk_at "m"
  refine Call_range (Int.natCast_nonneg _) (by rw [Int.toNat_natCast]; unfold lim; omega) fun rn => ?_
  rw [Int.toNat_natCast]
  refine ⟨_, fun i σ' => ∃ (B' : MH) (as : List Addr) (rs : List Rw), σ' = ⟨[(Str.ofString "_law_size", .int N), (Str.ofString "_law_cells", .ref ca), (Str.ofString "_law_rows", .ref lr)], B', [(lr, .list (as.map MV.ref))]⟩ ∧ Sub0 B B' ∧ TupsAt B' as rs ∧ rs.length = i + 1 ∧ ∀ r ∈ rs, Rw.Ok (N + 1) r, ⟨rn, rfl, .inr (.inr ⟨_, .inl (.head _), rfl⟩)⟩, ⟨_, .tl, B1, [t0], [⟨false, 0, 1 + y0, 1 + y1⟩], rfl, s1, TupsAt.snoc (as := []) (rs := []) ⟨rfl, by simp⟩ q1, rfl, fun r hr => ?_⟩, ?_, ?_⟩
  · rw [List.mem_singleton.mp hr]
    exact ⟨Int.le_refl _, by show (0 : Int) < 4; decide, by show 0 ≤ 1 + y1; omega, by show 1 + y1 ≤ (N : Int) + 1; omega, fun _ => ⟨by show 0 ≤ 1 + y0; omega, by show 1 + y0 ≤ (N : Int) + 1; omega⟩⟩
  · rintro C1 F1 i σ' m ⟨B2, as, rs, rfl, s2, ht, hrl, hro⟩ hm
    obtain ⟨hi, rfl⟩ := range_item hm
    have hca2 := s2 _ _ hca
    have hal : (as.map MV.ref).length + 1 ≤ lim := by rw [List.length_map, ht.1, hrl]; exact lim_ok (n := 20) (by omega) (by decide)
    have hz := cz_at (l := cells) (k := 2 + (i : Int)) (j := 2 + i) (by omega) (by omega)
    have hz0 : (0 : Int) ≤ 2 + (i : Int) := by omega
    generalize cells.getD (2 + i) 0 = z at hz
    have k4 := fmod_bounds (i : Int) (b := 4) (by decide)
    have kN := fmod_bounds ((i : Int) + 1) hNp
    have z4 := fmod_bounds (z.fdiv 4) (b := 4) (by decide)
    have zN := fmod_bounds (z.fdiv 4) hNp
    obtain ⟨v, hv, hv0, hv1⟩ := pick4 (a := (N : Int) + 1) (b := 1 + (z.fdiv 4).fmod N) (c := 0) (d := (N : Int) + 1) (lo := 0) (hi := (N : Int) + 1) z4 (by omega) (by omega) (by omega) (by omega)
    walk_at "m"
    refine SubG_list (.inr hca2) hz0 hz ?_
    walk_at "m"
    refine SubG_list (.inr hca2) hz0 hz ?_
    walk_at "m"
    intro sl hsl
    walk_at "m"
    refine SubG_list (.inr hca2) hz0 hz ?_
    walk_at "m"
    refine SubG_list (.inl (.head _)) z4.1 hv ?_
    walk_at "m"
    have fin : ∀ (r : Rw) (t : Addr) (l r' : Loc), Rw.Ok (N + 1) r → B2 t = none → l = [(Str.ofString "_law_size", .int N), (Str.ofString "_law_cells", .ref ca), (Str.ofString "_law_rows", .ref lr)] ++ r' →
        Tn [] (fun σ' => ∃ (B' : MH) (as : List Addr) (rs : List Rw), σ' = ⟨[(Str.ofString "_law_size", .int N), (Str.ofString "_law_cells", .ref ca), (Str.ofString "_law_rows", .ref lr)], B', [(lr, .list (as.map MV.ref))]⟩ ∧ Sub0 B B' ∧ TupsAt B' as rs ∧ rs.length = i + 1 + 1 ∧ ∀ r ∈ rs, Rw.Ok (N + 1) r)
          ⟨l, B2, [(t, .tup (Rw.mv r)), (sl, .list [.int ((N : Int) + 1), .int (1 + (z.fdiv 4).fmod N), .int 0, .int ((N : Int) + 1)]), (lr, .list (as.map MV.ref ++ [.ref t]))]⟩ := by
      intro r t l r' hr ht0 hl
      have s3 := Sub0.set (o := .tup (Rw.mv r)) ht0
      rw [show as.map MV.ref ++ [MV.ref t] = (as ++ [t]).map MV.ref by rw [List.map_append]; rfl]
      refine ⟨_, .trans (.frz (fun h => nomatch h)) (.trans .tl (.pre r' hl)), _, as ++ [t], rs ++ [r], rfl, s2.trans s3, (ht.mono s3).snoc setB_self, by rw [List.length_append, hrl]; rfl, fun r2 h => ?_⟩
      rcases List.mem_append.mp h with h | h
      · exact hro r2 h
      · rw [List.mem_singleton.mp h]; exact hr
    refine if_dec (fun hw => ?_) (fun hw => ?_)
    · walk_at "m"
      refine SubG_list (.inr hca2) hz0 hz ?_
      walk_at "m"
      intro t ht'
      walk_at "m"
      exact fin ⟨true, (i : Int).fmod 4, (z.fdiv 4).fmod 5 - 2, 1 + ((i : Int) + 1).fmod N⟩ t _ [_, _, _] ⟨k4.1, k4.2, by show 0 ≤ 1 + ((i : Int) + 1).fmod N; omega, by show 1 + ((i : Int) + 1).fmod N ≤ (N : Int) + 1; omega, fun h => nomatch h⟩ ht'.B rfl
    · walk_at "m"
      intro t ht'
      walk_at "m"
      exact fin ⟨false, (i : Int).fmod 4, 1 + ((i : Int) + 1).fmod N, v⟩ t _ [_, _, _] ⟨k4.1, k4.2, hv0, hv1, fun _ => ⟨by show 0 ≤ 1 + ((i : Int) + 1).fmod N; omega, by show 1 + ((i : Int) + 1).fmod N ≤ (N : Int) + 1; omega⟩⟩ ht'.B rfl
  · rintro C1 F1 σ' ⟨B2, as, rs, rfl, s2, ht, hrl, hro⟩
    rw [List.length_map, List.length_range] at hrl
    refine Sts_facts fun hfa _ => ?_
    have hlr0 : B2 lr = none := hfa lr (by simp)
    have s3 := Sub0.set (o := .list (as.map MV.ref)) hlr0
    walk_at "m"
    refine ⟨_, .frz (fun h => nomatch h), hQ lr _ rs (s2.trans s3) ⟨as, setB_self, ht.mono s3⟩ ⟨by omega, by omega, fun r hr => ?_⟩⟩
    rw [hrl]; exact hro r hr
def S_is_way5 : Spec := fun args B own Q => own = [] ∧ ∃ (a b wi : Addr) (s g : Int) (rs : List Rw) (wo p : List Int), args = [.ref a, .ref b, .int s, .int g, .ref wi] ∧ B a = some (.list (p.map MV.int)) ∧ RowsAt B b rs ∧ rs.length ≤ 20 ∧ B wi = some (.list (wo.map MV.int)) ∧ WayP rs s g p ∧ (∀ x ∈ p, x ∉ wo) ∧ Q (.bool true) B []
theorem ct_is_way5 (F : FnAt hb f i_law_is_way) (hlim : hb.NoLimit) (glen : Gl hb "len" (.oth (.builtin "len"))) (gr : Gl hb "range" (.oth (.type "range"))) (g1 : Gl hb "isinstance" (.oth (.builtin "isinstance"))) (g2 : Gl hb "int" (.oth (.type "int"))) (g3 : Gl hb "bool" (.oth (.type "bool"))) (g4 : Gl hb "list" (.oth (.type "list"))) : Contract P w hb (.ref f) (n + 1) S_is_way5 := by
  refine Contract.of F hlim (by rintro args B own Q ⟨_, _, _, _, _, _, _, _, _, e, _⟩; subst e; rfl) ?_
  rintro C args B own Q F' ⟨rfl, a, b, wi, start, goal, rs, wo, p, rfl, ha, ⟨as, hb1, ht⟩, h20, hwi, W, hwo, hQ⟩
  show Sts C (bodyAt P i_law_is_way) ⟨[(Str.ofString "_law_found", _), (Str.ofString "_law_rows", _), (Str.ofString "_law_start", _), (Str.ofString "_law_goal", _), (Str.ofString "_law_without", _)], B, []⟩ _
  have el : ((as.map MV.ref).length : Int) = (rs.length : Nat) := by simp [ht.1]
  have hp0 : 0 < p.length := by
    cases p with
    | nil => have := W.hd; simp at this
    | cons x r => simp
  have hps := W.small
  refine Sts_cons ?_
  walk_at "m"
  refine if_neg' (by rw [List.length_map]; omega) ?_
  walk_at "m"
  rw [el, List.length_map]
  refine if_neg' (by omega) ?_
  walk_at "m"
  refine Stm_ForC F' (fun _ => rfl) ?_
  walk_at "m"
  rw [List.length_map]
  refine Call_range (Int.natCast_nonneg _) (by rw [Int.toNat_natCast]; unfold lim; omega) fun ra => ?_
  rw [Int.toNat_natCast]
  refine ⟨_, fun _ σ' => σ' = ⟨[(Str.ofString "_law_found", .ref a), (Str.ofString "_law_rows", .ref b), (Str.ofString "_law_start", .int start), (Str.ofString "_law_goal", .int goal), (Str.ofString "_law_without", .ref wi)], B, []⟩, ⟨ra, rfl, .inr (.inr ⟨_, .inl (.head _), rfl⟩)⟩, ⟨_, .none, rfl⟩, ?_, ?_⟩
  · rintro C' F1 i σ' m rfl hm
    obtain ⟨hi, rfl⟩ := range_item hm
    obtain ⟨x, hx⟩ : ∃ x, p[i]? = some x := ⟨p[i], by simp⟩
    have hx' := mv_at hx
    obtain ⟨hx0, hx1⟩ := W.rng x (List.mem_of_getElem? hx)
    have hxw := hwo x (List.mem_of_getElem? hx)
    have hi0 := Int.natCast_nonneg i
    walk_at "m"
    refine SubG_list (.inr ha) hi0 hx' ?_
    walk_at "m"
    refine SubG_list (.inr ha) hi0 hx' ?_
    walk_at "m"
    refine SubG_list (.inr ha) hi0 hx' ?_
    walk_at "m"
    refine if_neg' (Int.not_lt.mpr hx0) ?_
    walk_at "m"
    refine SubG_list (.inr ha) hi0 hx' ?_
    walk_at "m"
    rw [el]
    refine if_neg' (Int.not_le.mpr hx1) ?_
    walk_at "m"
    refine SubG_list (.inr ha) hi0 hx' ?_
    walk_at "m"
    refine if_neg' hxw ?_
    walk_at "m"
    refine if_dec (fun hip => ?_) (fun hip => ?_)
    · have hip' : 0 < i := Int.ofNat_lt.mp hip
      obtain ⟨y, hy⟩ : ∃ x, p[i - 1]? = some x := ⟨p[i - 1]'(Nat.lt_of_le_of_lt (Nat.sub_le ..) hi), by simp⟩
      obtain ⟨hy0, r, hr, hxr⟩ := W.lk (i - 1) y x hy (by rw [Nat.sub_add_cancel hip']; exact hx)
      obtain ⟨rA, hrA, hrB⟩ := ht.get hr
      have hy' : (p.map MV.int)[((i : Int) - 1).toNat]? = some (.int y) := by rw [show ((i : Int) - 1).toNat = i - 1 by omega, List.getElem?_map, hy]; rfl
      walk_at "m"
      refine SubG_list (.inr ha) (by omega) hy' ?_
      walk_at "m"
      refine SubG_list (.inr hb1) hy0 (m := .ref rA) (by rw [List.getElem?_map, hrA]; rfl) ?_
      walk_at "m"
      refine SubG_list (.inr ha) hi0 hx' ?_
      walk_at "m"
      by_cases hxy : x = r.y
      · refine if_ntrue hxy ?_
        walk_at "m"
        exact ⟨_, .pre [_, _] rfl, rfl⟩
      · refine if_nfalse hxy ?_
        cases hadd : r.add with
        | true => simp [Rw.nx, hadd] at hxr; exact absurd hxr hxy
        | false =>
          simp [Rw.nx, hadd] at hxr
          have hxz := hxr.resolve_right hxy
          walk_at "m"
          refine Cmp_neStr ?_
          walk_at "m"
          refine if_ntrue (word_more hadd) ?_
          walk_at "m"
          refine SubG_list (.inr ha) hi0 hx' ?_
          walk_at "m"
          refine if_ntrue hxz ?_
          walk_at "m"
          exact ⟨_, .pre [_, _] rfl, rfl⟩
    · walk_at "m"
      exact ⟨_, .pre [_] rfl, rfl⟩
  · rintro C' F1 σ' rfl
    walk_at "m"
    refine SubG_list (.inr ha) (Int.le_refl _) (m := .int start) (by have := W.hd; simp [this]) ?_
    walk_at "m"
    refine if_pos' rfl ?_
    walk_at "m"
    rw [List.length_map]
    refine SubG_list (.inr ha) (by omega) (m := .int goal) (by rw [show ((p.length : Int) - 1).toNat = p.length - 1 by omega, List.getElem?_map, W.lst]; rfl) ?_
    walk_at "m"
    refine ⟨_, .refl _, ?_⟩
    rw [show decide (goal = goal) = true from decide_eq_true rfl]
    exact hQ
end
section
set_option autoImplicit false
set_option linter.unusedVariables false
set_option linter.unusedSimpArgs false
set_option maxRecDepth 100000
open PySem
variable {hb : Heap} {w : World} {f : Addr} {n : Nat}
def S_law : Spec := fun args B own Q => own = [] ∧ ∃ (a : Addr) (ns : List Int), args = [.ref a] ∧ B a = some (.ro (ns.map MV.int)) ∧ (∀ z ∈ ns, Bits z) ∧ ∀ B' own', Q (.bool true) B' own'
theorem ct_law (F : FnAt hb f i_law) (hlim : hb.NoLimit) (h1 : FnC P w hb "_law_rows_by" 3 S_rows_by) (h2 : FnC P w hb "_law_cell_at" 1 S_cell) (h3 : FnC P w hb "_law_ring_by" 1 S_ring_by) (h4 : FnC P w hb "crossing" 6 S_crossing) (h5 : FnC P w hb "_law_reach" 2 S_law_reach) (h6 : FnC P w hb "_law_crossers" 3 S_law_crossers0) (h7 : FnC P w hb "_law_is_way" 1 S_is_way5) (glen : Gl hb "len" (.oth (.builtin "len"))) (gr : Gl hb "range" (.oth (.type "range"))) (gli : Gl hb "list" (.oth (.type "list"))) (g1 : Gl hb "isinstance" (.oth (.builtin "isinstance"))) (g2 : Gl hb "int" (.oth (.type "int"))) (g3 : Gl hb "bool" (.oth (.type "bool"))) (g4 : Gl hb "tuple" (.oth (.type "tuple"))) : Contract P w hb (.ref f) 7 S_law := by
  refine Contract.of F hlim (by rintro args B own Q ⟨_, _, _, e, _⟩; subst e; rfl) ?_
  rintro C args B own Q F' ⟨rfl, a, ns, rfl, hB, hbits, hQ⟩
  show Sts C (bodyAt P i_law) ⟨[(Str.ofString "_law_script", _)], B, _⟩ _
  refine Sts_cons ?_
  walk_at "m"
  refine ⟨rfl, _, _, rfl, hB, hbits, fun b B1 rs hok s1 hR hb0 => ?_⟩
  replace hB := s1 _ _ hB
  clear hb0
  walk_at "m store"
  refine Sts_cons ?_
  refine Stm_mono (Q := fun fl σ' => fl = .next ∧ ∃ (r : Loc) (b : Addr) (B' : MH) (rs : List Rw), σ' = ⟨[(Str.ofString "_law_script", .ref a), (Str.ofString "_law_rows", .ref b)] ++ r, B', []⟩ ∧ RowsAt B' b rs ∧ RowsOk rs) ?_ ?_
  · walk_at "m"
    refine ⟨rfl, _, _, _, rfl, hB, by decide, ?_⟩
    walk_at "m"
    refine if_dec (fun hc => ?_) (fun hc => ?_)
    · refine Sts_cons ?_
      refine Stm_Comp F' (by walk_at "m compok") (fun _ => rfl) (swaps_yes F' rfl rfl (by decide)) ?_
      walk_at "m"
      refine Call_range (by decide) (by unfold lim; decide) fun ra => ?_
      refine ⟨_, fun i ys B' own' => own' = [(ra, .range 9)] ∧ B' = B1 ∧ ∃ cs : List Int, ys = cs.map MV.int ∧ cs.length = i, ⟨ra, rfl, .inr (.inr ⟨9, .inl (.head _), rfl⟩)⟩, by rw [List.length_map, List.length_range]; unfold lim; decide, ⟨rfl, rfl, [], rfl, rfl⟩, ?_, ?_⟩
      · rintro C' F1 i ys B' own' m ⟨rfl, rfl, cs, rfl, hi⟩ hm
        obtain ⟨hib, rfl⟩ := range_item hm
        refine CTs_nil ?_
        dsimp only
        refine if_tt ?_
        walk_at "m cex"
        walk_at "m"
        refine ⟨rfl, _, _, _, rfl, hB, by omega, ?_⟩
        exact ⟨_, .refl _, rfl, rfl, cs ++ [cellZ ns (8 + i)], by rw [List.map_append]; rfl, by rw [List.length_append, hi]; rfl⟩
      rintro ys B' own' ⟨rfl, rfl, cs, rfl, hcl⟩ C1 F1 ca hca
      rw [List.length_map, List.length_range] at hcl
      refine Store_frzs F1 [(ca, _), (ra, _)] [] (fun _ _ h => nomatch h) fun B2 s2 g2 => ?_
      have q2 := g2 _ (.head _)
      dsimp only at q2
      clear g2 hca
      walk_at "m"
      refine ⟨rfl, _, _, _, rfl, s2 _ _ hB, by decide, ?_⟩
      walk_at "m"
      have hm := fmod_bounds (cellZ ns 0) (b := 5) (by decide)
      generalize (cellZ ns 0).fmod 5 = N at hm ⊢
      obtain ⟨N, rfl⟩ := Int.eq_ofNat_of_zero_le hm.1
      rw [show (2 : Int) + (N : Int) = ((2 + N : Nat) : Int) by omega]
      refine ⟨rfl, 2 + N, ca, cs, rfl, by omega, by omega, q2, by omega, fun b' B3 rs' s3 hR' hok' => ?_⟩
      walk_at "m"
      exact ⟨rfl, [_], b', B3, rs', rfl, hR', hok'⟩
    · walk_at "m"
      exact ⟨rfl, [], b, B1, rs, rfl, hR, hok⟩
  clear hR hok hB s1
  rintro _ _ ⟨rfl, r, b, B1, rs, rfl, ⟨as, hbB, ht⟩, hok⟩
  have h20 := hok.2.1
  dsimp only
  refine Sts_cv F' (.pre r rfl) ?_
  walk_at "m"
  intro l1 hl1
  refine Store_frzs F' [(l1, _)] [] (fun _ _ h => nomatch h) fun B2 s2 g2 => ?_
  have k1 := g2 _ (.head _)
  dsimp only at k1
  replace hbB := s2 _ _ hbB
  replace ht := ht.mono s2
  clear g2 s2 hl1
  walk_at "m"
  refine ⟨rfl, l1, rs, rfl, ⟨as, k1, ht⟩, hok, fun L B3 s3 hLm hnc => ?_, fun t a1 a2 a3 a4 one other R p1 p2 p3 p4 B3 s3 ht3 ha1 ha2 ha3 ha4 X => ?_⟩
  · replace k1 := s3 _ _ k1
    replace hbB := s3 _ _ hbB
    replace ht := ht.mono s3
    walk_at "m"
    refine Cmp_neSame F'.ok (.inr k1) (.inr hbB) (mv_refs _) ?_
    walk_at "m"
    refine ⟨rfl, b, rs, rfl, ⟨as, hbB, ht⟩, hok, fun ra ds B4 s4 hra hre => ?_⟩
    walk_at "m"
    refine ⟨rfl, b, ra, rs, rfl, RowsAt.mono ⟨as, hbB, ht⟩ s4, hok, fun L' hL' hc => hnc (hc.congr fun y hy => (hLm y).mpr ((hL' y).mp hy)), fun d B5 s5 hd => ?_⟩
    walk_at "m"
    refine Ex_Dict0 F' hlim fun e he => ?_
    refine Cmp_eqDict0 F' (.inr hd) (.inl (.head _)) ?_
    exact ⟨_, .refl _, hQ _ _⟩
  replace k1 := s3 _ _ k1
  replace hbB := s3 _ _ hbB
  replace ht := ht.mono s3
  clear s3
  walk_at "m"
  refine Cmp_neSame F'.ok (.inr k1) (.inr hbB) (mv_refs _) ?_
  walk_at "m"
  refine if_ntrue rfl ?_
  walk_at "m"
  refine Stm_ForC F' (fun _ => rfl) ?_
  refine Ex_postN F' ?_
  walk_at "m"
  intro tt htt
  refine ⟨[(tt, _)], [], rfl, (fun _ _ h => nomatch h), fun B4 s4 g4 => ?_⟩
  have q4 := g4 _ (.head _)
  dsimp only at q4
  replace hbB := s4 _ _ hbB
  replace ht := ht.mono s4
  replace ht3 := s4 _ _ ht3
  replace ha1 := s4 _ _ ha1
  replace ha2 := s4 _ _ ha2
  replace ha3 := s4 _ _ ha3
  replace ha4 := s4 _ _ ha4
  clear g4 s4 htt k1
  refine ⟨[.int one, .int other], fun _ σ' => σ' = ⟨[(Str.ofString "_law_script", .ref a), (Str.ofString "_law_rows", .ref b), (Str.ofString "_law_handed", .ref l1), (Str.ofString "_law_found", .ref t), (Str.ofString "_law_one", .int one), (Str.ofString "_law_other", .int other)], B4, []⟩, ⟨tt, rfl, .inr (.inl (.inl q4))⟩, ⟨_, .refl _, rfl⟩, ?_, ?_⟩
  · rintro C1 F1 i σ' m rfl hm
    obtain ⟨z, rfl⟩ : ∃ z, m = .int z := by
      match i, hm with
      | 0, hm => cases hm; exact ⟨_, rfl⟩
      | 1, hm => cases hm; exact ⟨_, rfl⟩
      | _ + 2, hm => cases hm
    walk_at "m"
    exact ⟨_, .pre [_] rfl, rfl⟩
  rintro C1 F1 σ' rfl
  walk_at "m"
  intro e1 he1
  refine Exs_frzs F' [(e1, _)] [] (fun _ _ h => nomatch h) fun B5 s5 g5 => ?_
  have q5 := g5 _ (.head _)
  dsimp only at q5
  replace hbB := s5 _ _ hbB
  replace ht := ht.mono s5
  replace ht3 := s5 _ _ ht3
  replace ha1 := s5 _ _ ha1
  replace ha2 := s5 _ _ ha2
  replace ha3 := s5 _ _ ha3
  replace ha4 := s5 _ _ ha4
  clear g5 s5 he1 q4
  walk_at "m"
  refine ⟨rfl, a3, b, e1, one, other, rs, [], p3, rfl, ha3, ⟨as, hbB, ht⟩, h20, q5, X.w3, by simp, ?_⟩
  walk_at "m"
  intro e2 he2
  refine Exs_frzs F' [(e2, _)] [] (fun _ _ h => nomatch h) fun B6 s6 g6 => ?_
  have q6 := g6 _ (.head _)
  dsimp only at q6
  replace hbB := s6 _ _ hbB
  replace ht := ht.mono s6
  replace ht3 := s6 _ _ ht3
  replace ha1 := s6 _ _ ha1
  replace ha2 := s6 _ _ ha2
  replace ha3 := s6 _ _ ha3
  replace ha4 := s6 _ _ ha4
  clear g6 s6 he2 q5
  walk_at "m"
  refine ⟨rfl, a4, b, e2, other, one, rs, [], p4, rfl, ha4, ⟨as, hbB, ht⟩, h20, q6, X.w4, by simp, ?_⟩
  have hp3 := X.w3.small
  have hp4 := X.w4.small
  walk_at "m"
  refine Bin_addList F' (.inr ha3) (.inr ha4) (by rw [List.length_map, List.length_map]; unfold lim; omega) fun rg hrg => ?_
  rw [← List.map_append]
  refine Store_frzs F' [(rg, _)] [] (fun _ _ h => nomatch h) fun B7 s7 g7 => ?_
  have q7 := g7 _ (.head _)
  dsimp only at q7
  replace hbB := s7 _ _ hbB
  replace ht := ht.mono s7
  replace ht3 := s7 _ _ ht3
  replace ha1 := s7 _ _ ha1
  replace ha2 := s7 _ _ ha2
  clear g7 s7 hrg q6 ha3 ha4
  have hrR : ∀ x ∈ p3 ++ p4, x ∈ R := fun x hx => (List.mem_append.mp hx).elim (X.r3 x) (X.r4 x)
  have hrl : (p3 ++ p4).length ≤ 40 := by rw [List.length_append]; omega
  generalize p3 ++ p4 = ring at q7 hrR hrl
  walk_at "m"
  refine Ex_Comp F' (by walk_at "m compok") (fun _ => rfl) ?_
  walk_at "m"
  refine ⟨ring.map MV.int, fun j ys B' own' => own' = [] ∧ B' = B7 ∧ ∃ wo : List Int, ys = wo.map MV.int ∧ ∀ y ∈ wo, y ∈ ring ∧ y ≠ one, ⟨rg, rfl, .inl q7⟩, by rw [List.length_map]; exact Nat.le_trans hrl (by unfold lim; decide), ⟨rfl, rfl, [], rfl, by simp⟩, ?_, ?_⟩
  · rintro C3 F3 j ys B' own' m ⟨rfl, rfl, wo, rfl, hiff⟩ hm
    rw [List.getElem?_map] at hm
    obtain ⟨y, hy, rfl⟩ := Option.map_eq_some_iff.mp hm
    refine CTs_cons ?_
    walk_at "m cex"
    walk_at "m"
    refine if_ndec (fun hc => ?_) (fun hc => ?_)
    · walk_at "m"
      refine CTs_nil ?_
      refine if_tt ?_
      walk_at "m"
      refine ⟨_, .refl _, rfl, rfl, wo ++ [y], by rw [List.map_append]; rfl, fun z hz => ?_⟩
      rcases List.mem_append.mp hz with hz | hz
      · exact hiff z hz
      · rw [List.mem_singleton.mp hz]; exact ⟨List.mem_of_getElem? hy, hc⟩
    · walk_at "m"
      exact ⟨_, .refl _, rfl, rfl, wo, rfl, hiff⟩
  rintro ys B' own' ⟨rfl, rfl, wo1, rfl, hwo1⟩ wa1 hwa1
  refine Exs_frzs F' [(wa1, _)] [] (fun _ _ h => nomatch h) fun B8 s8 g8 => ?_
  have q8 := g8 _ (.head _)
  dsimp only at q8
  replace hbB := s8 _ _ hbB
  replace ht := ht.mono s8
  replace ht3 := s8 _ _ ht3
  replace ha1 := s8 _ _ ha1
  replace ha2 := s8 _ _ ha2
  replace q7 := s8 _ _ q7
  clear g8 s8 hwa1
  walk_at "m"
  refine ⟨rfl, a1, b, wa1, 0, one, rs, wo1, p1, rfl, ha1, ⟨as, hbB, ht⟩, h20, q8, X.w1, fun x hx hw => (hwo1 x hw).2 (X.r1 x hx (hrR x (hwo1 x hw).1)), ?_⟩
  walk_at "m"
  refine Stm_Comp F' (by walk_at "m compok") (fun _ => rfl) (swaps_yes F' rfl rfl (by decide)) ?_
  walk_at "m"
  refine ⟨ring.map MV.int, fun j ys B' own' => own' = [] ∧ B' = B8 ∧ ∃ wo : List Int, ys = wo.map MV.int ∧ ∀ y ∈ wo, y ∈ ring ∧ y ≠ other, ⟨rg, rfl, .inl q7⟩, by rw [List.length_map]; exact Nat.le_trans hrl (by unfold lim; decide), ⟨rfl, rfl, [], rfl, by simp⟩, ?_, ?_⟩
  · rintro C3 F3 j ys B' own' m ⟨rfl, rfl, wo, rfl, hiff⟩ hm
    rw [List.getElem?_map] at hm
    obtain ⟨y, hy, rfl⟩ := Option.map_eq_some_iff.mp hm
    refine CTs_cons ?_
    walk_at "m cex"
    walk_at "m"
    refine if_ndec (fun hc => ?_) (fun hc => ?_)
    · walk_at "m"
      refine CTs_nil ?_
      refine if_tt ?_
      walk_at "m"
      refine ⟨_, .refl _, rfl, rfl, wo ++ [y], by rw [List.map_append]; rfl, fun z hz => ?_⟩
      rcases List.mem_append.mp hz with hz | hz
      · exact hiff z hz
      · rw [List.mem_singleton.mp hz]; exact ⟨List.mem_of_getElem? hy, hc⟩
    · walk_at "m"
      exact ⟨_, .refl _, rfl, rfl, wo, rfl, hiff⟩
  rintro ys B' own' ⟨rfl, rfl, wo2, rfl, hwo2⟩ C2 F2 wa2 hwa2
  refine Store_frzs F2 [(wa2, _)] [] (fun _ _ h => nomatch h) fun B9 s9 g9 => ?_
  have q9 := g9 _ (.head _)
  dsimp only at q9
  replace hbB := s9 _ _ hbB
  replace ht := ht.mono s9
  replace ht3 := s9 _ _ ht3
  replace ha2 := s9 _ _ ha2
  walk_at "m"
  refine if_pos' X.lt ?_
  walk_at "m"
  refine ⟨rfl, a2, b, wa2, 0, other, rs, wo2, p2, rfl, ha2, ⟨as, hbB, ht⟩, h20, q9, X.w2, fun x hx hw => (hwo2 x hw).2 (X.r2 x hx (hrR x (hwo2 x hw).1)), ?_⟩
  exact ⟨_, .refl _, hQ _ _⟩
end
set_option autoImplicit false
set_option linter.unusedVariables false
open PySem PySem.W PyProof.Rows

theorem glT_of {hb : Heap} {mg : Str → Option Value} (G : hb.Ns mainGlobals mg) {x : Str} {v : Value} {m : MV} (e : mg x = some v) (hm : VR m v) (hd : (x == ("__debug__" : Str)) = false) : Gl hb x m :=
  ⟨v, hm, hd, fun M A E s env Q hg _ hk hq => Calls.loadGlobal_global (by rw [hg]; exact G.keeps hk) e hq⟩
theorem glT_bi {q : Program} {loose : List Str} {mean : ExcName → Option Value} {hb : Heap} {mg mb : Str → Option Value} (T : Top q loose mean mg mb hb) {x : Str} {v : Value} {m : MV}
    (h0 : (startupNames ++ loose ++ (recsOf q).map (·.name) ++ (litsOf q).map (·.1) ++ (clssOf q loose).map (·.name)).contains x = false) (hn : x ≠ "__name__") (hv : bootBuiltins x = some v) (hm : VR m v) (hd : (x == ("__debug__" : Str)) = false) : Gl hb x m := by
  have key : x ∉ startupNames ++ loose ++ (recsOf q).map (·.name) ++ (litsOf q).map (·.1) ++ (clssOf q loose).map (·.name) := fun h => by rw [List.contains_iff_mem.mpr h] at h0; cases h0
  simp only [List.mem_append, not_or] at key
  obtain ⟨⟨⟨⟨k1, k2⟩, k3⟩, k4⟩, k5⟩ := key
  exact ⟨v, hm, hd, fun M A E s env Q hg hb' hk hq => Calls.loadGlobal_builtin (by rw [hg]; exact T.g.keeps hk) (T.free x k1 k2 k3 k4 k5) (by rw [hb']; exact T.b.keeps hk) ((T.builtins x hn).trans hv) hq⟩
theorem glT_int {q : Program} {loose : List Str} {mean : ExcName → Option Value} {hb : Heap} {mg mb : Str → Option Value} (T : Top q loose mean mg mb hb) {x : Str} {k : Int} (h : valOf q x = some (.int k)) (hd : (x == ("__debug__" : Str)) = false) : Gl hb x (.int k) := by
  obtain ⟨v, h1, h2⟩ := T.const x _ h
  cases h2 hb with
  | int t => exact glT_of T.g h1 ⟨_, rfl⟩ hd
def recAt (p : Program) (i : Nat) : DefRec := match p.main.body[i]? with | some (.FunctionDef n a b _ _ _ s _ _ pos) => ⟨n, a, b, s, pos⟩ | _ => ⟨default, default, [], default, default⟩
theorem recAt_body (p : Program) (i : Nat) : (recAt p i).body = bodyAt p i := by
  unfold recAt bodyAt
  cases p.main.body[i]? with
  | none => rfl
  | some st => cases st <;> rfl
theorem recAt_scope (p : Program) (i : Nat) : (recAt p i).scope = scopeAt p i := by
  unfold recAt scopeAt
  cases p.main.body[i]? with
  | none => rfl
  | some st => cases st <;> rfl
def scopeChk (sc : Scope) (ps : List Str) : Bool :=
  !sc.isCoroutine && !sc.isGenerator && decide (sc.kind = .function) && ps.all (fun x => decide (sc.names.lookup x = some .local) || decide (sc.names.lookup x = some .cell)) && decide ps.Nodup && decide (sc.names.map (·.1)).Nodup && sc.names.all (fun p => !decide (p.2 = .free))
theorem lookup_mem' {x : Str} {k : NameKind} : ∀ {l : List (Str × NameKind)}, l.lookup x = some k → (x, k) ∈ l
  | (y, j) :: r, h => by
    rw [List.lookup_cons] at h
    by_cases e : (x == y) = true
    · rw [e] at h; simp at h; subst h; have := eq_of_beq e; subst this; exact List.mem_cons_self
    · have e' : (x == y) = false := by simpa using e
      rw [e'] at h; exact List.mem_cons_of_mem _ (lookup_mem' h)
theorem len1 {α : Type} {P : List α → Prop} (h : ∀ a, P [a]) : ∀ l : List α, l.length = 1 → P l
  | [a], _ => h a
theorem len2 {α : Type} {P : List α → Prop} (h : ∀ a b, P [a, b]) : ∀ l : List α, l.length = 2 → P l
  | [a, b], _ => h a b
theorem len3 {α : Type} {P : List α → Prop} (h : ∀ a b c, P [a, b, c]) : ∀ l : List α, l.length = 3 → P l
  | [a, b, c], _ => h a b c
theorem len4 {α : Type} {P : List α → Prop} (h : ∀ a b c d, P [a, b, c, d]) : ∀ l : List α, l.length = 4 → P l
  | [a, b, c, d], _ => h a b c d
theorem len5 {α : Type} {P : List α → Prop} (h : ∀ a b c d e, P [a, b, c, d, e]) : ∀ l : List α, l.length = 5 → P l
  | [a, b, c, d, e], _ => h a b c d e
structure FnG (hb : Heap) (x : Str) (p : Program) (i : Nat) (f : Addr) : Prop where
  g : Gl hb x (.ref f)
  fn : IsFn hb f
  a : FnIs hb f (paramsAt p i) (bodyAt p i) (scopeAt p i)
theorem FnG.c {hb : Heap} {x : Str} {p : Program} {i : Nat} {f : Addr} (h : FnG hb x p i f) {w : World} {n : Nat} {S : Spec} (c : Contract p w hb (.ref f) n S) : FnC p w hb x n S := ⟨⟨f, h.g, h.fn, c⟩⟩
theorem fnT_of {p q : Program} {loose : List Str} {mean : ExcName → Option Value} {hb : Heap} {mg mb : Str → Option Value} (T : Top q loose mean mg mb hb) {i : Nat} {x : Str} {idx : List Nat} (hr : recsOf q = idx.map (recAt p)) (hi : idx.contains i = true) (hx : (recAt p i).name = x) (hd : (x == ("__debug__" : Str)) = false)
    (hc : scopeChk (scopeAt p i) (paramsAt p i) = true)
    (hb' : ∀ (pm code doc : Value) (vals : List Value), vals.length = (paramsAt p i).length → bindArgs (Calls.docDef (recAt p i).name (recAt p i).params (recAt p i).body (recAt p i).scope pm code doc) ⟨vals, []⟩ = pure ((paramsAt p i).zip vals)) : ∃ f, mg x = some (.ref f) ∧ FnG hb x p i f := by
  obtain ⟨f, o, pm, code, doc, h1, h2, h3, h4⟩ := T.fn (recAt p i) (by rw [hr]; exact List.mem_map_of_mem (List.contains_iff_mem.mp hi))
  rw [hx] at h1
  unfold scopeChk at hc
  simp only [Bool.and_eq_true, Bool.not_eq_true', decide_eq_true_eq, List.all_eq_true, Bool.or_eq_true, decide_eq_false_iff_not] at hc
  obtain ⟨⟨⟨⟨⟨⟨c1, c2⟩, c3⟩, c4⟩, c5⟩, c6⟩, c7⟩ := hc
  refine ⟨f, h1, glT_of T.g h1 rfl hd, ⟨⟨_, _, h2, h3⟩⟩, ⟨_, _, h2, h3, ?_, recAt_scope p i, rfl, rfl, rfl, h4, hb' pm code doc⟩, c1, c2, c3, c4, c5, c6, fun x hx => c7 _ (lookup_mem' hx) rfl⟩
  exact congrArg FuncBody.stmts (recAt_body p i)
local macro_rules | `(tactic| walk_at "fn") => `(tactic| (refine' fnT_of (by assumption) (by assumption) ?ki ?kx ?kd ?kk ?kb; (case ki => rfl); (case kx => rfl); (case kd => decide); (case kk => decide +kernel); (case kb => intro _ _ _; first | exact len1 (fun _ => rfl) | exact len2 (fun _ _ => rfl) | exact len3 (fun _ _ _ => rfl) | exact len4 (fun _ _ _ _ => rfl) | exact len5 (fun _ _ _ _ _ => rfl) | exact len6 (fun _ _ _ _ _ _ => rfl))))

def B1 (l : Addr) (xs : List MV) : MH := fun a => if a = l then some (.ro xs) else none
theorem vsR_ints {vs : List Value} {ns : List Int} (h : IntsAre vs ns) : VsR (ns.map MV.int) vs := by
  induction h with
  | nil => exact .nil
  | cons n t _ ih => exact .cons ⟨t, rfl⟩ ih
theorem law_end {p : Program} {w : World} {s₁ : Shared} {fa l : Addr} {ns : List Int} {vs : List Value} {n : Nat} {S : Spec} (ct : Contract p w s₁.heap (.ref fa) n S)
    (hS : ∀ (B : MH) (Q : MV → MH → Own → Prop), B l = some (.ro (ns.map MV.int)) → (∀ z ∈ ns, Builtin.Int.intBits z ≤ 2000000) → (∀ B' own', Q (.bool true) B' own') → S [.ref l] B [] Q)
    (hn1 : callerA.depth + n < recursionLimit) (hn2 : callerA.units + 3 * n + 100 < cLine)
    (hL : s₁.heap.IsList l vs.toArray) (hI : IntsAre vs ns) (hlen : ns.length ≤ 63) (hlay : (PyData.list (ns.map PyData.int)).layable0 = true)
    {Q : Value → Shared → Prop} {E : Value → Shared → Prop}
    (h : ∀ s', (∀ b o, s₁.heap.get? b = some o → s'.heap.get? b = some o) → s'.gens = s₁.gens → s'.os = s₁.os → Q (.bool true) s') :
    wpAny (model p w) callerA ((fun f vs => call f vs) (.ref fa) [.ref l]) Q E s₁ := by
  have hB1 : B1 l (ns.map MV.int) l = some (.ro (ns.map MV.int)) := by simp [B1]
  refine wpAny_mono (ct callerA s₁ [.ref l] [.ref l] (B1 l (ns.map MV.int)) [] (fun m _ _ => m = .bool true) rfl hn1 hn2 (fun _ _ h => h) (fun a o ha => ?_) (fun _ h => nomatch h) .nil (fun _ h => nomatch h) (.cons rfl .nil) (hS _ _ hB1 (fun z hz => Nat.le_trans (PyData.bits_item_of_ints hlay hz) (by decide)) fun _ _ => rfl)) ?_ ?_
  · unfold B1 at ha
    split at ha
    · rename_i e; subst e; cases ha
      exact ⟨_, hL, by simpa using vsR_ints hI, by have : lim = 1000000 := rfl; simp; omega⟩
    · cases ha
  · rintro v s' ⟨m, B', own', hv, k, hg, hos, -, -, -, -, -, -, -, rfl⟩
    have : v = .bool true := hv
    subst this
    exact h s' (fun b o hb => k b o (fun h => nomatch h) hb) hg hos
  · intro _ _ x; exact x.elim
section
set_option autoImplicit false
set_option Elab.async false
set_option maxRecDepth 1000000
set_option maxHeartbeats 8000000
open PySem PySem.W PyProof.Rows
def keepT : List Nat := [1, 2, 3, 4, 6, 7, 9, 10, 11, 12, 13, 14, 15, 17, 18, 19, 20, 22, 23, 24, 25, 26, 27, 28, 29, 30, 31, 32, 33, 34, 35, 36, 37]
def fnsT : List Nat := [1, 2, 3, 4, 11, 12, 13, 14, 15, 17, 18, 19, 20, 22, 23, 24, 25, 26, 27, 28, 29, 30, 31, 32, 33, 34, 35, 36, 37]
theorem recsT : recsOf (view P keepT) = fnsT.map (recAt P) := by kernel_rfl
theorem leftT : LeftO P (view P keepT) [] (fun s => recOk [] s) (fun _ => ()) (fun _ => ()) 2764 := by intro w; kernel_rfl
theorem law_holds : PySem.Challenge.rw_uf010028_05.Holds := by
  w_on
  o_law
  refine holds_openX (q := view P keepT) (loose := []) (Xt := fun s => recOk [] s) (XP := fun _ _ => True) (Yf := fun _ => ()) (Ya := fun _ => ()) (d := recAt P 37) (kwd := []) (N := 2764) leftT (fun _ _ => trivial) (fun _ _ _ _ _ => trivial) (by kernel_rfl) (by kernel_rfl) (by kernel_rfl) (fun s e => recFacts_of e) (by rfl) (by first | assumption | decide +kernel) (by decide +kernel) ⟨rfl, rfl, rfl, rfl, rfl, by decide +kernel⟩ ?hw ?hc
  (case hw => w_witness2)
  intro w s₀ s₁ mg mb G y fa o pm cd doc dV kV ho hd hcd hD hmg hg args vals as L hpre hlay hrd hwl hlo
  clear hd hcd hD ho L y
  refine Ground.open G ?_
  intro T B D TE TW
  clear B D TE TW G
  have hrecs := recsT
  have glen : Gl s₁.heap "len" (.oth (.builtin "len")) := glT_bi T (by decide +kernel) (by decide) (by boot_by_name) rfl (by decide)
  have gmax : Gl s₁.heap "max" (.oth (.builtin "max")) := glT_bi T (by decide +kernel) (by decide) (by boot_by_name) rfl (by decide)
  have gmin : Gl s₁.heap "min" (.oth (.builtin "min")) := glT_bi T (by decide +kernel) (by decide) (by boot_by_name) rfl (by decide)
  have gisi : Gl s₁.heap "isinstance" (.oth (.builtin "isinstance")) := glT_bi T (by decide +kernel) (by decide) (by boot_by_name) rfl (by decide)
  have grange : Gl s₁.heap "range" (.oth (.type "range")) := glT_bi T (by decide +kernel) (by decide) (by boot_by_name) rfl (by decide)
  have gint : Gl s₁.heap "int" (.oth (.type "int")) := glT_bi T (by decide +kernel) (by decide) (by boot_by_name) rfl (by decide)
  have gbool : Gl s₁.heap "bool" (.oth (.type "bool")) := glT_bi T (by decide +kernel) (by decide) (by boot_by_name) rfl (by decide)
  have gli : Gl s₁.heap "list" (.oth (.type "list")) := glT_bi T (by decide +kernel) (by decide) (by boot_by_name) rfl (by decide)
  have gtup : Gl s₁.heap "tuple" (.oth (.type "tuple")) := glT_bi T (by decide +kernel) (by decide) (by boot_by_name) rfl (by decide)
  have gso : Gl s₁.heap "sorted" (.oth (.builtin "sorted")) := glT_bi T (by decide +kernel) (by decide) (by boot_by_name) rfl (by decide)
  have grv : Gl s₁.heap "reversed" (.oth (.type "reversed")) := glT_bi T (by decide +kernel) (by decide) (by boot_by_name) rfl (by decide)
  have gd : GlD s₁.heap := glT_bi T (by decide +kernel) (by decide) (by boot_by_name) rfl (by decide)
  have gmost : Gl s₁.heap "MOST_ROWS" (.int 20) := glT_int T (by kernel_rfl) (by decide)
  have gboxes : Gl s₁.heap "BOXES" (.int 4) := glT_int T (by kernel_rfl) (by decide)
  obtain ⟨f_law_cell_at, -, F_law_cell_at⟩ : ∃ f, mg "_law_cell_at" = some (.ref f) ∧ FnG s₁.heap "_law_cell_at" P i_cell_at f := by walk_at "fn"
  obtain ⟨f_law_number_by, -, F_law_number_by⟩ : ∃ f, mg "_law_number_by" = some (.ref f) ∧ FnG s₁.heap "_law_number_by" P i_number_by f := by walk_at "fn"
  obtain ⟨f_law_near, -, F_law_near⟩ : ∃ f, mg "_law_near" = some (.ref f) ∧ FnG s₁.heap "_law_near" P i_near f := by walk_at "fn"
  obtain ⟨f_law_row_by, -, F_law_row_by⟩ : ∃ f, mg "_law_row_by" = some (.ref f) ∧ FnG s₁.heap "_law_row_by" P i_row_by f := by walk_at "fn"
  obtain ⟨f_law_rows_by, -, F_law_rows_by⟩ : ∃ f, mg "_law_rows_by" = some (.ref f) ∧ FnG s₁.heap "_law_rows_by" P i_rows_by f := by walk_at "fn"
  obtain ⟨f_is_number, -, F_is_number⟩ : ∃ f, mg "is_number" = some (.ref f) ∧ FnG s₁.heap "is_number" P i_is_number f := by walk_at "fn"
  obtain ⟨f_is_within, -, F_is_within⟩ : ∃ f, mg "is_within" = some (.ref f) ∧ FnG s₁.heap "is_within" P i_is_within f := by walk_at "fn"
  obtain ⟨f_is_row, -, F_is_row⟩ : ∃ f, mg "is_row" = some (.ref f) ∧ FnG s₁.heap "is_row" P i_is_row f := by walk_at "fn"
  obtain ⟨f_need_rows, -, F_need_rows⟩ : ∃ f, mg "need_rows" = some (.ref f) ∧ FnG s₁.heap "need_rows" P i_need_rows f := by walk_at "fn"
  obtain ⟨f_nexts, -, F_nexts⟩ : ∃ f, mg "nexts" = some (.ref f) ∧ FnG s₁.heap "nexts" P i_nexts f := by walk_at "fn"
  obtain ⟨f_come_to, -, F_come_to⟩ : ∃ f, mg "come_to" = some (.ref f) ∧ FnG s₁.heap "come_to" P i_come_to f := by walk_at "fn"
  obtain ⟨f_goings, -, F_goings⟩ : ∃ f, mg "goings" = some (.ref f) ∧ FnG s₁.heap "goings" P i_goings f := by walk_at "fn"
  obtain ⟨f_live_rows, -, F_live_rows⟩ : ∃ f, mg "live_rows" = some (.ref f) ∧ FnG s₁.heap "live_rows" P i_live_rows f := by walk_at "fn"
  obtain ⟨f_way, -, F_way⟩ : ∃ f, mg "way" = some (.ref f) ∧ FnG s₁.heap "way" P i_way f := by walk_at "fn"
  obtain ⟨f_rings_of, -, F_rings_of⟩ : ∃ f, mg "rings_of" = some (.ref f) ∧ FnG s₁.heap "rings_of" P i_rings_of f := by walk_at "fn"
  obtain ⟨f_entries, -, F_entries⟩ : ∃ f, mg "entries" = some (.ref f) ∧ FnG s₁.heap "entries" P i_entries f := by walk_at "fn"
  obtain ⟨f_crossed_ring, -, F_crossed_ring⟩ : ∃ f, mg "crossed_ring" = some (.ref f) ∧ FnG s₁.heap "crossed_ring" P i_crossed_ring f := by walk_at "fn"
  obtain ⟨f_crossing, -, F_crossing⟩ : ∃ f, mg "crossing" = some (.ref f) ∧ FnG s₁.heap "crossing" P i_crossing f := by walk_at "fn"
  obtain ⟨f_law_come, -, F_law_come⟩ : ∃ f, mg "_law_come" = some (.ref f) ∧ FnG s₁.heap "_law_come" P i_law_come f := by walk_at "fn"
  obtain ⟨f_law_reach, -, F_law_reach⟩ : ∃ f, mg "_law_reach" = some (.ref f) ∧ FnG s₁.heap "_law_reach" P i_law_reach f := by walk_at "fn"
  obtain ⟨f_law_after, -, F_law_after⟩ : ∃ f, mg "_law_after" = some (.ref f) ∧ FnG s₁.heap "_law_after" P i_law_after f := by walk_at "fn"
  obtain ⟨f_law_onward, -, F_law_onward⟩ : ∃ f, mg "_law_onward" = some (.ref f) ∧ FnG s₁.heap "_law_onward" P i_law_onward f := by walk_at "fn"
  obtain ⟨f_law_round, -, F_law_round⟩ : ∃ f, mg "_law_round" = some (.ref f) ∧ FnG s₁.heap "_law_round" P i_law_round f := by walk_at "fn"
  obtain ⟨f_law_crossers, -, F_law_crossers⟩ : ∃ f, mg "_law_crossers" = some (.ref f) ∧ FnG s₁.heap "_law_crossers" P i_law_crossers f := by walk_at "fn"
  obtain ⟨f_law_ring_by, -, F_law_ring_by⟩ : ∃ f, mg "_law_ring_by" = some (.ref f) ∧ FnG s₁.heap "_law_ring_by" P i_law_ring_by f := by walk_at "fn"
  obtain ⟨f_law_is_way, -, F_law_is_way⟩ : ∃ f, mg "_law_is_way" = some (.ref f) ∧ FnG s₁.heap "_law_is_way" P i_law_is_way f := by walk_at "fn"
  have F_law : FnG s₁.heap "law" P i_law fa := by
    obtain ⟨f, e, F⟩ : ∃ f, mg "law" = some (.ref f) ∧ FnG s₁.heap "law" P i_law f := by
      walk_at "fn"
    have e' := hmg.symm.trans e
    cases e'
    exact F
  clear hmg hrecs
  wrow_args hpre hlay hrd hwl hlo
  have hlim := T.nolimit
  have c_law_cell_at := F_law_cell_at.c (ct_cell (w := w) (n := 0) F_law_cell_at.a hlim glen)
  have c_law_number_by := F_law_number_by.c (ct_number (w := w) (n := 0) F_law_number_by.a hlim)
  have c_law_near := F_law_near.c (ct_near (w := w) (n := 0) F_law_near.a hlim gmax gmin)
  have c_law_row_by := F_law_row_by.c (ct_row_by (w := w) F_law_row_by.a hlim c_law_near c_law_number_by)
  have c_law_rows_by := F_law_rows_by.c (ct_rows_by (w := w) F_law_rows_by.a hlim c_law_cell_at c_law_row_by grange)
  have c_is_number := F_is_number.c (ct_is_number (w := w) (n := 0) F_is_number.a hlim gisi gint gbool)
  have c_is_within := F_is_within.c (ct_is_within (w := w) F_is_within.a hlim c_is_number)
  have c_is_row := F_is_row.c (ct_is_row (w := w) F_is_row.a hlim c_is_number c_is_within glen gboxes)
  have c_need_rows := F_need_rows.c (ct_need_rows (w := w) F_need_rows.a hlim c_is_row glen gmost)
  have c_nexts := F_nexts.c (ct_nexts (w := w) (n := 0) F_nexts.a hlim)
  have c_come_to := F_come_to.c (ct_come_to (w := w) (n := 0) F_come_to.a hlim glen)
  have c_goings := F_goings.c (ct_goings (w := w) F_goings.a hlim c_nexts glen gint)
  have c_live_rows := F_live_rows.c (ct_live_rows (w := w) F_live_rows.a hlim c_goings c_come_to gd glen grange gli gso)
  have c_way := F_way.c (ct_way (w := w) F_way.a hlim c_need_rows c_goings glen gli grv)
  have c_rings_of := F_rings_of.c (ct_rings_of (w := w) F_rings_of.a hlim c_come_to gd glen gso)
  have c_entries := F_entries.c (ct_entries (w := w) (n := 0) F_entries.a hlim gd gli gso)
  have c_crossed_ring := F_crossed_ring.c (ct_crossed_ring (w := w) F_crossed_ring.a hlim c_rings_of c_entries glen gli)
  have c_crossing := F_crossing.c (ct_crossing (w := w) F_crossing.a hlim c_need_rows c_goings c_live_rows c_crossed_ring c_entries c_way glen grange)
  have c_law_come := F_law_come.c (ct_law_come (w := w) (n := 0) F_law_come.a hlim glen)
  have c_law_reach := F_law_reach.c (ct_law_reach (w := w) F_law_reach.a hlim c_law_come glen grange)
  have c_law_after := F_law_after.c (ct_law_after (w := w) (n := 0) F_law_after.a hlim)
  have c_law_onward := F_law_onward.c (ct_law_onward (w := w) F_law_onward.a hlim c_law_come c_law_after glen grange)
  have c_law_round := F_law_round.c (ct_law_round (w := w) (n := 0) F_law_round.a hlim glen gli)
  have c_law_crossers := F_law_crossers.c (ct_law_crossers0 (w := w) F_law_crossers.a hlim c_law_onward c_law_round)
  have c_law_ring_by := F_law_ring_by.c (ct_ring_by (w := w) (n := 0) F_law_ring_by.a hlim grange)
  have c_law_is_way := F_law_is_way.c (ct_is_way5 (w := w) (n := 0) F_law_is_way.a hlim glen grange gisi gint gbool gli)
  have c_law := ct_law (w := w) F_law.a hlim c_law_rows_by c_law_cell_at c_law_ring_by c_crossing c_law_reach c_law_crossers c_law_is_way glen grange gli gisi gint gbool gtup
  rename_i hlay0 hr0 hl20 as1 as2 l vs as3 hL0 ra0 w10 r00 hI0 hr00 hc1 hc2
  refine law_end c_law (fun B Q hB hz hQ => ⟨rfl, l, _, rfl, hB, hz, hQ⟩) (by decide +kernel) (by decide +kernel) hL0 hI0 (by omega) (by assumption) (fun s' hk hg' hos => ?_)
  exact GoodW.toG ⟨.inl ⟨_, .bool true, [], rfl, fun _ => rfl, .bool true, by wrow_post, unshared_nil⟩, hk, hos, hg'.trans hg⟩
end
end Mine
theorem PySem.Challenge.cw_uf010028_05_holds : PySem.Challenge.rw_uf010028_05.Holds :=
  Mine.law_holds
