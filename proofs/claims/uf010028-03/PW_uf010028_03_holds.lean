import PyProof.Rows.All
import Wide.All
import OpenK.AllK
import Wide.FinOn
import PyProof.DictKinds
import PyProof.DictIter
import PyProof.DictDisplay
import PyProof.Rows.EqNone
import PyProof.FactsAll.NoneType_1
import PyProof.AttrMissHeap
import PyProof.Walks
import KE.KDictOf
import PyProof.ListOps
import PyProof.MeetsDict
import PyProof.DictStraight
import PyProof.Cells
import PyProof.CompFree
import PyProof.WalksMore
import PyProof.RangeIter
import PyProof.CallRoads
import PyProof.CallType
import PyProof.PureInt
import PyProof.TupleOps
import PyProof.Rules3
import PyProof.LetGo
import PyProof.DefCall
import PyProof.NoPylong
import PyProof.ListIndexNeg
import PyProof.DictWalks
import PyProof.CompMap
import PyProof.IsiHeapPairs
import PyProof.IsiNone
import PyProof.IsiPairs
import PyProof.ListCopy
import PyProof.RangeFor
import PyProof.StrOps
import PyProof.WalkInts
import PyProof.EqAt
import PyProof.FactsAll.list_0
import PyProof.FactsDict
import PyProof.DictRoads
import PyProof.Conv_int_bool
import KE.KDictList
import KE.KRevIter
import PyProof.Rows.SortWalk
import PyProof.NeKinds
import OpenK.KLine
import PySem.Challenge.RW_uf010028_03
set_option Elab.async false
set_option compiler.extract_closed false
set_option genSizeOf false
set_option genInjectivity false
namespace Mine
end Mine
section
open PySem PySem.W PyProof.Rows
set_option maxRecDepth 100000
set_option maxHeartbeats 8000000
open_top Mine.hd for PySem.Challenge.rw_uf010028_03
end
set_option autoImplicit false
set_option linter.unusedVariables false
namespace Mine
open PySem PySem.EqNone

/-! dictionary keys: None or an int -/
def keyIs : Option Int → Value → Bool
  | none, .none => true
  | some k, v => Value.isInt k v
  | _, _ => false
def keyHash : Option Int → Int
  | none => 0xFCA86420
  | some k => hashInt k

theorem keyIs_none {v : Value} (h : keyIs none v = true) : v = .none := by
  cases v <;> first | rfl | (simp [keyIs] at h)
theorem keyIs_some {k : Int} {v : Value} (h : keyIs (some k) v = true) : ∃ t, v = .int k t := Value.isInt_shape h
section
variable {prog : Program} {w : World} {A : Around} {E : Value → Shared → Prop} {s : Shared}
theorem eqBool_none_int {a : Int} {t : Tok} {Q : Bool → Shared → Prop} (h : Q false s) : wpAny (model prog w) A (eqBool .none (.int a t)) Q E s := by
  unfold eqBool
  show wpAny (model prog w) A (richCompare .Eq .none (.int a t) >>= fun r => truthOfDropped r) Q E s
  exact wpAny_bind (eq_none_int (wpAny_truthy_bool h))
theorem eqBool_int_none {a : Int} {t : Tok} {Q : Bool → Shared → Prop} (h : Q false s) : wpAny (model prog w) A (eqBool (.int a t) .none) Q E s := by
  unfold eqBool
  show wpAny (model prog w) A (richCompare .Eq (.int a t) .none >>= fun r => truthOfDropped r) Q E s
  exact wpAny_bind (eq_int_none (wpAny_truthy_bool h))
theorem eqBool_none_none {Q : Bool → Shared → Prop} (h : Q true s) : wpAny (model prog w) A (eqBool .none .none) Q E s := by
  unfold eqBool
  show wpAny (model prog w) A (rule "eq-bool.same-object" >>= fun _ => pure true) Q E s
  exact wpAny_bind (wpAny_rule (wpAny_pure h))
theorem pyHash_none {Q : Int → Shared → Prop} (h : Q (keyHash none) { s with toks := s.toks + 1 }) : wpAny (model prog w) A (pyHash .none) Q E s := by
  unfold pyHash
  refine wpAny_bind ?_
  rw [cRoomFor, if_neg (by rw [show [Value.none].any Value.onHeap = false from rfl]; exact Bool.false_ne_true)]; refine wpAny_pure ?_
  have hT : s.TypeIs .none "NoneType" := rfl
  refine wpAny_bind (wpAny_specialOf hT F.slot_NoneType_hash.lookup ?_)
  show wpAny _ _ (if (some (Value.builtin "NoneType.__hash__") == some Value.none) = true then _ else _) Q E s
  rw [if_neg (by rw [beq_builtin_none]; exact Bool.false_ne_true)]
  refine wpAny_bind (wpAny_specialOf hT F.slot_NoneType_hash.lookup ?_)
  refine wpAny_bind (wpAny_callSpecialIfBoundUnlessNone?_slot hT F.slot_NoneType_hash
    (wpAny_call_entry F.slot_NoneType_hash hT F.entry_NoneType_hash
      (show wpAny _ _ (do ret (← mkInt 0xFCA86420)) _ _ s from wpAny_ret_mkInt ?_) (F.args_NoneType_hash_1 _)))
  exact wpAny_pure h
end
def optKind (prog : Program) (w : World) : KeyKind prog w (Option Int) where
  is := keyIs
  hash := keyHash
  inj := fun v a b ha hb => by
    cases a with
    | none => cases b with
      | none => rfl
      | some b => obtain rfl := keyIs_none ha; obtain ⟨t, e⟩ := keyIs_some hb; cases e
    | some a => obtain ⟨t, rfl⟩ := keyIs_some ha; cases b with
      | none => have := keyIs_none hb; cases this
      | some b => obtain ⟨u, e⟩ := keyIs_some hb; cases e; rfl
  byValue := fun k v h => by
    cases k with
    | none => obtain rfl := keyIs_none h; rfl
    | some k => obtain ⟨t, rfl⟩ := keyIs_some h; rfl
  pyHash := fun {A E s k v Q} h hq => by
    cases k with
    | none => obtain rfl := keyIs_none h; exact pyHash_none hq
    | some k => obtain ⟨t, rfl⟩ := keyIs_some h; exact wpAny_pyHash_int hq
  eqBool := fun {A E s a b u v Q} ha hb hq => by
    cases a with
    | none => obtain rfl := keyIs_none ha; cases b with
      | none => obtain rfl := keyIs_none hb; exact eqBool_none_none hq
      | some b => obtain ⟨t, rfl⟩ := keyIs_some hb; exact eqBool_none_int (by simpa using hq)
    | some a => obtain ⟨t, rfl⟩ := keyIs_some ha; cases b with
      | none => obtain rfl := keyIs_none hb; exact eqBool_int_none (by simpa using hq)
      | some b => obtain ⟨u, rfl⟩ := keyIs_some hb; exact wpAny_eqBool_int (by rw [show (a == b) = decide (some a = some b) from by simp [BEq.beq]]; exact hq)
  «strs» := fun k x t v h => by
    cases k with
    | none => have := keyIs_none h; cases this
    | some k => obtain ⟨u, e⟩ := keyIs_some h; cases e

theorem pairs_any {p p' : Program} {w w' : World} {es : List DictEntry} {kvs : List (Option Int × Value)} (h : Pairs (optKind p w) es kvs) : Pairs (optKind p' w') es kvs := by
  induction h with
  | nil => exact .nil
  | cons h1 h2 _ ih => exact .cons h1 h2 ih
theorem dictOf_any {p p' : Program} {w w' : World} {h : Heap} {a : Addr} {kvs : List (Option Int × Value)} (x : h.DictOf (optKind p w) a kvs) : h.DictOf (optKind p' w') a kvs :=
  let ⟨o, es, ep, h1, h2, h3, h4, h5, h6⟩ := x; ⟨o, es, ep, h1, h2, h3, h4, pairs_any h5, h6⟩
theorem size_ne_modules {h : Heap} (hl : h.NoLimit) : (h.objs.size == sysModules) = false := by
  obtain ⟨mc, ⟨o, es, ep, ho, _⟩, _⟩ := hl
  have h1 : cStatics < h.objs.size := Heap.lt_size ho
  have h2 : (1 : Nat) < h.objs.size := Nat.lt_of_le_of_lt (by decide) h1
  cases e : (h.objs.size == sysModules) with
  | false => rfl
  | true => have e' : h.objs.size = 1 := eq_of_beq e; omega
end Mine
set_option autoImplicit false
set_option linter.unusedVariables false
set_option maxRecDepth 100000
namespace Mine
open PySem

theorem miss_keys_list : typeLookup (.type "list") (Str.ofString "keys") = pure none := am_miss_of_fast (by kernel_rfl)
theorem getAttrQ_keys_list {prog : Program} {w : World} {A : Around} {E : Value → Shared → Prop} {s : Shared} {a : Addr} {xs : Array Value} {k : Nat} {sl : Array (Option Value)} {Q : Option Value → Shared → Prop}
    (hx : s.heap.get? a = some { cls := .type "list", dict := none, data := .seq xs k, slots := sl }) (hA : A.handled = none)
    (h : ∀ h' tk, (∀ b o, s.heap.get? b = some o → h'.get? b = some o) → Q none { s with heap := h', toks := tk }) :
    wpAny (model prog w) A (getAttr? (.ref a) (Str.ofString "keys")) Q E s := by
  obtain ⟨hp, g, d, tk, os⟩ := s
  have hT : ∀ tk', (⟨hp, g, d, tk', os⟩ : Shared).TypeIs (.ref a) "list" := fun _ => ⟨_, hx, rfl⟩
  have f1 := sub_AttributeError
  have f3 := F.slot_list_getattribute.lookup
  have f4 := F.slot_list_getattribute.bind (.ref a)
  have f5 := am_list_getattr_none
  unfold getAttr? getAttrBy? getAttrBy
  repeat (any_goals (first | assumption | exact hT _ | ((with_reducible show wpAny _ _ (call (Value.builtin "list.__getattribute__") _ _) _ _ _); refine call_meets F.slot_list_getattribute (hT _) am_entry_list_getattribute (F.args_list_getattribute_2 _ _) (meets_getattribute_miss_list a xs k sl (Str.ofString "keys") _ miss_keys_list (by decide +kernel) (by size_fits)) ⟨hx, hA, fun h' tk' e hx' => ?_⟩) | wp_step))
  obtain ⟨t', u', he⟩ := hx'.there
  show wpAny _ _ (getattributeRaised _ _ _ _ _ _ _) _ _ _
  unfold getattributeRaised
  repeat (any_goals (first | assumption | wp_step))
  exact h _ _ hx'.keeps

theorem entry_dict_update_loop : entryFor table "dict.update.loop" = some Builtin.«dict.update.loop» := entryFor_of_tree (by kernel_rfl)

section
variable {prog : Program} {w : World} {K : Type} [DecidableEq K] {knd : KeyKind prog w K}
/-- the pairs that a list holds -/
def PairsAt (knd : KeyKind prog w K) (h : Heap) (vs : Array Value) (it d : Addr) (kvs : List (K × Value)) : Prop :=
  vs.size = kvs.length ∧ ∀ (j : Nat) (k : K) (v : Value), kvs[j]? = some (k, v) → ∃ (t : Addr) (o : Obj) (key : Value) (n : Nat), vs[j]? = some (.ref t) ∧ t ≠ it ∧ t ≠ d ∧ h.get? t = some o ∧ o.cls = .type "tuple" ∧ o.data = .seq #[key, v] n ∧ knd.is k key = true

theorem update_loop {l it d : Addr} {vs : Array Value} {h₀ : Heap} {kvs : List (K × Value)} (hld : l ≠ d) (hli : l ≠ it) (hdi : d ≠ it) (P : PairsAt knd h₀ vs it d kvs) (hsz : kvs.length ≤ 1000000) :
    ∀ (k i : Nat) (acc : List (K × Value)) (A : Around) (s : Shared) (R : Result → Shared → Prop), kvs.length - i = k → i ≤ kvs.length → A.handled = none → (∀ b o, b ≠ it → b ≠ d → h₀.get? b = some o → s.heap.get? b = some o) →
      s.heap.IsListIter it l i → s.heap.IsList l vs → s.heap.DictOf knd d acc → acc.length ≤ i →
      (∀ h' tk, (∀ b o, b ≠ it → b ≠ d → s.heap.get? b = some o → h'.get? b = some o) → h'.DictOf knd d (merged acc (kvs.drop i)) → R (.ok (.ret .none)) { s with heap := h', toks := tk }) →
      codeAny (model prog w) A (.builtin "dict.update.loop" ⟨[.ref d, .ref it, rawInt i, .none], []⟩) R s := by
  intro k
  induction k with
  | zero =>
    intro i acc A s R hk hi hA hkeep hit hl hd hacc hR
    have hn : vs[i]? = none := by rw [Array.getElem?_eq_none]; have := P.1; omega
    have hdr : kvs.drop i = [] := List.drop_eq_nil_of_le (by omega)
    refine codeAny_builtin entry_dict_update_loop ?_
    unfold Builtin.«dict.update.loop»
    dsimp only [rawInt]
    refine wpAny_bind (wpAny_pyNext_list_end (by exact hA) hit hl hn fun h' hx => ?_)
    refine wpAny_bind (wpAny_pure (wpAny_pure ?_))
    have := hR h' s.toks (fun b o h1 h2 hb => hx b o h1 hb) (by rw [hdr]; exact hd.extBut hx hdi)
    exact this
  | succ k ih =>
    intro i acc A s R hk hi hA hkeep hit hl hd hacc hR
    have hlt : i < kvs.length := by omega
    obtain ⟨⟨ke, v⟩, hkv⟩ : ∃ p, kvs[i]? = some p := ⟨kvs[i], by simp [hlt]⟩
    obtain ⟨t, o, key, n, hv, ht1, ht2, ho, hoc, hod, hkey⟩ := P.2 i ke v hkv
    have hdr : kvs.drop i = (ke, v) :: kvs.drop (i + 1) := by
      rw [List.drop_eq_getElem_cons hlt]; congr 1; rw [List.getElem?_eq_getElem hlt] at hkv; exact Option.some.inj hkv
    refine codeAny_builtin entry_dict_update_loop ?_
    unfold Builtin.«dict.update.loop»
    dsimp only [rawInt]
    refine wpAny_bind (wpAny_pyNext_list_item hit hl hv fun h1 hit1 hs1 => ?_)
    have ho1 : h1.get? t = some o := (hs1.2 t ht1).trans (hkeep t o ht1 ht2 ho)
    have hl1 : h1.IsList l vs := (let ⟨o', g1, g2⟩ := hl; ⟨o', (hs1.2 l hli).trans g1, g2⟩)
    have hd1 : h1.DictOf knd d acc := hd.sameBut hs1 hdi
    refine wpAny_bind (wpAny_holding (wpAny_bind (wpAny_tryCatch ?_)))
    unfold Builtin.Dict.pairItems
    refine wpAny_bind (wpAny_typeOf (T := "tuple") ⟨o, ho1, hoc⟩ ?_)
    rw [if_pos (by decide)]
    refine wpAny_bind (wpAny_seqItems ho1 hod ?_)
    refine wpAny_pure ?_
    show wpAny _ _ (holding [key, v] (dictSet d key v)) _ _ _
    refine wpAny_holding (wpAny_dictSet_pairs hkey hd1 (fun h2 hd2 hs2 => ?_) (by have : (1000000 : Nat) ≤ sizeLine := by decide +kernel
                                                                                  omega))
    refine wpAny_pure ⟨Code.quiet_builtin _ (by decide +kernel), ?_⟩
    have e1 : ((i : Int) + 1) = ((i + 1 : Nat) : Int) := rfl
    rw [e1]
    refine ih (i + 1) (stored acc ke v) A _ R (by omega) (by omega) hA (fun b o' h1' h2' hb => ?_) (let ⟨o', g1, g2⟩ := hit1; ⟨o', (hs2.2 it (Ne.symm hdi)).trans g1, g2⟩) (let ⟨o', g1, g2⟩ := hl1; ⟨o', (hs2.2 l hld).trans g1, g2⟩) hd2 (Nat.le_trans (stored_length_le acc ke v) (by omega)) ?_
    · show h2.get? b = some o'
      rw [hs2.2 b h2', hs1.2 b h1']; exact hkeep b o' h1' h2' hb
    · intro h' tk hk' hd'
      refine hR h' tk (fun b o' h1' h2' hb => hk' b o' h1' h2' ?_) ?_
      · show h2.get? b = some o'
        rw [hs2.2 b h2', hs1.2 b h1']; exact hb
      · rw [hdr]; exact hd'

theorem call_dictPairs {A : Around} {E : Value → Shared → Prop} {s : Shared} {l : Addr} {vs : Array Value} {nn : Nat} {sl : Array (Option Value)} {kvs : List (K × Value)} {Q : Value → Shared → Prop} (hA : A.handled = none)
    (ho : s.heap.get? l = some { cls := .type "list", dict := none, data := .seq vs nn, slots := sl }) (hsz : kvs.length ≤ 1000000) (hlen : vs.size = kvs.length)
    (P : ∀ (j : Nat) (k : K) (v : Value), kvs[j]? = some (k, v) → ∃ (t : Addr) (o : Obj) (key : Value) (n : Nat), vs[j]? = some (.ref t) ∧ s.heap.get? t = some o ∧ o.cls = .type "tuple" ∧ o.data = .seq #[key, v] n ∧ knd.is k key = true)
    (h : ∀ h' tk, (∀ b o, s.heap.get? b = some o → h'.get? b = some o) → h'.DictOf knd s.heap.objs.size (merged [] kvs) → Q (.ref s.heap.objs.size) { s with heap := h', toks := tk }) :
    wpAny (model prog w) A (call (.type "dict") [.ref l]) Q E s := by
  refine callType_codes (Q₁ := fun obj s₁ => obj = .ref s.heap.objs.size ∧ s₁ = { s with heap := s.heap.push { cls := .type "dict", data := .dict #[] } }) F.kt_called_dict (F.kt_typeCall_dict_1 _) F.entry_dict_init (kt_code_dict_new _ ⟨rfl, rfl⟩) ?_
  rintro obj s₁ ⟨rfl, rfl⟩
  have hnew : (s.heap.push { cls := .type "dict", data := .dict #[] }).DictOf knd s.heap.objs.size [] := Heap.DictOf.new s.heap
  have ho' := Heap.get?_push_of_some { cls := .type "dict", data := .dict #[] } ho
  refine ⟨hnew.typeIs, F.args_dict_init_2 _ _, ?_⟩
  unfold Builtin.«dict.__init__»
  refine wpAny_bind ?_
  unfold Builtin.Dict.selfAndRest
  refine wpAny_bind (wpAny_notOrdered_dict hnew.typeIs ?_)
  show wpAny _ _ (pure (s.heap.objs.size, [Value.ref l])) _ _ _
  refine wpAny_pure ?_
  show wpAny _ _ (Builtin.Dict.updateFrom "dict.__init__" s.heap.objs.size (.ref l) [] .none) _ _ _
  unfold Builtin.Dict.updateFrom
  refine wpAny_bind (wpAny_typeOf (T := "list") ⟨_, ho', rfl⟩ ?_)
  rw [if_pos (by decide)]
  refine wpAny_bind (getAttrQ_keys_list ho' hA fun h2 tk2 hk2 => ?_)
  rw [if_pos (by rfl)]
  refine wpAny_bind (wpAny_rule ?_)
  have hl2 : h2.IsList l vs := ⟨_, hk2 _ _ ho', rfl, _, rfl⟩
  refine wpAny_bind (wpAny_pyIter_list hl2 ?_)
  have hd2 : h2.DictOf knd s.heap.objs.size [] := hnew.keep hk2
  have hlt : s.heap.objs.size < h2.objs.size := by obtain ⟨o, es, ep, g, _⟩ := hd2; exact Heap.lt_size g
  have hsz0 : ∀ b o, s.heap.get? b = some o → b ≠ s.heap.objs.size ∧ b ≠ h2.objs.size := fun b o hb => by
    have h1 : b < s.heap.objs.size := Heap.lt_size hb
    constructor
    · exact Nat.ne_of_lt h1
    · exact Nat.ne_of_lt (Nat.lt_trans h1 hlt)
  have hk3 : ∀ b o, s.heap.get? b = some o → (h2.push { cls := .type "list_iterator", data := .fields #[.ref l, .int 0 0] }).get? b = some o := fun b o hb => Heap.get?_push_of_some _ (hk2 _ _ (Heap.get?_push_of_some _ hb))
  refine wpAny_pure ⟨Code.quiet_builtin _ (by decide +kernel), ?_⟩
  refine update_loop (h₀ := s.heap) (kvs := kvs) (hsz0 l _ ho).1 (hsz0 l _ ho).2 (Nat.ne_of_lt hlt) ⟨hlen, fun j k v hj => ?_⟩ hsz kvs.length 0 [] _ _ _ rfl (Nat.zero_le _) hA (fun b o h1 h2 hb => hk3 b o hb) ⟨_, Heap.get?_push_size _ rfl, rfl, rfl⟩ (hl2.push _) (hd2.push _) (Nat.le_refl _) ?_
  · obtain ⟨t, o, key, n, g1, g2, g3⟩ := P j k v hj
    exact ⟨t, o, key, n, g1, (hsz0 t o g2).2, (hsz0 t o g2).1, g2, g3⟩
  · intro h' tk hk' hd'
    exact ⟨rfl, h h' tk (fun b o hb => hk' b o (hsz0 b o hb).2 (hsz0 b o hb).1 (hk3 b o hb)) hd'⟩
end
end Mine
set_option autoImplicit false
set_option linter.unusedVariables false
namespace Mine
open PySem

/-! values and objects without tokens -/
inductive MV where
  | none | bool (b : Bool) | int (i : Int) | str (x : Str) | ref (a : Addr) | oth (v : Value)

def VR : MV → Value → Prop
  | .none, v => v = .none
  | .bool b, v => v = .bool b
  | .int i, v => ∃ t, v = .int i t
  | .str x, v => ∃ t, v = .str x t
  | .ref a, v => v = .ref a
  | .oth u, v => v = u

inductive VsR : List MV → List Value → Prop
  | nil : VsR [] []
  | cons {m : MV} {v : Value} {ms : List MV} {vs : List Value} : VR m v → VsR ms vs → VsR (m :: ms) (v :: vs)

theorem VsR.length {ms : List MV} {vs : List Value} (h : VsR ms vs) : ms.length = vs.length := by
  induction h with
  | nil => rfl
  | cons _ _ ih => simp [ih]
theorem VsR.get {ms : List MV} {vs : List Value} (h : VsR ms vs) : ∀ {i : Nat} {m : MV}, ms[i]? = some m → ∃ v, vs[i]? = some v ∧ VR m v := by
  induction h with
  | nil => intro i m e; simp at e
  | cons hv _ ih =>
    intro i m e
    cases i with
    | zero => simp at e; subst e; exact ⟨_, by simp, hv⟩
    | succ i => simp at e; obtain ⟨v, h1, h2⟩ := ih e; exact ⟨v, by simpa using h1, h2⟩
theorem VsR.getv {ms : List MV} {vs : List Value} (h : VsR ms vs) : ∀ {i : Nat} {v : Value}, vs[i]? = some v → ∃ m, ms[i]? = some m ∧ VR m v := by
  induction h with
  | nil => intro i m e; simp at e
  | cons hv _ ih =>
    intro i m e
    cases i with
    | zero => simp at e; subst e; exact ⟨_, by simp, hv⟩
    | succ i => simp at e; obtain ⟨v, h1, h2⟩ := ih e; exact ⟨v, by simpa using h1, h2⟩
theorem VsR.append {a b : List MV} {c d : List Value} (h : VsR a c) (h' : VsR b d) : VsR (a ++ b) (c ++ d) := by
  induction h with
  | nil => exact h'
  | cons hv _ ih => exact .cons hv ih
theorem VsR.snoc {a : List MV} {c : List Value} {m : MV} {v : Value} (h : VsR a c) (h' : VR m v) : VsR (a ++ [m]) (c ++ [v]) := h.append (.cons h' .nil)
theorem VsR.take {a : List MV} {c : List Value} (h : VsR a c) (n : Nat) : VsR (a.take n) (c.take n) := by
  induction h generalizing n with
  | nil => simp; exact .nil
  | cons hv _ ih => cases n with
    | zero => simp; exact .nil
    | succ n => simp; exact .cons hv (ih n)
def keyMV : Option Int → MV
  | none => .none
  | some i => .int i
/-- the items of a dictionary, without tokens -/
structure KVR (kvs : List (Option Int × MV)) (vk : List (Option Int × Value)) : Prop where
  k : kvs.map (·.1) = vk.map (·.1)
  v : VsR (kvs.map (·.2)) (vk.map (·.2))

def lim : Nat := 1000000
theorem lim_le : lim ≤ sizeLine := by decide +kernel

inductive MO where
  | list (xs : List MV)
  | tup (xs : List MV)
  | range (n : Nat)
  | raw (o : Obj)
  | ro (xs : List MV)
  | dict (kvs : List (Option Int × MV))

def OR (h : Heap) (a : Addr) : MO → Prop
  | .list xs => ∃ vs n, h.get? a = some { cls := .type "list", dict := none, data := .seq vs n, slots := #[] } ∧ VsR xs vs.toList ∧ xs.length ≤ lim
  | .tup xs => ∃ vs n, h.get? a = some { cls := .type "tuple", dict := none, data := .seq vs n, slots := #[] } ∧ VsR xs vs.toList ∧ xs.length ≤ lim
  | .range n => ∃ t u v, IsRange h a 0 n 1 t u v ∧ n ≤ lim
  | .raw o => h.get? a = some o
  | .ro xs => ∃ vs, h.IsList a vs ∧ VsR xs vs.toList ∧ xs.length ≤ lim
  | .dict kvs => (a == sysModules) = false ∧ ∃ vk, (∃ p w, h.DictOf (optKind p w) a vk) ∧ KVR kvs vk ∧ kvs.length ≤ lim

theorem OR.at {h h' : Heap} {a : Addr} {o : MO} (x : OR h a o) (e : ∀ ob, h.get? a = some ob → h'.get? a = some ob) : OR h' a o := by
  cases o with
  | list xs => obtain ⟨vs, n, h1, h2⟩ := x; exact ⟨vs, n, e _ h1, h2⟩
  | tup xs => obtain ⟨vs, n, h1, h2⟩ := x; exact ⟨vs, n, e _ h1, h2⟩
  | range n => obtain ⟨t, u, v, h1, h2⟩ := x; exact ⟨t, u, v, e _ h1, h2⟩
  | raw o => exact e _ x
  | ro xs => obtain ⟨vs, ⟨o, h1, h2⟩, h3⟩ := x; exact ⟨vs, ⟨o, e _ h1, h2⟩, h3⟩
  | dict kvs => obtain ⟨h0, vk, h1, h2⟩ := x; exact ⟨h0, vk, let ⟨p, w, o, es, ep, g1, g2⟩ := h1; ⟨p, w, o, es, ep, e _ g1, g2⟩, h2⟩
theorem OR.alive {h : Heap} {a : Addr} {o : MO} (x : OR h a o) : ∃ ob, h.get? a = some ob := by
  cases o with
  | list xs => obtain ⟨vs, n, h1, h2⟩ := x; exact ⟨_, h1⟩
  | tup xs => obtain ⟨vs, n, h1, h2⟩ := x; exact ⟨_, h1⟩
  | range n => obtain ⟨t, u, v, h1, h2⟩ := x; exact ⟨_, h1⟩
  | raw o => exact ⟨_, x⟩
  | ro xs => obtain ⟨vs, ⟨o, h1, h2⟩, h3⟩ := x; exact ⟨_, h1⟩
  | dict kvs => obtain ⟨h0, vk, h1, h2⟩ := x; exact let ⟨_, _, o, es, ep, g1, g2⟩ := h1; ⟨_, g1⟩

/-! names -/
abbrev Loc := List (Str × MV)
def look : Loc → Str → Option MV
  | [], _ => none
  | (y, v) :: r, x => if x = y then some v else look r x
def put : Loc → Str → MV → Loc
  | [], x, v => [(x, v)]
  | (y, u) :: r, x, v => if x = y then (y, v) :: r else (y, u) :: put r x v
theorem look_put (l : Loc) (x y : Str) (v : MV) : look (put l x v) y = if y = x then some v else look l y := by
  induction l with
  | nil => simp [put, look]
  | cons p r ih =>
    obtain ⟨z, u⟩ := p
    unfold put
    by_cases h : x = z
    · subst h; simp only [if_true, look]; by_cases h2 : y = x <;> simp [h2]
    · simp only [h, if_false, look, ih]
      by_cases h2 : y = z
      · subst h2; simp [Ne.symm h]
      · simp [h2]

structure Cx where
  prog : Program
  w : World
  A : Around
  env : Env
  fr : List Addr
  kp : Addr → Obj → Prop
  gens : Array GenState
  os : OsState
  room : Nat
  al : Addr → Prop
  mod : List Addr
  B0 : Addr → Option MO
  no : Addr → Prop

structure Cx.Ok (C : Cx) (hb : Heap) : Prop where
  handled : C.A.handled = none
  depth : C.A.depth + C.room < recursionLimit
  units : C.A.units + 3 * C.room + 100 < cLine
  kind : C.env.scope.kind = .function
  globals : C.env.globals = mainGlobals
  builtins : C.env.builtins = builtinsNs
  locals : C.env.locals ∈ C.fr
  cellsIn : ∀ x c, C.env.cells.lookup x = some c → c ∈ C.fr ∨ ∃ o, C.kp c o
  cellsNe : ∀ x c, C.env.cells.lookup x = some c → c ≠ C.env.locals
  cellsInj : ∀ x y c, C.env.cells.lookup x = some c → C.env.cells.lookup y = some c → x = y
  apart : ∀ a ∈ C.fr, ∀ o, ¬ C.kp a o
  base : ∀ b o, hb.get? b = some o → C.kp b o
  modAl : ∀ a ∈ C.mod, C.al a
  noKp : ∀ a, C.no a → ∃ o, C.kp a o

structure St where
  loc : Loc
  B : Addr → Option MO
  own : List (Addr × MO)

def NameIs (env : Env) (h : Heap) (x : Str) (v : MV) : Prop :=
  (env.kindOf x = some .local ∧ ∃ m u, h.Ns env.locals m ∧ m x = some u ∧ VR v u) ∨
  ((env.kindOf x = some .cell ∨ env.kindOf x = some .free) ∧ ∃ c u, env.cells.lookup x = some c ∧ h.IsCell c (some u) ∧ VR v u)

structure Holds (C : Cx) (σ : St) (s : Shared) : Prop where
  kp : ∀ b o, C.kp b o → s.heap.get? b = some o
  names : ∀ x v, look σ.loc x = some v → NameIs C.env s.heap x v
  ns : ∃ m, s.heap.Ns C.env.locals m
  cells : ∀ x c, C.env.cells.lookup x = some c → ∃ u, s.heap.IsCell c u
  alive : ∀ a ∈ C.fr, ∃ o, s.heap.get? a = some o
  B : ∀ a o, σ.B a = some o → OR s.heap a o
  own : ∀ p ∈ σ.own, OR s.heap p.1 p.2
  nodup : (σ.own.map (·.1) ++ C.fr).Nodup
  apartB : ∀ a ∈ σ.own.map (·.1) ++ C.fr, σ.B a = none
  apartK : ∀ a ∈ σ.own.map (·.1) ++ C.fr, ∀ o, ¬ C.kp a o
  gens : s.gens = C.gens
  os : s.os = C.os
  al : ∀ a, C.al a → ∃ o, s.heap.get? a = some o
  B0 : ∀ a o, C.B0 a = some o → σ.B a = some o
  Bnew : ∀ a o, σ.B a = some o → C.B0 a = some o ∨ ¬ C.al a
  ownNew : ∀ p ∈ σ.own, ¬ C.al p.1 ∨ p.1 ∈ C.mod
  noB : ∀ a, C.no a → σ.B a = none

def Has (σ : St) (a : Addr) (o : MO) : Prop := (a, o) ∈ σ.own ∨ σ.B a = some o
theorem Holds.has {C : Cx} {σ : St} {s : Shared} (H : Holds C σ s) {a : Addr} {o : MO} (h : Has σ a o) : OR s.heap a o :=
  h.elim (fun h => H.own _ h) fun h => H.B _ _ h

theorem NameIs.ext {env : Env} {h h' : Heap} {x : Str} {v : MV} (n : NameIs env h x v) (e : ∀ b o, h.get? b = some o → h'.get? b = some o) : NameIs env h' x v := by
  rcases n with ⟨hk, m, u, hn, hm, hv⟩ | ⟨hk, c, u, hc, hu, hv⟩
  · exact .inl ⟨hk, m, u, hn.keeps e, hm, hv⟩
  · exact .inr ⟨hk, c, u, hc, hu.keeps e, hv⟩

theorem Holds.ext {C : Cx} {σ : St} {s s' : Shared} (H : Holds C σ s) (e : ∀ b o, s.heap.get? b = some o → s'.heap.get? b = some o) (hg : s'.gens = s.gens) (ho : s'.os = s.os) : Holds C σ s' where
  kp := fun b o h => e _ _ (H.kp b o h)
  names := fun x v h => (H.names x v h).ext e
  ns := let ⟨m, h⟩ := H.ns; ⟨m, h.keeps e⟩
  cells := fun x c h => let ⟨u, hu⟩ := H.cells x c h; ⟨u, hu.keeps e⟩
  alive := fun a ha => let ⟨o, ho⟩ := H.alive a ha; ⟨o, e _ _ ho⟩
  B := fun a o h => (H.B a o h).at fun ob => e _ _
  own := fun p hp => (H.own p hp).at fun ob => e _ _
  nodup := H.nodup
  apartB := H.apartB
  apartK := H.apartK
  gens := hg.trans H.gens
  os := ho.trans H.os
  al := fun a ha => let ⟨o, ho⟩ := H.al a ha; ⟨o, e _ _ ho⟩
  B0 := H.B0
  Bnew := H.Bnew
  ownNew := H.ownNew
  noB := H.noB

theorem Holds.toks {C : Cx} {σ : St} {s : Shared} (H : Holds C σ s) (t : Nat) : Holds C σ { s with toks := t } := H.ext (fun _ _ h => h) rfl rfl
theorem Holds.push {C : Cx} {σ : St} {s : Shared} (H : Holds C σ s) (o : Obj) : Holds C σ { s with heap := s.heap.push o } := H.ext (fun _ _ h => Heap.get?_push_of_some _ h) rfl rfl

theorem fresh_none (h : Heap) : h.get? h.objs.size = none := by
  cases e : h.get? h.objs.size with
  | none => rfl
  | some o => exact absurd (Heap.lt_size e) (Nat.lt_irrefl _)

theorem Holds.freshMod {C : Cx} {hb : Heap} {σ : St} {s : Shared} (OK : C.Ok hb) (H : Holds C σ s) : s.heap.objs.size ∉ C.mod := fun hm => by
  obtain ⟨ob, hob⟩ := H.al _ (OK.modAl _ hm); rw [fresh_none] at hob; cases hob
/-- an address that is new to a state -/
structure Fsh (md : List Addr) (σ : St) (a : Addr) : Prop where
  md : a ∉ md
  B : σ.B a = none
  own : a ∉ σ.own.map (·.1)
theorem far_none {h : Heap} {a : Addr} (ha : h.objs.size ≤ a) : h.get? a = none := by
  cases e : h.get? a with
  | none => rfl
  | some o => exact absurd (Heap.lt_size e) (Nat.not_lt.mpr ha)
def Far (C : Cx) (σ : St) (a : Addr) : Prop := a ∉ σ.own.map (·.1) ++ C.fr ∧ σ.B a = none ∧ (∀ o, ¬ C.kp a o) ∧ ¬ C.al a
theorem Holds.far {C : Cx} {σ : St} {s : Shared} (H : Holds C σ s) {a : Addr} (ha : s.heap.objs.size ≤ a) : Far C σ a := by
  have fn := far_none ha
  have no : ¬ ∃ ob, s.heap.get? a = some ob := fun ⟨ob, h⟩ => by rw [fn] at h; cases h
  refine ⟨fun hm => ?_, ?_, fun o hk => no ⟨o, H.kp _ _ hk⟩, fun ha => no (H.al _ ha)⟩
  · rcases List.mem_append.mp hm with hm | hm
    · obtain ⟨p, hp, e⟩ := List.mem_map.mp hm
      exact no (e ▸ (H.own p hp).alive)
    · exact no (H.alive _ hm)
  · cases e : σ.B a with
    | none => rfl
    | some mo => exact absurd (H.B _ _ e).alive no
theorem Holds.fshAt {C : Cx} {hb : Heap} {σ : St} {s : Shared} {a : Addr} (OK : C.Ok hb) (H : Holds C σ s) (ha : s.heap.objs.size ≤ a) : Fsh C.mod σ a :=
  ⟨fun hm => (H.far ha).2.2.2 (OK.modAl _ hm), (H.far ha).2.1, fun hm => (H.far ha).1 (List.mem_append_left _ hm)⟩
theorem Holds.fsh {C : Cx} {hb : Heap} {σ : St} {s : Shared} (OK : C.Ok hb) (H : Holds C σ s) : Fsh C.mod σ s.heap.objs.size := H.fshAt OK (Nat.le_refl _)
theorem Holds.addO {C : Cx} {σ : St} {s : Shared} {a : Addr} {mo : MO} (H : Holds C σ s) (f : Far C σ a) (ho : OR s.heap a mo) : Holds C { σ with own := (a, mo) :: σ.own } s where
  kp := H.kp
  names := H.names
  ns := H.ns
  cells := H.cells
  alive := H.alive
  B := H.B
  gens := H.gens
  os := H.os
  al := H.al
  B0 := H.B0
  Bnew := H.Bnew
  noB := H.noB
  own := fun p hp => by
    rcases List.mem_cons.mp hp with rfl | hp
    · exact ho
    · exact H.own p hp
  nodup := List.nodup_cons.mpr ⟨f.1, H.nodup⟩
  apartB := fun b hb => by
    rcases List.mem_cons.mp hb with rfl | hb
    · exact f.2.1
    · exact H.apartB b hb
  apartK := fun b hb => by
    rcases List.mem_cons.mp hb with rfl | hb
    · exact f.2.2.1
    · exact H.apartK b hb
  ownNew := fun p hp => by
    rcases List.mem_cons.mp hp with rfl | hp
    · exact .inl f.2.2.2
    · exact H.ownNew p hp
theorem Holds.new {C : Cx} {σ : St} {s : Shared} (H : Holds C σ s) {o : Obj} {mo : MO} (ho : OR (s.heap.push o) s.heap.objs.size mo) :
    Holds C { σ with own := (s.heap.objs.size, mo) :: σ.own } { s with heap := s.heap.push o } := (H.push o).addO (H.far (Nat.le_refl _)) ho

inductive Upd : List (Addr × MO) → Addr → MO → MO → List (Addr × MO) → Prop
  | head {a : Addr} {o o' : MO} {r : List (Addr × MO)} : Upd ((a, o) :: r) a o o' ((a, o') :: r)
  | tail {a : Addr} {o o' : MO} {p : Addr × MO} {r r' : List (Addr × MO)} : Upd r a o o' r' → Upd (p :: r) a o o' (p :: r')
theorem Upd.keys {l l' : List (Addr × MO)} {a : Addr} {o o' : MO} (u : Upd l a o o' l') : l'.map (·.1) = l.map (·.1) := by
  induction u with
  | head => rfl
  | tail _ ih => simp [ih]
theorem Upd.mem {l l' : List (Addr × MO)} {a : Addr} {o o' : MO} (u : Upd l a o o' l') : (a, o) ∈ l := by
  induction u with
  | head => exact .head _
  | tail _ ih => exact .tail _ ih
theorem Upd.back {l l' : List (Addr × MO)} {a : Addr} {o o' : MO} (u : Upd l a o o' l') : ∀ p ∈ l', ∃ q ∈ l, q.1 = p.1 := by
  intro p hp
  have : p.1 ∈ l'.map (·.1) := List.mem_map.mpr ⟨p, hp, rfl⟩
  rw [u.keys] at this
  obtain ⟨q, hq, e⟩ := List.mem_map.mp this
  exact ⟨q, hq, e⟩
theorem Upd.cases {l l' : List (Addr × MO)} {a : Addr} {o o' : MO} (u : Upd l a o o' l') (nd : (l.map (·.1)).Nodup) : ∀ p ∈ l', p = (a, o') ∨ (p ∈ l ∧ p.1 ≠ a) := by
  induction u with
  | head =>
    intro p hp
    rcases List.mem_cons.mp hp with rfl | hp
    · exact .inl rfl
    · refine .inr ⟨.tail _ hp, fun e => ?_⟩
      have := (List.nodup_cons.mp nd).1
      exact this (List.mem_map.mpr ⟨p, hp, e⟩)
  | tail u ih =>
    intro p hp
    have nd' := List.nodup_cons.mp nd
    rcases List.mem_cons.mp hp with rfl | hp
    · refine .inr ⟨.head _, fun e => nd'.1 ?_⟩
      exact List.mem_map.mpr ⟨_, u.mem, e.symm⟩
    · rcases ih nd'.2 p hp with h | ⟨h1, h2⟩
      · exact .inl h
      · exact .inr ⟨.tail _ h1, h2⟩

theorem NameIs.extBut {env : Env} {h h' : Heap} {x : Str} {v : MV} {a : Addr} (n : NameIs env h x v) (e : ∀ b o, b ≠ a → h.get? b = some o → h'.get? b = some o)
    (hl : env.locals ≠ a) (hc : ∀ c, env.cells.lookup x = some c → c ≠ a) : NameIs env h' x v := by
  rcases n with ⟨hk, m, u, hn, hm, hv⟩ | ⟨hk, c, u, hc', hu, hv⟩
  · exact .inl ⟨hk, m, u, hn.extBut e hl, hm, hv⟩
  · obtain ⟨o, h1, h2⟩ := hu
    exact .inr ⟨hk, c, u, hc', ⟨o, e _ _ (hc c hc') h1, h2⟩, hv⟩

theorem Holds.upd {C : Cx} {hb : Heap} {σ : St} {s s' : Shared} (OK : C.Ok hb) (H : Holds C σ s) {a : Addr} {o o' : MO} {own' : List (Addr × MO)} (u : Upd σ.own a o o' own')
    (e : ∀ b ob, b ≠ a → s.heap.get? b = some ob → s'.heap.get? b = some ob) (ho : OR s'.heap a o') (hg : s'.gens = s.gens) (hos : s'.os = s.os) :
    Holds C { σ with own := own' } s' := by
  have ma : a ∈ σ.own.map (·.1) := List.mem_map_of_mem (f := (·.1)) u.mem
  have ma' : a ∈ σ.own.map (·.1) ++ C.fr := List.mem_append_left _ ma
  have nfr : ∀ b ∈ C.fr, b ≠ a := fun b hb' e' => by
    subst e'
    exact (List.nodup_append.mp H.nodup).2.2 _ ma _ hb' rfl
  have cne : ∀ x c, C.env.cells.lookup x = some c → c ≠ a := fun x c hc => by
    rcases OK.cellsIn x c hc with h | ⟨ob, h⟩
    · exact nfr c h
    · exact fun e' => H.apartK a ma' ob (e' ▸ h)
  have lne : C.env.locals ≠ a := nfr _ OK.locals
  exact {
    kp := fun b ob h => e _ _ (fun e' => H.apartK a ma' ob (e' ▸ h)) (H.kp _ _ h)
    names := fun x v h => (H.names x v h).extBut e lne (cne x)
    ns := let ⟨m, h⟩ := H.ns; ⟨m, h.extBut e lne⟩
    cells := fun x c h => let ⟨v, ob, h1, h2⟩ := H.cells x c h; ⟨v, ob, e _ _ (cne x c h) h1, h2⟩
    alive := fun b hb' => let ⟨ob, h⟩ := H.alive b hb'; ⟨ob, e _ _ (nfr b hb') h⟩
    B := fun b ob h => (H.B b ob h).at fun oo ho' => e _ _ (fun e' => by rw [e', H.apartB a ma'] at h; cases h) ho'
    own := fun p hp => by
      rcases u.cases (List.nodup_append.mp H.nodup).1 p hp with rfl | ⟨h1, h2⟩
      · exact ho
      · exact (H.own p h1).at fun oo ho' => e _ _ h2 ho'
    nodup := by show (own'.map (·.1) ++ C.fr).Nodup; rw [u.keys]; exact H.nodup
    apartB := by show ∀ b ∈ own'.map (·.1) ++ C.fr, _; rw [u.keys]; exact H.apartB
    apartK := by show ∀ b ∈ own'.map (·.1) ++ C.fr, _; rw [u.keys]; exact H.apartK
    gens := hg.trans H.gens
    os := hos.trans H.os
    al := fun b hb' => by
      by_cases hba : b = a
      · subst hba; exact ho.alive
      · obtain ⟨ob, hob⟩ := H.al b hb'; exact ⟨ob, e _ _ hba hob⟩
    B0 := H.B0
    Bnew := H.Bnew
    noB := H.noB
    ownNew := fun p hp => let ⟨q, hq, e'⟩ := u.back p hp; e' ▸ H.ownNew q hq }

/-! trees -/
def Tr {α β : Type} (C : Cx) (t : Sem α) (R : β → α → Prop) (σ : St) (Q : β → St → Prop) : Prop :=
  ∀ s, Holds C σ s → wpAny (model C.prog C.w) C.A t (fun a s' => ∃ b σ', R b a ∧ Holds C σ' s' ∧ Q b σ') (fun _ _ => False) s

theorem Tr.mono {α β : Type} {C : Cx} {t : Sem α} {R : β → α → Prop} {σ : St} {Q Q' : β → St → Prop} (h : Tr C t R σ Q) (hq : ∀ b σ', Q b σ' → Q' b σ') : Tr C t R σ Q' :=
  fun s H => wpAny_mono (h s H) (fun _ _ ⟨b, σ', h1, h2, h3⟩ => ⟨b, σ', h1, h2, hq _ _ h3⟩) fun _ _ x => x
theorem Tr.pure {α β : Type} {C : Cx} {a : α} {b : β} {R : β → α → Prop} {σ : St} {Q : β → St → Prop} (hr : R b a) (h : Q b σ) : Tr C (pure a) R σ Q :=
  fun s H => wpAny_pure ⟨b, σ, hr, H, h⟩

end Mine
set_option autoImplicit false
set_option linter.unusedVariables false
namespace Mine
open PySem

def Ex (C : Cx) (e : Expr) (σ : St) (Q : MV → St → Prop) : Prop := Tr C (eval e C.env) VR σ Q
def Ts (C : Cx) (e : Expr) (σ : St) (Q : Bool → St → Prop) : Prop := Tr C (isTrue e C.env (eval e C.env)) (fun b a => b = a) σ Q
def Bin (C : Cx) (op : Operator) (a b : MV) (σ : St) (Q : MV → St → Prop) : Prop := ∀ va vb, VR a va → VR b vb → Tr C (binaryOp op va vb) VR σ Q
def Cmp (C : Cx) (op : CmpOp) (a b : MV) (σ : St) (Q : MV → St → Prop) : Prop := ∀ va vb, VR a va → VR b vb → Tr C (compareOp op va vb) VR σ Q
def Trt (C : Cx) (v : MV) (σ : St) (Q : Bool → St → Prop) : Prop := ∀ va, VR v va → Tr C (truthy va) (fun b a => b = a) σ Q
def Una (C : Cx) (op : UnaryOp) (v : MV) (σ : St) (Q : MV → St → Prop) : Prop := ∀ va, VR v va → Tr C (unaryOp op va) VR σ Q
def Exs (C : Cx) (pos : Pos) (es : List Expr) (σ : St) (Q : List MV → St → Prop) : Prop := Tr C (spliced (backTo pos (starEach es C.env))) VsR σ Q
def CallV (C : Cx) (f : Value) (args : List MV) (σ : St) (Q : MV → St → Prop) : Prop := ∀ vs, VsR args vs → Tr C (call f vs) VR σ Q
def Sub (C : Cx) (o i : MV) (σ : St) (Q : MV → St → Prop) : Prop := ∀ vo vi, VR o vo → VR i vi → Tr C (getItem vo vi) VR σ Q

inductive MF where
  | next | ret (v : MV)
def FR : MF → Flow → Prop
  | .next, f => f = .next
  | .ret m, f => ∃ v, f = .ret v ∧ VR m v
def Stm (C : Cx) (st : Stmt) (σ : St) (Q : MF → St → Prop) : Prop := Tr C (exec st C.env) FR σ Q
def Sts (C : Cx) (sts : List Stmt) (σ : St) (Q : MF → St → Prop) : Prop := Tr C (execs sts C.env) FR σ Q

section
variable {C : Cx} {hb : Heap} {σ : St}

/-! statements -/
theorem Sts_nil {Q : MF → St → Prop} (h : Q .next σ) : Sts C [] σ Q := Tr.pure (b := MF.next) (R := FR) rfl h
theorem Sts_cons {st : Stmt} {rest : List Stmt} {Q : MF → St → Prop}
    (h : Stm C st σ (fun f σ' => match f with | .next => Sts C rest σ' Q | .ret v => Q (.ret v) σ')) : Sts C (st :: rest) σ Q := fun s H => by
  refine wpAny_execs_cons (wpAny_mono (h s H) (fun f s' hpat => ?_) fun _ _ x => x)
  obtain ⟨b, σ', h1, h2, h3⟩ := hpat
  cases b with
  | next => obtain rfl : f = .next := h1; exact h3 s' h2
  | ret m => obtain ⟨v, rfl, hv⟩ := h1; exact ⟨.ret m, σ', ⟨v, rfl, hv⟩, h2, h3⟩

theorem Stm_If {test : Expr} {body orelse : List Stmt} {pos : Pos} {Q : MF → St → Prop}
    (h : Ts C test σ (fun b σ' => if b then Sts C body σ' Q else Sts C orelse σ' Q)) : Stm C (.If test body orelse pos) σ Q := fun s H => by
  refine wpAny_If (wpAny_mono (h s H) (fun b s' hpat => ?_) fun _ _ x => x)
  obtain ⟨b', σ', h1, h2, h3⟩ := hpat
  subst h1
  cases b' with
  | true => exact h3 s' h2
  | false => exact h3 s' h2
theorem Stm_Return {e : Expr} {pos : Pos} {Q : MF → St → Prop} (h : Ex C e σ (fun v σ' => Q (.ret v) σ')) : Stm C (.Return (some e) pos) σ Q := fun s H => by
  refine wpAny_Return_some (wpAny_mono (h s H) (fun v s' ⟨m, σ', h1, h2, h3⟩ => ⟨.ret m, σ', ⟨v, rfl, h1⟩, h2, h3⟩) fun _ _ x => x)
/-! expressions -/
theorem Ex_int {i : Int} {k : Nat} {pos : Pos} {Q : MV → St → Prop} (h : Q (.int i) σ) : Ex C (.Constant (.int i) k pos) σ Q := fun s H =>
  wpAny_Constant_int ⟨.int i, σ, ⟨_, rfl⟩, H.toks _, h⟩
theorem Ex_str {x : Str} {k : Nat} {pos : Pos} {Q : MV → St → Prop} (h : Q (.str x) σ) : Ex C (.Constant (.str x) k pos) σ Q := fun s H =>
  wpAny_Constant_str ⟨.str x, σ, ⟨_, rfl⟩, H.toks _, h⟩
theorem Ex_none {k : Nat} {pos : Pos} {Q : MV → St → Prop} (h : Q .none σ) : Ex C (.Constant .none k pos) σ Q := fun s H =>
  wpAny_Constant_none ⟨.none, σ, rfl, H, h⟩
theorem Ex_bool {b : Bool} {k : Nat} {pos : Pos} {Q : MV → St → Prop} (h : Q (.bool b) σ) : Ex C (.Constant (.bool b) k pos) σ Q := fun s H =>
  wpAny_Constant_bool ⟨.bool b, σ, rfl, H, h⟩
theorem Ex_BinOp {l r : Expr} {op : Operator} {pos : Pos} {Q : MV → St → Prop} (h : Ex C l σ (fun a σ₁ => Ex C r σ₁ (fun b σ₂ => Bin C op a b σ₂ Q))) : Ex C (.BinOp l op r pos) σ Q := fun s H =>
  wpAny_BinOp (wpAny_mono (h s H) (fun va s₁ ⟨a, σ₁, ha, H₁, h₁⟩ => wpAny_mono (h₁ s₁ H₁) (fun vb s₂ ⟨b, σ₂, hb, H₂, h₂⟩ => h₂ va vb ha hb s₂ H₂) fun _ _ x => x) fun _ _ x => x)
theorem Ex_Compare {l r : Expr} {op : CmpOp} {pos : Pos} {Q : MV → St → Prop} (hm : behindInMarks op r = false)
    (h : Ex C l σ (fun a σ₁ => Ex C r σ₁ (fun b σ₂ => Cmp C op a b σ₂ Q))) : Ex C (.Compare l [op] [r] pos) σ Q := fun s H =>
  wpAny_Compare1 (hm := hm) (wpAny_mono (h s H) (fun va s₁ ⟨a, σ₁, ha, H₁, h₁⟩ => wpAny_mono (h₁ s₁ H₁) (fun vb s₂ ⟨b, σ₂, hb, H₂, h₂⟩ => h₂ va vb ha hb s₂ H₂) fun _ _ x => x) fun _ _ x => x)
theorem Ts_Compare {l r : Expr} {op : CmpOp} {pos : Pos} {Q : Bool → St → Prop} (hm : behindInMarks op r = false)
    (h : Ex C l σ (fun a σ₁ => Ex C r σ₁ (fun b σ₂ => Cmp C op a b σ₂ (fun c σ₃ => Trt C c σ₃ Q)))) : Ts C (.Compare l [op] [r] pos) σ Q := fun s H =>
  wpAny_isTrue_Compare1 (hm := hm) (wpAny_mono (h s H) (fun va s₁ ⟨a, σ₁, ha, H₁, h₁⟩ => wpAny_mono (h₁ s₁ H₁) (fun vb s₂ ⟨b, σ₂, hb, H₂, h₂⟩ =>
    wpAny_mono (h₂ va vb ha hb s₂ H₂) (fun vc s₃ ⟨c, σ₃, hc, H₃, h₃⟩ => h₃ vc hc s₃ H₃) fun _ _ x => x) fun _ _ x => x) fun _ _ x => x)
theorem Ts_Not {e : Expr} {pos : Pos} {Q : Bool → St → Prop} (h : Ts C e σ (fun b σ' => Q (!b) σ')) : Ts C (.UnaryOp .Not e pos) σ Q := fun s H =>
  wpAny_isTrue_Not (wpAny_mono (h s H) (fun b s' ⟨b', σ', h1, h2, h3⟩ => ⟨!b', σ', by rw [h1], h2, h3⟩) fun _ _ x => x)
theorem Ts_And_nil {pos : Pos} {Q : Bool → St → Prop} (h : Q true σ) : Ts C (.BoolOp .And [] pos) σ Q := fun s H => wpAny_isTrue_BoolOp (wpAny_allTrue_And_nil ⟨true, σ, rfl, H, h⟩)
theorem Ts_And {x : Expr} {rest : List Expr} {pos : Pos} {Q : Bool → St → Prop} (h : Ts C x σ (fun b σ' => if b then Ts C (.BoolOp .And rest pos) σ' Q else Q false σ')) :
    Ts C (.BoolOp .And (x :: rest) pos) σ Q := fun s H => by
  refine wpAny_isTrue_BoolOp (wpAny_allTrue_And_cons (wpAny_mono (h s H) (fun b s' hpat => ?_) fun _ _ x => x))
  obtain ⟨b', σ', h1, h2, h3⟩ := hpat
  subst h1
  cases b' with
  | true => exact h3 s' h2
  | false => exact ⟨false, σ', rfl, h2, h3⟩
theorem Ts_Or_nil {pos : Pos} {Q : Bool → St → Prop} (h : Q false σ) : Ts C (.BoolOp .Or [] pos) σ Q := fun s H => wpAny_isTrue_BoolOp (wpAny_allTrue_Or_nil ⟨false, σ, rfl, H, h⟩)
theorem Ts_Or {x : Expr} {rest : List Expr} {pos : Pos} {Q : Bool → St → Prop} (h : Ts C x σ (fun b σ' => if b then Q true σ' else Ts C (.BoolOp .Or rest pos) σ' Q)) :
    Ts C (.BoolOp .Or (x :: rest) pos) σ Q := fun s H => by
  refine wpAny_isTrue_BoolOp (wpAny_allTrue_Or_cons (wpAny_mono (h s H) (fun b s' hpat => ?_) fun _ _ x => x))
  obtain ⟨b', σ', h1, h2, h3⟩ := hpat
  subst h1
  cases b' with
  | true => exact ⟨true, σ', rfl, h2, h3⟩
  | false => exact h3 s' h2
def plainTest : Expr → Bool
  | .UnaryOp .Not _ _ | .BoolOp .. | .IfExp .. | .Compare .. => false
  | _ => true
theorem isTrue_plainTest {e : Expr} {env : Env} {whole : Sem Value} (h : plainTest e = true) : isTrue e env whole = (do let v ← whole; standAt e.pos; holding [v] (truthy v)) := by
  cases e <;> first | rfl | (simp [plainTest] at h; done) | (rename_i op _ _; cases op <;> first | rfl | simp [plainTest] at h)
theorem Ts_val {e : Expr} {Q : Bool → St → Prop} (he : plainTest e = true) (h : Ex C e σ (fun v σ' => Trt C v σ' Q)) : Ts C e σ Q := fun s H => by
  refine wpAny_isTrue_value (wpAny_mono (h s H) (fun v s' ⟨m, σ', h1, h2, h3⟩ => h3 v h1 s' h2) fun _ _ x => x) (isTrue_plainTest he)
theorem Ex_UnaryOp {op : UnaryOp} {x : Expr} {pos : Pos} {Q : MV → St → Prop} (h : Ex C x σ (fun v σ' => Una C op v σ' Q)) : Ex C (.UnaryOp op x pos) σ Q := fun s H =>
  wpAny_UnaryOp (wpAny_mono (h s H) (fun v s' ⟨m, σ', h1, h2, h3⟩ => h3 v h1 s' h2) fun _ _ x => x)
theorem Una_Not {v : MV} {Q : MV → St → Prop} (h : Trt C v σ (fun b σ' => Q (.bool (!b)) σ')) : Una C .Not v σ Q := fun va hv s H =>
  not_value (wpAny_mono (h va hv s H) (fun b s' ⟨b', σ', h1, h2, h3⟩ => ⟨.bool (!b'), σ', by rw [h1]; rfl, h2, h3⟩) fun _ _ x => x)
/-- boolean connectives as values: the operands are bools -/
theorem Ex_And2 {x y : Expr} {pos : Pos} {Q : MV → St → Prop} (h : Ex C x σ (fun v σ₁ => Trt C v σ₁ (fun t σ₂ => if t then Ex C y σ₂ Q else Q v σ₂))) : Ex C (.BoolOp .And [x, y] pos) σ Q := fun s H => by
  refine wpAny_And2 (wpAny_mono (h s H) (fun v s₁ ⟨m, σ₁, h1, h2, h3⟩ => wpAny_mono (h3 v h1 s₁ h2) (fun t s₂ hpat => ?_) fun _ _ x => x) fun _ _ x => x)
  obtain ⟨t', σ₂, g1, g2, g3⟩ := hpat
  subst g1
  cases t' with
  | true => exact g3 s₂ g2
  | false => exact ⟨m, σ₂, h1, g2, g3⟩
theorem Trt_bool {b : Bool} {Q : Bool → St → Prop} (h : Q b σ) : Trt C (.bool b) σ Q := fun va hv s H => by
  obtain rfl : va = .bool b := hv
  exact wpAny_truthy_bool ⟨b, σ, rfl, H, h⟩

/-! operators on ints -/
theorem Bin_add {a b : Int} {Q : MV → St → Prop} (h : Q (.int (a + b)) σ) : Bin C .Add (.int a) (.int b) σ Q := fun va vb ha hb s H => by
  obtain ⟨t, rfl⟩ := ha; obtain ⟨u, rfl⟩ := hb
  exact wpAny_add_int ⟨.int (a + b), σ, ⟨_, rfl⟩, H.toks _, h⟩
theorem Bin_sub {a b : Int} {Q : MV → St → Prop} (h : Q (.int (a - b)) σ) : Bin C .Sub (.int a) (.int b) σ Q := fun va vb ha hb s H => by
  obtain ⟨t, rfl⟩ := ha; obtain ⟨u, rfl⟩ := hb
  exact P.sub_int ⟨.int (a - b), σ, ⟨_, rfl⟩, H.toks _, h⟩

theorem Exs_nil {pos : Pos} {Q : List MV → St → Prop} (h : Q [] σ) : Exs C pos [] σ Q := fun s H => wpAny_items_nil ⟨[], σ, .nil, H, h⟩
theorem Exs_cons {pos : Pos} {e : Expr} {rest : List Expr} {Q : List MV → St → Prop} (he : starEach (e :: rest) C.env = (false, eval e C.env) :: starEach rest C.env)
    (h : Ex C e σ (fun v σ₁ => Exs C pos rest σ₁ (fun vs σ₂ => Q (v :: vs) σ₂))) : Exs C pos (e :: rest) σ Q := fun s H =>
  wpAny_items_cons (he := he) (wpAny_mono (h s H) (fun v s₁ ⟨m, σ₁, h1, h2, h3⟩ => wpAny_mono (h3 s₁ h2) (fun vs s₂ ⟨ms, σ₂, g1, g2, g3⟩ => ⟨m :: ms, σ₂, .cons h1 g1, g2, g3⟩) fun _ _ x => x) fun _ _ x => x)
theorem Ex_List {elts : List Expr} {pos : Pos} {Q : MV → St → Prop} (OK : C.Ok hb) (h : Exs C pos elts σ (fun vs σ' => vs.length ≤ lim ∧ ∀ a, Fsh C.mod σ' a → Q (.ref a) { σ' with own := (a, .list vs) :: σ'.own })) : Ex C (.List elts pos) σ Q := fun s H =>
  wpAny_List (wpAny_mono (h s H) (fun vs s' ⟨ms, σ', h1, h2, h3, h4⟩ => ⟨by rw [← h1.length]; exact Nat.le_trans h3 lim_le, .ref _, _, rfl, h2.new (mo := .list ms) ⟨_, _, Heap.get?_push_size _ rfl, by simpa using h1, h3⟩, h4 _ (h2.fsh OK)⟩) fun _ _ x => x)
theorem Ex_Tuple {elts : List Expr} {k : Nat} {pos : Pos} {Q : MV → St → Prop} (OK : C.Ok hb) (h : Exs C pos elts σ (fun vs σ' => vs.length ≤ lim ∧ ∀ a, Fsh C.mod σ' a → Q (.ref a) { σ' with own := (a, .tup vs) :: σ'.own })) : Ex C (.Tuple elts k pos) σ Q := fun s H =>
  wpAny_Tuple (wpAny_mono (h s H) (fun vs s' ⟨ms, σ', h1, h2, h3, h4⟩ => ⟨by rw [← h1.length]; exact Nat.le_trans h3 lim_le, .ref _, _, rfl, h2.new (mo := .tup ms) ⟨_, _, Heap.get?_push_size _ rfl, by simpa using h1, h3⟩, h4 _ (h2.fsh OK)⟩) fun _ _ x => x)
end
end Mine
set_option autoImplicit false
set_option linter.unusedVariables false
namespace Mine
open PySem

/-! loading of globals, said once for the base heap -/
def Gl (hb : Heap) (x : Str) (m : MV) : Prop :=
  ∃ v, VR m v ∧ (x == ("__debug__" : Str)) = false ∧ ∀ (M : Model) (A : Around) (E : Value → Shared → Prop) (s : Shared) (env : Env) (Q : Value → Shared → Prop),
    env.globals = mainGlobals → env.builtins = builtinsNs → (∀ b o, hb.get? b = some o → s.heap.get? b = some o) → Q v s → wpAny M A (loadGlobal env x) Q E s

theorem Holds.base {C : Cx} {hb : Heap} {σ : St} {s : Shared} (OK : C.Ok hb) (H : Holds C σ s) : ∀ b o, hb.get? b = some o → s.heap.get? b = some o := fun b o h => H.kp b o (OK.base b o h)

section
variable {C : Cx} {hb : Heap} {σ : St}

theorem Ex_global {x : Str} {pos : Pos} {m : MV} {Q : MV → St → Prop} (OK : C.Ok hb) (g : Gl hb x m) (hk : C.env.kindOf x = some .globalImplicit) (h : Q m σ) : Ex C (.Name x pos) σ Q := fun s H => by
  obtain ⟨v, hv, hd, hl⟩ := g
  exact Calls.Name_function_global OK.kind hk (hl _ _ _ _ _ _ OK.globals OK.builtins (H.base OK) ⟨m, σ, hv, H, h⟩) hd

def okName (x : Str) : Bool := !(x == ("__debug__" : Str)) && !(x == ("__classdict__" : Str))
theorem okName_d {x : Str} (h : okName x = true) : (x == ("__debug__" : Str)) = false := by simp [okName] at h; simpa using h.1
theorem okName_c {x : Str} (h : okName x = true) : (x == ("__classdict__" : Str)) = false := by simp [okName] at h; simpa using h.2

theorem Ex_local {x : Str} {pos : Pos} {m : MV} {Q : MV → St → Prop} (OK : C.Ok hb) (hl : look σ.loc x = some m) (hn : okName x = true) (h : Q m σ) : Ex C (.Name x pos) σ Q := fun s H => by
  rcases H.names x m hl with ⟨hk, mm, u, hns, hm, hv⟩ | ⟨hk | hk, c, u, hc, hu, hv⟩
  · exact wpAny_Name (wpAny_loadName_local OK.kind hk hns hm ⟨m, σ, hv, H, h⟩) (okName_d hn)
  · exact wpAny_Name (wpAny_loadName_cell OK.kind hk hc hu ⟨m, σ, hv, H, h⟩) (okName_d hn)
  · exact wpAny_Name (wpAny_loadName_free OK.kind hk hc hu ⟨m, σ, hv, H, h⟩ (okName_c hn)) (okName_d hn)

/-- a store of a name of the frame -/
def Store (C : Cx) (x : Str) (m : MV) (σ : St) (Q : St → Prop) : Prop := ∀ v, VR m v → Tr C (storeName C.env x v) (fun (_ : Unit) (_ : Unit) => True) σ (fun _ σ' => Q σ')

theorem Store_local {x : Str} {m : MV} {Q : St → Prop} (OK : C.Ok hb) (hk : C.env.kindOf x = some .local) (h : Q { σ with loc := put σ.loc x m }) : Store C x m σ Q := fun v hv s H => by
  obtain ⟨mm, hns⟩ := H.ns
  refine wpAny_storeName_local hk hns (fun h' hn' hs' => ?_) (by rw [OK.kind]; rfl)
  refine ⟨(), { σ with loc := put σ.loc x m }, trivial, ?_, h⟩
  have e := hs'.extBut
  have mfr : C.env.locals ∈ σ.own.map (·.1) ++ C.fr := List.mem_append_right _ OK.locals
  have kne : ∀ b o, C.kp b o → b ≠ C.env.locals := fun b o hk' e' => H.apartK _ mfr o (e' ▸ hk')
  exact {
    kp := fun b o hk' => e _ _ (kne b o hk') (H.kp _ _ hk')
    names := fun y u hy => by
      rw [look_put] at hy
      by_cases hxy : y = x
      · subst hxy; rw [if_pos rfl] at hy; cases hy
        exact .inl ⟨hk, _, v, hn', by simp, hv⟩
      · rw [if_neg hxy] at hy
        rcases H.names y u hy with ⟨hk2, m2, u2, hns2, hm2, hv2⟩ | ⟨hk2, c, u2, hc, hu, hv2⟩
        · refine .inl ⟨hk2, _, u2, hn', ?_, hv2⟩
          show (if y = x then some v else mm y) = some u2
          rw [if_neg hxy]
          obtain ⟨o1, es1, ep1, a1, b1, c1, d1⟩ := hns
          obtain ⟨o2, es2, ep2, a2, b2, c2, d2⟩ := hns2
          rw [a1] at a2; cases a2; rw [b1] at b2; cases b2
          rw [← d1, d2]; exact hm2
        · obtain ⟨ob, o1, o2⟩ := hu
          exact .inr ⟨hk2, c, u2, hc, ⟨ob, e _ _ (OK.cellsNe y c hc) o1, o2⟩, hv2⟩
    ns := ⟨_, hn'⟩
    cells := fun y c hc => let ⟨u, ob, o1, o2⟩ := H.cells y c hc; ⟨u, ob, e _ _ (OK.cellsNe y c hc) o1, o2⟩
    alive := fun a ha => by
      by_cases hal : a = C.env.locals
      · subst hal; obtain ⟨o, es, ep, ho, _⟩ := hn'; exact ⟨o, ho⟩
      · obtain ⟨o, ho⟩ := H.alive a ha; exact ⟨o, e _ _ hal ho⟩
    B := fun a o ha => (H.B a o ha).at fun ob hob => e _ _ (fun e' => by rw [e', H.apartB _ mfr] at ha; cases ha) hob
    own := fun p hp => (H.own p hp).at fun ob hob => e _ _ (fun e' => (List.nodup_append.mp H.nodup).2.2 _ (List.mem_map.mpr ⟨p, hp, rfl⟩) _ OK.locals e') hob
    al := fun a ha => by
      by_cases hal : a = C.env.locals
      · subst hal; obtain ⟨o, es, ep, ho, _⟩ := hn'; exact ⟨o, ho⟩
      · obtain ⟨o, ho⟩ := H.al a ha; exact ⟨o, e _ _ hal ho⟩
    nodup := H.nodup, apartB := H.apartB, apartK := H.apartK, gens := H.gens, os := H.os, B0 := H.B0, Bnew := H.Bnew, ownNew := H.ownNew, noB := H.noB }

theorem Store_cell {x : Str} {m : MV} {Q : St → Prop} (OK : C.Ok hb) (hk : C.env.kindOf x = some .cell) (hc : ∃ c, C.env.cells.lookup x = some c ∧ c ∈ C.fr) (h : Q { σ with loc := put σ.loc x m }) : Store C x m σ Q := fun v hv s H => by
  obtain ⟨c, hc, hfr⟩ := hc
  obtain ⟨u0, hu0⟩ := H.cells x c hc
  refine wpAny_storeName_cell OK.kind hk hc hu0 fun h' hn' hs' => ?_
  refine ⟨(), { σ with loc := put σ.loc x m }, trivial, ?_, h⟩
  have e := hs'.extBut
  have mfr : c ∈ σ.own.map (·.1) ++ C.fr := List.mem_append_right _ hfr
  have lne : C.env.locals ≠ c := fun e' => OK.cellsNe x c hc e'.symm
  exact {
    kp := fun b o hk' => e _ _ (fun e' => H.apartK _ mfr o (e' ▸ hk')) (H.kp _ _ hk')
    names := fun y u hy => by
      rw [look_put] at hy
      by_cases hxy : y = x
      · subst hxy; rw [if_pos rfl] at hy; cases hy
        exact .inr ⟨.inl hk, c, v, hc, hn', hv⟩
      · rw [if_neg hxy] at hy
        exact (H.names y u hy).extBut e lne fun c' hc' e' => hxy (OK.cellsInj y x c (e' ▸ hc') hc)
    ns := let ⟨mm, hns⟩ := H.ns; ⟨mm, hns.extBut e lne⟩
    cells := fun y c' hc' => by
      by_cases hcc : c' = c
      · subst hcc; exact ⟨_, hn'⟩
      · obtain ⟨u, ob, o1, o2⟩ := H.cells y c' hc'; exact ⟨u, ob, e _ _ hcc o1, o2⟩
    alive := fun a ha => by
      by_cases hal : a = c
      · subst hal; obtain ⟨o, ho, _⟩ := hn'; exact ⟨o, ho⟩
      · obtain ⟨o, ho⟩ := H.alive a ha; exact ⟨o, e _ _ hal ho⟩
    B := fun a o ha => (H.B a o ha).at fun ob hob => e _ _ (fun e' => by rw [e', H.apartB _ mfr] at ha; cases ha) hob
    own := fun p hp => (H.own p hp).at fun ob hob => e _ _ (fun e' => (List.nodup_append.mp H.nodup).2.2 _ (List.mem_map.mpr ⟨p, hp, rfl⟩) _ hfr e') hob
    al := fun a ha => by
      by_cases hal : a = c
      · subst hal; obtain ⟨o, ho, _⟩ := hn'; exact ⟨o, ho⟩
      · obtain ⟨o, ho⟩ := H.al a ha; exact ⟨o, e _ _ hal ho⟩
    nodup := H.nodup, apartB := H.apartB, apartK := H.apartK, gens := H.gens, os := H.os, B0 := H.B0, Bnew := H.Bnew, ownNew := H.ownNew, noB := H.noB }

theorem Stm_Assign {x : Str} {p' : Pos} {e : Expr} {pos : Pos} {Q : MF → St → Prop} (hs : swapsWith e (some (.Name x p')) pos.line C.env = pure false)
    (h : Ex C e σ (fun v σ' => Store C x v σ' (fun σ'' => Q .next σ''))) : Stm C (.Assign [.Name x p'] e pos) σ Q := fun s H =>
  wpAny_Assign_Name (hs := hs) (wpAny_mono (h s H) (fun v s₁ ⟨m, σ₁, h1, h2, h3⟩ => wpAny_mono (h3 v h1 s₁ h2) (fun _ s₂ ⟨_, σ₂, _, g2, g3⟩ => ⟨.next, σ₂, rfl, g2, g3⟩) fun _ _ x => x) fun _ _ x => x)

/-! the statement of an expression: no value kept -/
theorem wpAny_dropValue {prog : Program} {w : World} {A : Around} {E : Value → Shared → Prop} {s : Shared} {e : Expr} {pos : Pos} {v : Value} {Q : Flow → Shared → Prop} (h : Q .next s) : wpAny (model prog w) A (dropValue e pos v) Q E s := by
  unfold dropValue
  split
  · exact wpAny_pure h
  · exact wpAny_bind (wpAny_standAt (wpAny_bind (wpAny_runValue (codeAny_builtin entry_let_go (show wpAny _ _ (ret .none) _ _ s from wpAny_pure (wpAny_pure h))))))
  · exact wpAny_pure h
theorem Stm_Expr {e : Expr} {pos : Pos} {Q : MF → St → Prop} (hi : interactive C.env = false) (hs : swapsWith e none pos.line C.env = pure false)
    (h : Ex C e σ (fun _ σ' => Q .next σ')) : Stm C (.Expr e pos) σ Q := fun s H => by
  show wpAny _ _ (exec (.Expr e pos) C.env) _ _ s
  rw [exec_Expr C.env e pos hi hs]
  exact wpAny_bind (wpAny_standAt (wpAny_bind (wpAny_mono (h s H) (fun v s' ⟨m, σ', h1, h2, h3⟩ => wpAny_dropValue ⟨.next, σ', rfl, h2, h3⟩) fun _ _ x => x)))
end
end Mine
set_option autoImplicit false
set_option linter.unusedVariables false
namespace Mine
open PySem

abbrev MH := Addr → Option MO
abbrev Own := List (Addr × MO)
abbrev Spec := List MV → MH → Own → (MV → MH → Own → Prop) → Prop

/-- what a call promises: with room for n frames, from frozen B and owned own₁ -/
def Contract (prog : Program) (w : World) (hb : Heap) (f : Value) (n : Nat) (S : Spec) : Prop :=
  ∀ (A : Around) (s : Shared) (args : List MV) (vals : List Value) (B : MH) (own₁ : Own) (Q : MV → MH → Own → Prop),
    A.handled = none → A.depth + n < recursionLimit → A.units + 3 * n + 100 < cLine →
    (∀ b o, hb.get? b = some o → s.heap.get? b = some o) → (∀ a o, B a = some o → OR s.heap a o) → (∀ p ∈ own₁, OR s.heap p.1 p.2) → (own₁.map (·.1)).Nodup →
    (∀ a ∈ own₁.map (·.1), B a = none ∧ hb.get? a = none) → VsR args vals → S args B own₁ Q →
    wpAny (model prog w) A (call f vals) (fun v s' => ∃ m B' own', VR m v ∧ (∀ b o, b ∉ own₁.map (·.1) → s.heap.get? b = some o → s'.heap.get? b = some o) ∧ s'.gens = s.gens ∧ s'.os = s.os ∧
      (∀ a, (∃ o, s.heap.get? a = some o) → ∃ o, s'.heap.get? a = some o) ∧
      (∀ a o, B a = some o → B' a = some o) ∧ (∀ a o, B' a = some o → OR s'.heap a o) ∧ (∀ a o, B' a = some o → B a = some o ∨ s.heap.get? a = none) ∧
      (∀ p ∈ own', OR s'.heap p.1 p.2) ∧ (own'.map (·.1)).Nodup ∧ (∀ a ∈ own'.map (·.1), B' a = none ∧ (s.heap.get? a = none ∨ a ∈ own₁.map (·.1))) ∧ Q m B' own') (fun _ _ => False) s

section
variable {C : Cx} {hb : Heap} {σ : St}

theorem Holds.perm {s : Shared} {own' : Own} (H : Holds C σ s) (p : σ.own.Perm own') : Holds C { σ with own := own' } s := by
  have pk : (σ.own.map (·.1)).Perm (own'.map (·.1)) := p.map _
  exact {
    kp := H.kp, names := H.names, ns := H.ns, cells := H.cells, alive := H.alive, B := H.B, gens := H.gens, os := H.os, al := H.al, B0 := H.B0, Bnew := H.Bnew, noB := H.noB
    own := fun q hq => H.own q (p.mem_iff.mpr hq)
    nodup := (pk.append_right C.fr).nodup_iff.mp H.nodup
    apartB := fun a ha => H.apartB a ((pk.append_right C.fr).mem_iff.mpr ha)
    apartK := fun a ha => H.apartK a ((pk.append_right C.fr).mem_iff.mpr ha)
    ownNew := fun q hq => H.ownNew q (p.mem_iff.mpr hq) }

theorem none_of_not_alive {h : Heap} {a : Addr} (e : ¬ ∃ o, h.get? a = some o) : h.get? a = none := by
  cases h' : h.get? a with
  | none => rfl
  | some o => exact absurd ⟨o, h'⟩ e

theorem Holds.called {s s' : Shared} (OK : C.Ok hb) {own₁ rest own' : Own} {B' : MH} (H : Holds C σ s) (hp : σ.own = own₁ ++ rest)
    (k : ∀ b o, b ∉ own₁.map (·.1) → s.heap.get? b = some o → s'.heap.get? b = some o) (hg : s'.gens = s.gens) (hos : s'.os = s.os)
    (al : ∀ a, (∃ o, s.heap.get? a = some o) → ∃ o, s'.heap.get? a = some o)
    (b1 : ∀ a o, σ.B a = some o → B' a = some o) (b2 : ∀ a o, B' a = some o → OR s'.heap a o) (b3 : ∀ a o, B' a = some o → σ.B a = some o ∨ s.heap.get? a = none)
    (o1 : ∀ p ∈ own', OR s'.heap p.1 p.2) (o2 : (own'.map (·.1)).Nodup) (o3 : ∀ a ∈ own'.map (·.1), B' a = none ∧ (s.heap.get? a = none ∨ a ∈ own₁.map (·.1))) :
    Holds C { σ with B := B', own := own' ++ rest } s' := by
  have nd := H.nodup
  rw [hp, List.map_append, List.append_assoc] at nd
  have nd' := List.nodup_append.mp nd
  have aB := H.apartB; have aK := H.apartK; have oN := H.ownNew; have hO := H.own
  rw [hp] at aB aK oN hO
  have in1 : ∀ a, a ∈ own₁.map (·.1) → a ∈ (own₁ ++ rest).map (·.1) ++ C.fr := fun a ha => List.mem_append_left _ (by rw [List.map_append]; exact List.mem_append_left _ ha)
  have inR : ∀ a, a ∈ rest.map (·.1) ++ C.fr → a ∈ (own₁ ++ rest).map (·.1) ++ C.fr := fun a ha => by rw [List.map_append, List.append_assoc]; exact List.mem_append_right _ ha
  have rne : ∀ a, a ∈ rest.map (·.1) ++ C.fr → a ∉ own₁.map (·.1) := fun a ha h1 => nd'.2.2 a h1 a ha rfl
  have frne : ∀ a ∈ C.fr, a ∉ own₁.map (·.1) := fun a ha => rne a (List.mem_append_right _ ha)
  have kne : ∀ b o, C.kp b o → b ∉ own₁.map (·.1) := fun b o hk hm => aK b (in1 b hm) o hk
  have cne : ∀ x c, C.env.cells.lookup x = some c → c ∉ own₁.map (·.1) := fun x c hc => (OK.cellsIn x c hc).elim (frne c) fun ⟨o, ho⟩ => kne c o ho
  have aliveR : ∀ a ∈ rest.map (·.1) ++ C.fr, ∃ o, s.heap.get? a = some o := fun a ha => by
    rcases List.mem_append.mp ha with h | h
    · obtain ⟨p, hp', e⟩ := List.mem_map.mp h
      obtain ⟨ob, hob⟩ := (hO p (List.mem_append_right _ hp')).alive
      exact ⟨ob, e ▸ hob⟩
    · exact H.alive a h
  exact {
    kp := fun b o hk => k b o (kne b o hk) (H.kp b o hk)
    names := fun x v hv => by
      rcases H.names x v hv with ⟨hk, m, u, ⟨o, es, ep, h1, h2⟩, hm, hv'⟩ | ⟨hk, c, u, hc, ⟨ob, h1, h2⟩, hv'⟩
      · exact .inl ⟨hk, m, u, ⟨o, es, ep, k _ _ (frne _ OK.locals) h1, h2⟩, hm, hv'⟩
      · exact .inr ⟨hk, c, u, hc, ⟨ob, k _ _ (cne x c hc) h1, h2⟩, hv'⟩
    ns := let ⟨m, o, es, ep, h1, h2⟩ := H.ns; ⟨m, o, es, ep, k _ _ (frne _ OK.locals) h1, h2⟩
    cells := fun x c hc => let ⟨u, ob, h1, h2⟩ := H.cells x c hc; ⟨u, ob, k _ _ (cne x c hc) h1, h2⟩
    alive := fun a ha => al a (H.alive a ha)
    B := b2
    own := fun p hp' => by
      rcases List.mem_append.mp hp' with h | h
      · exact o1 p h
      · exact (hO p (List.mem_append_right _ h)).at fun ob hob => k _ _ (rne p.1 (List.mem_append_left _ (List.mem_map.mpr ⟨p, h, rfl⟩))) hob
    nodup := by
      show ((own' ++ rest).map (·.1) ++ C.fr).Nodup
      rw [List.map_append, List.append_assoc]
      refine List.nodup_append.mpr ⟨o2, nd'.2.1, fun a ha b hb' e => ?_⟩
      subst e
      rcases (o3 a ha).2 with h | h
      · obtain ⟨ob, hob⟩ := aliveR a hb'; rw [h] at hob; cases hob
      · exact rne a hb' h
    apartB := fun a ha => by
      have ha' : a ∈ own'.map (·.1) ++ (rest.map (·.1) ++ C.fr) := by rw [← List.append_assoc, ← List.map_append]; exact ha
      rcases List.mem_append.mp ha' with h | h
      · exact (o3 a h).1
      · cases e : B' a with
        | none => exact e
        | some o =>
          rcases b3 a o e with h' | h'
          · rw [aB a (inR a h)] at h'; cases h'
          · obtain ⟨ob, hob⟩ := aliveR a h; rw [h'] at hob; cases hob
    apartK := fun a ha o hk => by
      have ha' : a ∈ own'.map (·.1) ++ (rest.map (·.1) ++ C.fr) := by rw [← List.append_assoc, ← List.map_append]; exact ha
      rcases List.mem_append.mp ha' with h | h
      · rcases (o3 a h).2 with h' | h'
        · rw [H.kp a o hk] at h'; cases h'
        · exact aK a (in1 a h') o hk
      · exact aK a (inR a h) o hk
    gens := hg.trans H.gens
    os := hos.trans H.os
    al := fun a ha => al a (H.al a ha)
    B0 := fun a o h => b1 a o (H.B0 a o h)
    noB := fun a ha => by
      cases e : B' a with
      | none => exact e
      | some o =>
        rcases b3 a o e with h | h
        · rw [H.noB a ha] at h; cases h
        · obtain ⟨ob, hob⟩ := OK.noKp a ha; rw [H.kp a ob hob] at h; cases h
    Bnew := fun a o h => by
      rcases b3 a o h with h' | h'
      · exact H.Bnew a o h'
      · exact .inr fun ha => by obtain ⟨ob, hob⟩ := H.al a ha; rw [h'] at hob; cases hob
    ownNew := fun p hp' => by
      rcases List.mem_append.mp hp' with h | h
      · rcases (o3 p.1 (List.mem_map.mpr ⟨p, h, rfl⟩)).2 with h' | h'
        · exact .inl fun ha => by obtain ⟨ob, hob⟩ := H.al _ ha; rw [h'] at hob; cases hob
        · obtain ⟨q, hq, e⟩ := List.mem_map.mp h'
          exact e ▸ oN q (List.mem_append_left _ hq)
      · exact oN p (List.mem_append_right _ h) }

/-- a call of a function with a contract; own₁ is handed over -/
theorem CallV_ct {f : Value} {n : Nat} {S : Spec} {args : List MV} {own₁ rest : Own} {Q : MV → St → Prop} (OK : C.Ok hb) (ct : Contract C.prog C.w hb f n S) (hn : n ≤ C.room)
    (hp : σ.own.Perm (own₁ ++ rest)) (h : S args σ.B own₁ (fun m B' own' => Q m { σ with B := B', own := own' ++ rest })) : CallV C f args σ Q := fun vs hvs s H => by
  have H' := H.perm hp
  have nd := List.nodup_append.mp H'.nodup
  have ndo : ((own₁ ++ rest).map (·.1)).Nodup := nd.1
  rw [List.map_append] at ndo
  have in1 : ∀ a, a ∈ own₁.map (·.1) → a ∈ (own₁ ++ rest).map (·.1) ++ C.fr := fun a ha => List.mem_append_left _ (by rw [List.map_append]; exact List.mem_append_left _ ha)
  refine wpAny_mono (ct C.A s args vs σ.B own₁ _ OK.handled (by have := OK.depth; omega) (by have := OK.units; omega) (H.base OK) H.B (fun p hp' => H'.own p (List.mem_append_left _ hp')) (List.nodup_append.mp ndo).1
    (fun a ha => ⟨H'.apartB a (in1 a ha), none_of_not_alive fun ⟨o, ho⟩ => H'.apartK a (in1 a ha) o (OK.base a o ho)⟩) hvs h) (fun v s' hpat => ?_) fun _ _ x => x
  obtain ⟨m, B', own', h1, k, hg, hos, al, b1, b2, b3, o1, o2, o3, hq⟩ := hpat
  exact ⟨m, _, h1, Holds.called (σ := { σ with own := own₁ ++ rest }) OK H' rfl k hg hos al b1 b2 b3 o1 o2 o3, hq⟩
theorem CallV_ct0 {f : Value} {n : Nat} {S : Spec} {args : List MV} {Q : MV → St → Prop} (OK : C.Ok hb) (ct : Contract C.prog C.w hb f n S) (hn : n ≤ C.room)
    (h : S args σ.B [] (fun m B' own' => Q m { σ with B := B', own := own' ++ σ.own })) : CallV C f args σ Q := CallV_ct (own₁ := []) (rest := σ.own) OK ct hn (List.Perm.refl _) h
end

/-! a function's contract from its body -/
def retOf : MF → MV
  | .next => .none
  | .ret v => v

structure FnIs (hb : Heap) (f : Addr) (ps : List Str) (body : List Stmt) (scope : Scope) : Prop where
  ex : ∃ o fd, hb.get? f = some o ∧ o.data = .func fd ∧ fd.body = .stmts body ∧ fd.scope = scope ∧ fd.closure = [] ∧ fd.globals = mainGlobals ∧ fd.builtins = builtinsNs ∧ hb.CodeRec fd.code fd.qualname ∧
    (∀ vals : List Value, vals.length = ps.length → bindArgs fd ⟨vals, []⟩ = pure (ps.zip vals))
  co : scope.isCoroutine = false
  gen : scope.isGenerator = false
  kind : scope.kind = .function
  pkind : ∀ x ∈ ps, scope.names.lookup x = some .local ∨ scope.names.lookup x = some .cell
  nodup : ps.Nodup
  ndNames : (scope.names.map (·.1)).Nodup
  noFree : ∀ x, scope.names.lookup x ≠ some .free

theorem cellsFrom_acc {x : Str} : ∀ (names : List (Str × NameKind)) (n : Nat) (acc : List (Str × Addr)), names.lookup x = some .cell ∨ (acc.lookup x).isSome = true → ((cellsFrom n names acc).lookup x).isSome = true
  | [], _, _, h => h.elim (fun e => by cases e) id
  | (y, k) :: r, n, acc, h => by
    unfold cellsFrom
    split
    · rename_i hk
      refine cellsFrom_acc r (n + 1) _ ?_
      by_cases hy : (x == y) = true
      · exact .inr (by rw [List.lookup_cons, hy]; rfl)
      · have hy' : (x == y) = false := by simpa using hy
        refine h.imp (fun e => ?_) fun e => ?_
        · rw [List.lookup_cons, hy'] at e; exact e
        · rw [List.lookup_cons, hy']; exact e
    · rename_i hk
      refine cellsFrom_acc r n acc ?_
      by_cases hy : (x == y) = true
      · refine .inr (h.elim (fun e => ?_) id)
        rw [List.lookup_cons, hy] at e
        exact absurd (by rw [Option.some.inj e]; rfl) hk
      · have hy' : (x == y) = false := by simpa using hy
        refine h.imp (fun e => ?_) id
        rw [List.lookup_cons, hy'] at e; exact e

theorem cellsFrom_keys : ∀ (names : List (Str × NameKind)) (n : Nat) (acc : List (Str × Addr)), (cellsFrom n names acc).map (·.1) = ((names.filter fun x => x.2 == .cell).map (·.1)).reverse ++ acc.map (·.1)
  | [], _, _ => rfl
  | (y, k) :: r, n, acc => by
    unfold cellsFrom
    split
    · rename_i hk
      rw [cellsFrom_keys r, List.filter_cons]; simp [hk]
    · rename_i hk
      rw [cellsFrom_keys r, List.filter_cons]; simp [hk]
theorem lookup_of_mem : ∀ (l : List (Str × Addr)) (p : Str × Addr), (l.map (·.1)).Nodup → p ∈ l → l.lookup p.1 = some p.2
  | q :: r, p, nd, h => by
    have nd' := List.nodup_cons.mp nd
    rcases List.mem_cons.mp h with e | e
    · subst e; simp [List.lookup]
    · have hne : (p.1 == q.1) = false := by
        cases hb2 : p.1 == q.1 with
        | false => rfl
        | true => exact absurd (List.mem_map.mpr ⟨p, e, beq_iff_eq.mp hb2⟩) nd'.1
      rw [List.lookup_cons, hne]; exact lookup_of_mem r p nd'.2 e

theorem bindL_miss {kindOf : Str → Option NameKind} : ∀ (binds : List (Str × Value)) (acc : Str → Option Value) (x : Str), x ∉ binds.map (·.1) → bindL kindOf binds acc x = acc x
  | [], _, _, _ => rfl
  | (n, v) :: r, acc, x, h => by
    simp only [List.map_cons, List.mem_cons, not_or] at h
    unfold bindL
    rw [bindL_miss r _ x h.2]
    split
    · exact if_neg h.1
    · rfl
theorem bindC_miss {kindOf : Str → Option NameKind} : ∀ (binds : List (Str × Value)) (acc : Str → Option Value) (x : Str), x ∉ binds.map (·.1) → bindC kindOf binds acc x = acc x
  | [], _, _, _ => rfl
  | (n, v) :: r, acc, x, h => by
    simp only [List.map_cons, List.mem_cons, not_or] at h
    unfold bindC
    rw [bindC_miss r _ x h.2]
    split
    · rfl
    · exact if_neg h.1
theorem bindL_hit {kindOf : Str → Option NameKind} : ∀ (binds : List (Str × Value)) (acc : Str → Option Value) (x : Str) (v : Value), (binds.map (·.1)).Nodup → (x, v) ∈ binds → kindOf x = some .local → bindL kindOf binds acc x = some v
  | (n, u) :: r, acc, x, v, nd, hm, hk => by
    have nd' := List.nodup_cons.mp nd
    unfold bindL
    rcases List.mem_cons.mp hm with e | e
    · cases e
      rw [bindL_miss r _ _ nd'.1, if_pos hk]; exact if_pos rfl
    · exact bindL_hit r _ x v nd'.2 e hk
theorem bindC_hit {kindOf : Str → Option NameKind} : ∀ (binds : List (Str × Value)) (acc : Str → Option Value) (x : Str) (v : Value), (binds.map (·.1)).Nodup → (x, v) ∈ binds → kindOf x = some .cell → bindC kindOf binds acc x = some v
  | (n, u) :: r, acc, x, v, nd, hm, hk => by
    have nd' := List.nodup_cons.mp nd
    unfold bindC
    rcases List.mem_cons.mp hm with e | e
    · cases e
      rw [bindC_miss r _ _ nd'.1, if_neg (by rw [hk]; simp)]; exact if_pos rfl
    · exact bindC_hit r _ x v nd'.2 e hk

theorem look_zip {ps : List Str} : ∀ {args : List MV} {vals : List Value}, VsR args vals → ∀ {x : Str} {m : MV}, look (ps.zip args) x = some m → x ∈ ps ∧ ∃ v, (x, v) ∈ ps.zip vals ∧ VR m v := by
  induction ps with
  | nil => intro args vals _ x m h; simp [look] at h
  | cons p r ih =>
    intro args vals hv x m h
    cases hv with
    | nil => simp [look] at h
    | cons h1 h2 =>
      simp only [List.zip_cons_cons, look] at h
      by_cases hx : x = p
      · subst hx; rw [if_pos rfl] at h; cases h
        exact ⟨.head _, _, .head _, h1⟩
      · rw [if_neg hx] at h
        obtain ⟨e1, v, e2, e3⟩ := ih h2 h
        exact ⟨.tail _ e1, v, .tail _ e2, e3⟩

theorem zip_keys {α : Type} : ∀ {ps : List Str} {vs : List α}, vs.length = ps.length → (ps.zip vs).map (·.1) = ps
  | [], [], _ => rfl
  | p :: ps, v :: vs, h => by simp only [List.zip_cons_cons, List.map_cons]; rw [zip_keys (by simpa using h)]
  | [], _ :: _, h => by simp at h
  | _ :: _, [], h => by simp at h

theorem Contract.intro {prog : Program} {w : World} {hb : Heap} {f : Addr} {ps : List Str} {body : List Stmt} {scope : Scope} {n : Nat} {S : Spec} (F : FnIs hb f ps body scope) (hlim : hb.NoLimit)
    (hS : ∀ args B own Q, S args B own Q → args.length = ps.length)
    (h : ∀ (C : Cx), C.Ok hb → C.prog = prog → C.w = w → C.env.scope = scope → C.room = n → (∀ x c, C.env.cells.lookup x = some c → c ∈ C.fr) → (∀ x, scope.names.lookup x = some .cell → ∃ c, C.env.cells.lookup x = some c) →
      ∀ args B own Q, C.mod = own.map (·.1) → C.B0 = B → S args B own Q → Sts C body ⟨ps.zip args, B, own⟩ (fun fl σ' => Q (retOf fl) σ'.B σ'.own)) : Contract prog w hb (.ref f) (n + 1) S := by
  intro A s args vals B own₁ Q hh hd hu hbs hB hO hnd hap hv hs
  obtain ⟨o, fd, ho, hdata, hbody, rfl, hclo, hglob, hbi, hcd, hbind⟩ := F.ex
  have hlen : args.length = ps.length := hS _ _ _ _ hs
  have hvl : vals.length = ps.length := hv.length ▸ hlen
  refine wpAny_call (codeAny_call_cells (by omega) (hbs _ _ ho) hdata (hlim.keeps hbs) (hcd.keeps hbs) hbody (hbind vals hvl) hclo (fun x hx => ?_) (fun s₁ I => ?_) F.co F.gen F.kind)
  · have hm : x.1 ∈ ps := by rw [← zip_keys hvl]; exact List.mem_map.mpr ⟨x, hx, rfl⟩
    rcases F.pkind x.1 hm with h1 | h1
    · exact .inl h1
    · exact .inr ⟨h1, cellsFrom_acc _ _ _ (.inl h1)⟩
  generalize henv : callEnvC fd s.heap.objs.size f = env at I ⊢
  have hsc : env.scope = fd.scope := by rw [← henv]; rfl
  have hL : env.locals = s.heap.objs.size := by rw [← henv]; rfl
  have hcl : env.cells = cellsFrom (s.heap.objs.size + 1) fd.scope.names [] := by rw [← henv]; rfl
  have hgl : env.globals = mainGlobals := by rw [← henv]; exact hglob
  have hbu : env.builtins = builtinsNs := by rw [← henv]; exact hbi
  have keep := I.toInCall.keep
  obtain ⟨h₁, tk, rfl⟩ := I.toInCall.same
  have fresh : ∀ a, s.heap.objs.size ≤ a → s.heap.get? a = none := fun a ha => none_of_not_alive fun ⟨o, ho⟩ => Nat.lt_irrefl _ (Nat.lt_of_lt_of_le (Heap.lt_size ho) ha)
  have cabove : ∀ x c, env.cells.lookup x = some c → s.heap.objs.size < c := fun x c hc => hL ▸ I.above x c (mem_of_lookup hc)
  let C : Cx := Cx.mk prog w (A.deeper env) env (env.locals :: env.cells.map (·.2)) (fun b o => s.heap.get? b = some o ∧ b ∉ own₁.map (·.1)) s.gens s.os n (fun a => ∃ o, s.heap.get? a = some o) (own₁.map (·.1)) B (fun _ => False)
  have frfresh : ∀ a ∈ env.locals :: env.cells.map (·.2), s.heap.get? a = none := fun a ha => by
    rcases List.mem_cons.mp ha with rfl | ha
    · exact fresh _ (hL ▸ Nat.le_refl _)
    · obtain ⟨p, hp, rfl⟩ := List.mem_map.mp ha
      exact fresh _ (hL ▸ Nat.le_of_lt (I.above p.1 p.2 hp))
  have frnd : (env.locals :: env.cells.map (·.2)).Nodup := by
    refine List.nodup_cons.mpr ⟨fun hm => ?_, ?_⟩
    · obtain ⟨p, hp, e⟩ := List.mem_map.mp hm
      exact Nat.lt_irrefl _ (e ▸ I.above p.1 p.2 hp)
    · exact List.Pairwise.map _ (fun a b hab => hab) I.apart
  have OK : C.Ok hb := {
    handled := hh
    depth := by show A.depth + 1 + n < _; omega
    units := by show A.units + 3 + 3 * n + 100 < _; omega
    kind := hsc ▸ F.kind
    globals := hgl, builtins := hbu, locals := .head _
    cellsIn := fun x c hc => .inl (.tail _ (List.mem_map.mpr ⟨(x, c), mem_of_lookup hc, rfl⟩))
    cellsNe := fun x c hc e => Nat.lt_irrefl _ (e ▸ hL ▸ cabove x c hc)
    cellsInj := fun x y c h1 h2 => name_of_addr I.apart (mem_of_lookup h1) (mem_of_lookup h2)
    apart := fun a ha o hk => by have := frfresh a ha; rw [hk.1] at this; cases this
    base := fun b o hbo => ⟨hbs _ _ hbo, fun hm => by rw [(hap b hm).2] at hbo; cases hbo⟩
    modAl := fun a ha => by obtain ⟨p, hp, rfl⟩ := List.mem_map.mp ha; exact (hO p hp).alive
    noKp := fun _ h => h.elim }
  have H : Holds C ⟨ps.zip args, B, own₁⟩ { s with heap := h₁, toks := tk } := {
    kp := fun b o hk => keep b o hk.1
    names := fun x v hx => by
      obtain ⟨hp, u, hm, hr⟩ := look_zip hv hx
      have hz : ((ps.zip vals).map (·.1)).Nodup := by rw [zip_keys hvl]; exact F.nodup
      rcases F.pkind x hp with h1 | h1
      · have hk : env.kindOf x = some .local := by unfold Env.kindOf; rw [hsc]; exact h1
        exact .inl ⟨hk, _, u, I.toInCall.ns, bindL_hit _ _ x u hz hm hk, hr⟩
      · have hk : env.kindOf x = some .cell := by unfold Env.kindOf; rw [hsc]; exact h1
        have hsome := cellsFrom_acc fd.scope.names (s.heap.objs.size + 1) [] (.inl h1)
        rw [← hcl] at hsome
        obtain ⟨c, hc⟩ := Option.isSome_iff_exists.mp hsome
        refine .inr ⟨.inl hk, c, u, hc, ?_, hr⟩
        have := I.cell x c hc
        rw [bindC_hit _ _ x u hz hm hk] at this
        exact this
    ns := ⟨_, I.toInCall.ns⟩
    cells := fun x c hc => ⟨_, I.cell x c hc⟩
    alive := fun a ha => by
      rcases List.mem_cons.mp ha with rfl | ha
      · obtain ⟨o, es, ep, ho, _⟩ := I.toInCall.ns; exact ⟨o, ho⟩
      · obtain ⟨p, hp, rfl⟩ := List.mem_map.mp ha
        have hlk : env.cells.lookup p.1 = some p.2 := by
          refine lookup_of_mem _ p ?_ hp
          rw [hcl, cellsFrom_keys]
          simp only [List.map_nil, List.append_nil]
          refine (List.reverse_perm _).nodup_iff.mpr ?_
          exact List.Sublist.nodup (List.Sublist.map _ List.filter_sublist) F.ndNames
        obtain ⟨ob, h1, _⟩ := I.cell p.1 p.2 hlk
        exact ⟨ob, h1⟩
    B := fun a o ha => (hB a o ha).at fun ob => keep _ _
    own := fun p hp => (hO p hp).at fun ob => keep _ _
    nodup := List.nodup_append.mpr ⟨hnd, frnd, fun a ha b hb' e => by
      subst e
      obtain ⟨p, hp, rfl⟩ := List.mem_map.mp ha
      obtain ⟨ob, hob⟩ := (hO p hp).alive
      rw [frfresh _ hb'] at hob; cases hob⟩
    apartB := fun a ha => by
      rcases List.mem_append.mp ha with h1 | h1
      · exact (hap a h1).1
      · cases e : B a with
        | none => exact e
        | some o => obtain ⟨ob, hob⟩ := (hB a o e).alive; rw [frfresh a h1] at hob; cases hob
    apartK := fun a ha o hk => by
      rcases List.mem_append.mp ha with h1 | h1
      · exact hk.2 h1
      · have := frfresh a h1; rw [hk.1] at this; cases this
    gens := rfl, os := rfl
    al := fun a ⟨o, ho⟩ => ⟨o, keep _ _ ho⟩
    B0 := fun _ _ h => h
    Bnew := fun _ _ h => .inl h
    noB := fun _ h => h.elim
    ownNew := fun p hp => .inr (List.mem_map.mpr ⟨p, hp, rfl⟩) }
  refine wpAny_mono (h C OK rfl rfl hsc rfl (fun x c hc => .tail _ (List.mem_map.mpr ⟨(x, c), mem_of_lookup hc, rfl⟩)) (fun x hx => ?_) args B own₁ Q rfl rfl hs _ H) (fun fl s' ⟨b, σ', hf, H', hq⟩ => ?_) fun _ _ x => x.elim
  · have hsome := cellsFrom_acc fd.scope.names (s.heap.objs.size + 1) [] (.inl hx)
    rw [← hcl] at hsome
    exact Option.isSome_iff_exists.mp hsome
  refine ⟨retOf b, σ'.B, σ'.own, ?_, fun b' o hb' ho' => H'.kp b' o ⟨ho', hb'⟩, H'.gens, H'.os, H'.al, H'.B0, H'.B, fun a o ha => (H'.Bnew a o ha).imp id none_of_not_alive, H'.own, (List.nodup_append.mp H'.nodup).1,
    fun a ha => ⟨H'.apartB a (List.mem_append_left _ ha), ?_⟩, hq⟩
  · cases b with
    | next => obtain rfl : fl = .next := hf; rfl
    | ret m => obtain ⟨v, rfl, hv'⟩ := hf; exact hv'
  · obtain ⟨p, hp, rfl⟩ := List.mem_map.mp ha
    exact (H'.ownNew p hp).imp none_of_not_alive id
end Mine
set_option autoImplicit false
set_option linter.unusedVariables false
namespace Mine
open PySem

/-- what a function's text may know of its frame -/
structure Fx (C : Cx) (hb : Heap) (prog : Program) (w : World) (sc : Scope) (n : Nat) (md : List Addr) (fl : Bool) : Prop where
  ok : C.Ok hb
  eprog : C.prog = prog
  ew : C.w = w
  esc : C.env.scope = sc
  eroom : C.room = n
  emod : C.mod = md
  cell : ∀ x, sc.names.lookup x = some .cell ∨ sc.names.lookup x = some .free → ∃ c, C.env.cells.lookup x = some c
  full : fl = true → ∀ x, sc.names.lookup x = some .cell → ∃ c, C.env.cells.lookup x = some c ∧ c ∈ C.fr

def Cx.hide (C : Cx) (h : Heap) (X wr : List Addr) : Cx := { C with kp := fun b o => C.kp b o ∨ (b ∈ X ∧ h.get? b = some o), no := fun a => C.no a ∨ a ∈ wr }

section
variable {C : Cx} {hb : Heap} {σ : St} {prog : Program} {w : World} {sc : Scope} {n : Nat} {md : List Addr} {fl : Bool}

theorem Cx.Ok.hide (OK : C.Ok hb) {h : Heap} {X wr : List Addr} (hX : ∀ a ∈ X, a ∉ C.fr) (hw : ∀ a ∈ wr, a ∈ X ∧ ∃ o, h.get? a = some o) : (C.hide h X wr).Ok hb where
  handled := OK.handled
  depth := OK.depth
  units := OK.units
  kind := OK.kind
  globals := OK.globals
  builtins := OK.builtins
  locals := OK.locals
  cellsIn := fun x c hc => (OK.cellsIn x c hc).imp id fun ⟨o, ho⟩ => ⟨o, .inl ho⟩
  cellsNe := OK.cellsNe
  cellsInj := OK.cellsInj
  apart := fun a ha o hk => hk.elim (OK.apart a ha o) fun hk => hX a hk.1 ha
  base := fun b o h => .inl (OK.base b o h)
  modAl := OK.modAl
  noKp := fun a ha => ha.elim (fun h => let ⟨o, ho⟩ := OK.noKp a h; ⟨o, .inl ho⟩) fun h => let ⟨h1, o, ho⟩ := hw a h; ⟨o, .inr ⟨h1, ho⟩⟩
theorem Fx.hide (F : Fx C hb prog w sc n md fl) {h : Heap} {X wr : List Addr} (hX : ∀ a ∈ X, a ∉ C.fr) (hw : ∀ a ∈ wr, a ∈ X ∧ ∃ o, h.get? a = some o) : Fx (C.hide h X wr) hb prog w sc n md fl where
  ok := F.ok.hide hX hw
  eprog := F.eprog
  ew := F.ew
  esc := F.esc
  eroom := F.eroom
  emod := F.emod
  cell := F.cell
  full := F.full

theorem Holds.hide {s : Shared} (H : Holds C σ s) {X wr : List Addr} (hX : ∀ a ∈ X, a ∉ σ.own.map (·.1) ++ C.fr) (hw : ∀ a ∈ wr, σ.B a = none) : Holds (C.hide s.heap X wr) σ s where
  kp := fun b o h => h.elim (H.kp b o) fun h => h.2
  names := H.names
  ns := H.ns
  cells := H.cells
  alive := H.alive
  B := H.B
  own := H.own
  nodup := H.nodup
  apartB := H.apartB
  apartK := fun a ha o h => h.elim (H.apartK a ha o) fun h => hX a h.1 ha
  gens := H.gens
  os := H.os
  al := H.al
  B0 := H.B0
  Bnew := H.Bnew
  ownNew := H.ownNew
  noB := fun a ha => ha.elim (H.noB a) (hw a)
theorem Holds.unhide {s : Shared} {h : Heap} {X wr : List Addr} (H : Holds (C.hide h X wr) σ s) : Holds C σ s where
  kp := fun b o h => H.kp b o (.inl h)
  names := H.names
  ns := H.ns
  cells := H.cells
  alive := H.alive
  B := H.B
  own := H.own
  nodup := H.nodup
  apartB := H.apartB
  apartK := fun a ha o h => H.apartK a ha o (.inl h)
  gens := H.gens
  os := H.os
  al := H.al
  B0 := H.B0
  Bnew := H.Bnew
  ownNew := H.ownNew
  noB := fun a ha => H.noB a (.inl ha)

theorem Stm_While {test : Expr} {body orelse : List Stmt} {pos : Pos} {Q : MF → St → Prop} (I : Nat → St → Prop)
    (turn : ∀ k σ', I k σ' → Ts C test σ' (fun b σ₁ => if b then Sts C body σ₁ (fun f σ₂ => match f with | .next => ∃ m, m < k ∧ I m σ₂ | .ret v => Q (.ret v) σ₂) else Sts C orelse σ₁ Q))
    (k : Nat) (h : I k σ) : Stm C (.While test body orelse pos) σ Q := fun s H => by
  refine wpAny_While (codeAny_whileLoop (fun k s => ∃ σ', I k σ' ∧ Holds C σ' s) (fun k s hpat => ?_) k ⟨σ, h, H⟩)
  obtain ⟨σ', hI, H'⟩ := hpat
  refine wpAny_mono (turn k σ' hI s H') (fun b s₂ hpat => ?_) fun _ _ x => x.elim
  obtain ⟨b', σ₁, e, H₁, h₁⟩ := hpat
  subst e
  cases b' with
  | true =>
    refine wpAny_mono (h₁ s₂ H₁) (fun f s₃ hpat => ?_) fun _ _ x => x.elim
    obtain ⟨m, σ₂, hf, H₂, h₂⟩ := hpat
    cases m with
    | next => obtain rfl : f = .next := hf; obtain ⟨j, hj, hI'⟩ := h₂; exact ⟨j, hj, σ₂, hI', H₂⟩
    | ret v => obtain ⟨vv, rfl, hv⟩ := hf; exact ⟨.ret v, σ₂, ⟨vv, rfl, hv⟩, H₂, h₂⟩
  | false =>
    exact wpAny_mono (h₁ s₂ H₁) (fun f s₃ ⟨m, σ₂, hf, H₂, h₂⟩ => ⟨m, σ₂, hf, H₂, h₂⟩) fun _ _ x => x.elim

/-! iteration -/
def Itr (σ : St) (v : MV) (items : List MV) : Prop :=
  ∃ a, v = .ref a ∧ (σ.B a = some (.list items) ∨ (σ.B a = some (.tup items) ∨ ∃ kvs, σ.B a = some (.dict kvs) ∧ items = kvs.map (fun p => keyMV p.1)) ∨ ∃ k : Nat, Has σ a (.range k) ∧ items = (List.range k).map (fun i => MV.int (i : Nat)))

structure Walked (C : Cx) (σ : St) (items : List MV) (I : Addr) (fp wr : List Addr) (P : Nat → Value → Prop) (St : Nat → Heap → Prop) (s : Shared) : Prop where
  walks : Walks C.prog C.w C.A I fp wr items.length P St
  st : St 0 s.heap
  item : ∀ i v, P i v → ∃ m, items[i]? = some m ∧ VR m v
  holds : Holds C σ s
  apart : ∀ a ∈ fp, a ∉ σ.own.map (·.1) ++ C.fr
  alive : ∀ a ∈ fp, ∃ o, s.heap.get? a = some o
  noB : ∀ a ∈ wr, σ.B a = none
  noK : ∀ a ∈ wr, ∀ o, ¬ C.kp a o
  noAl : ∀ a ∈ wr, ¬ C.al a
  stays : ∀ i h, St i h → ∀ a ∈ wr, ∃ o, h.get? a = some o

theorem fresh_facts {s : Shared} (H : Holds C σ s) : s.heap.objs.size ∉ σ.own.map (·.1) ++ C.fr ∧ σ.B s.heap.objs.size = none ∧ (∀ o, ¬ C.kp s.heap.objs.size o) ∧ ¬ C.al s.heap.objs.size := H.far (Nat.le_refl _)

theorem rangeSize_nat (k : Nat) : Builtin.Range.rangeSize 0 k 1 = k := by
  unfold Builtin.Range.rangeSize
  rw [if_pos (by decide)]
  split
  · rw [Int.ediv_one]; omega
  · omega
theorem range_small {k : Nat} (h : k ≤ lim) : Builtin.Range.small 0 k 1 = true := by
  have hl : (k : Int) ≤ 1000000 := by unfold lim at h; omega
  have fit : ∀ i : Int, 0 ≤ i → i ≤ 1000001 → Builtin.Range.rangeFitsLong i = true := fun i h0 h1 => by
    unfold Builtin.Range.rangeFitsLong
    rw [Bool.and_eq_true]
    exact ⟨decide_eq_true (by omega), decide_eq_true (by omega)⟩
  unfold Builtin.Range.small
  rw [rangeSize_nat, fit 0 (by decide) (by decide), fit 1 (by decide) (by decide), fit k (by omega) (by omega), if_pos (by decide), fit (k + (1 - 1)) (by omega) (by omega)]
  simp

theorem Itr.walk (OK : C.Ok hb) {s : Shared} (H : Holds C σ s) {v : MV} {items : List MV} (it : Itr σ v items) {vv : Value} (hv : VR v vv) {Q : Value → Shared → Prop} {E : Value → Shared → Prop}
    (h : ∀ I fp wr P St s₂, Walked C σ items I fp wr P St s₂ → Q (.ref I) s₂) : wpAny (model C.prog C.w) C.A (pyIter vv) Q E s := by
  obtain ⟨a, rfl, it⟩ := it
  obtain rfl : vv = .ref a := hv
  obtain ⟨f1, f2, f3, f4⟩ := fresh_facts H
  have fn := fresh_none s.heap
  rcases it with hB | (hB | ⟨kvs, hB, rfl⟩) | ⟨k, hr, rfl⟩
  · obtain ⟨vs, nn, ho, hr, hlim⟩ := H.B a _ hB
    have hl : s.heap.IsList a vs := ⟨_, ho, rfl, nn, rfl⟩
    have hne : a ≠ s.heap.objs.size := fun e => by rw [e, fn] at ho; cases ho
    refine wpAny_pyIter_list hl (h s.heap.objs.size [s.heap.objs.size, a] [s.heap.objs.size] (fun i v => vs[i]? = some v) (fun i h => h.IsListIter s.heap.objs.size a i ∧ h.IsList a vs) _ ?_)
    have hsz : items.length = vs.size := by simpa using hr.length
    have W := Walks.list (prog := C.prog) (w := C.w) OK.handled s.heap.objs.size a hne vs
    rw [← hsz] at W
    refine { walks := W, st := ⟨⟨_, Heap.get?_push_size _ rfl, rfl, rfl⟩, hl.push _⟩, item := fun i u hu => ?_, holds := H.push _, apart := ?_, alive := ?_, noB := ?_, noK := ?_, noAl := ?_, stays := ?_ }
    · exact hr.getv (by rw [Array.getElem?_toList]; exact hu)
    · intro b hb'
      rcases List.mem_cons.mp hb' with rfl | hb'
      · exact f1
      · rcases List.mem_cons.mp hb' with rfl | hb'
        · exact fun hm => by rw [H.apartB _ hm] at hB; cases hB
        · cases hb'
    · intro b hb'
      rcases List.mem_cons.mp hb' with rfl | hb'
      · exact ⟨_, Heap.get?_push_size _ rfl⟩
      · rcases List.mem_cons.mp hb' with rfl | hb'
        · exact ⟨_, Heap.get?_push_of_some _ ho⟩
        · cases hb'
    · intro b hb'; rcases List.mem_cons.mp hb' with rfl | hb'
      · exact f2
      · cases hb'
    · intro b hb'; rcases List.mem_cons.mp hb' with rfl | hb'
      · exact f3
      · cases hb'
    · intro b hb'; rcases List.mem_cons.mp hb' with rfl | hb'
      · exact f4
      · cases hb'
    · intro i h' st b hb'; rcases List.mem_cons.mp hb' with rfl | hb'
      · obtain ⟨⟨o, ho', _⟩, _⟩ := st; exact ⟨o, ho'⟩
      · cases hb'
  · obtain ⟨vs, nn, ho, hr, hlim⟩ := H.B a _ hB
    have hl : s.heap.IsTuple a vs := ⟨_, ho, rfl, nn, rfl⟩
    have hne : a ≠ s.heap.objs.size := fun e => by rw [e, fn] at ho; cases ho
    refine wpAny_pyIter_tuple hl (h s.heap.objs.size [s.heap.objs.size, a] [s.heap.objs.size] (fun i v => vs[i]? = some v) (fun i h => h.IsTupleIter s.heap.objs.size a i ∧ h.IsTuple a vs) _ ?_)
    have hsz : items.length = vs.size := by simpa using hr.length
    have W := Walks.tuple (prog := C.prog) (w := C.w) OK.handled s.heap.objs.size a hne vs
    rw [← hsz] at W
    refine { walks := W, st := ⟨⟨_, Heap.get?_push_size _ rfl, rfl, rfl⟩, hl.push _⟩, item := fun i u hu => ?_, holds := H.push _, apart := ?_, alive := ?_, noB := ?_, noK := ?_, noAl := ?_, stays := ?_ }
    · exact hr.getv (by rw [Array.getElem?_toList]; exact hu)
    · intro b hb'
      rcases List.mem_cons.mp hb' with rfl | hb'
      · exact f1
      · rcases List.mem_cons.mp hb' with rfl | hb'
        · exact fun hm => by rw [H.apartB _ hm] at hB; cases hB
        · cases hb'
    · intro b hb'
      rcases List.mem_cons.mp hb' with rfl | hb'
      · exact ⟨_, Heap.get?_push_size _ rfl⟩
      · rcases List.mem_cons.mp hb' with rfl | hb'
        · exact ⟨_, Heap.get?_push_of_some _ ho⟩
        · cases hb'
    · intro b hb'; rcases List.mem_cons.mp hb' with rfl | hb'
      · exact f2
      · cases hb'
    · intro b hb'; rcases List.mem_cons.mp hb' with rfl | hb'
      · exact f3
      · cases hb'
    · intro b hb'; rcases List.mem_cons.mp hb' with rfl | hb'
      · exact f4
      · cases hb'
    · intro i h' st b hb'; rcases List.mem_cons.mp hb' with rfl | hb'
      · obtain ⟨⟨o, ho', _⟩, _⟩ := st; exact ⟨o, ho'⟩
      · cases hb'
  · obtain ⟨hms, vk, ⟨p0, w0, hdo⟩, hkv, hlim⟩ := H.B a _ hB
    obtain ⟨ep, hda⟩ := (dictOf_any (p' := C.prog) (w' := C.w) hdo).dictAt
    have ho : ∃ o, s.heap.get? a = some o := let ⟨o, _, h1, _⟩ := hda; ⟨o, h1⟩
    obtain ⟨ob, ho⟩ := ho
    have hne : a ≠ s.heap.objs.size := fun e => by rw [e, fn] at ho; cases ho
    refine wpAny_pyIter_dict hms hda (h s.heap.objs.size [s.heap.objs.size, a] [s.heap.objs.size] (fun i v => ∃ k x, vk[i]? = some (k, x) ∧ (optKind C.prog C.w).is k v = true) (fun i h => h.IsKeyIter s.heap.objs.size a i vk.length ep ∧ h.DictAt (optKind C.prog C.w) a vk ep) _ ?_)
    have hsz : (kvs.map (fun p => keyMV p.1)).length = vk.length := by have := congrArg List.length hkv.k; simpa using this
    have W := Walks.dictKeys (knd := optKind C.prog C.w) OK.handled s.heap.objs.size a hne vk ep
    rw [← hsz] at W
    refine { walks := by rw [← hsz]; exact W, st := ⟨⟨_, Heap.get?_push_size _ rfl, rfl, rfl⟩, hda.push _⟩, item := fun i u hu => ?_, holds := H.push _, apart := ?_, alive := ?_, noB := ?_, noK := ?_, noAl := ?_, stays := ?_ }
    · obtain ⟨k, x, hx, hk⟩ := hu
      have e1 : (kvs.map (·.1))[i]? = some k := by rw [hkv.k]; simp [hx]
      refine ⟨keyMV k, by rw [List.getElem?_map] at e1 ⊢; obtain ⟨p, hp, rfl⟩ := Option.map_eq_some_iff.mp e1; rw [hp]; rfl, ?_⟩
      cases k with
      | none => exact keyIs_none hk
      | some k => exact keyIs_some hk
    · intro b hb'
      rcases List.mem_cons.mp hb' with rfl | hb'
      · exact f1
      · rcases List.mem_cons.mp hb' with rfl | hb'
        · exact fun hm => by rw [H.apartB _ hm] at hB; cases hB
        · cases hb'
    · intro b hb'
      rcases List.mem_cons.mp hb' with rfl | hb'
      · exact ⟨_, Heap.get?_push_size _ rfl⟩
      · rcases List.mem_cons.mp hb' with rfl | hb'
        · exact ⟨_, Heap.get?_push_of_some _ ho⟩
        · cases hb'
    · intro b hb'; rcases List.mem_cons.mp hb' with rfl | hb'
      · exact f2
      · cases hb'
    · intro b hb'; rcases List.mem_cons.mp hb' with rfl | hb'
      · exact f3
      · cases hb'
    · intro b hb'; rcases List.mem_cons.mp hb' with rfl | hb'
      · exact f4
      · cases hb'
    · intro i h' st b hb'; rcases List.mem_cons.mp hb' with rfl | hb'
      · obtain ⟨⟨o, ho', _⟩, _⟩ := st; exact ⟨o, ho'⟩
      · cases hb'
  · obtain ⟨t, u, vv, ho, hlim⟩ := H.has hr
    refine wpAny_pyIter_range ho (range_small hlim) (h s.heap.objs.size [s.heap.objs.size] [s.heap.objs.size] (fun i v => i < k ∧ ∃ t, v = .int (0 + i * 1) t) (fun i h => IsRangeIter h s.heap.objs.size (0 + (i : Nat) * 1) ((k : Int) - (i : Nat)) 1) _ ?_)
    have W := Walks.range (prog := C.prog) (w := C.w) (A := C.A) OK.handled s.heap.objs.size 0 1 k
    refine { walks := ?_, st := ?_, item := fun i u hu => ?_, holds := H.push _, apart := ?_, alive := ?_, noB := ?_, noK := ?_, noAl := ?_, stays := ?_ }
    · rw [List.length_map, List.length_range]
      exact { sub := W.sub, frame := W.frame, done := W.done, self := W.self, item := fun i s Q E hi st hQ => W.item i s Q E hi st fun v h' tk hP hs hk => hQ v h' tk ⟨hi, hP⟩ hs hk }
    · rw [rangeSize_nat]; simp; exact Heap.get?_push_size _ rfl
    · obtain ⟨hi, t, rfl⟩ := hu
      refine ⟨.int i, ?_, t, by simp⟩
      simp [hi]
    · intro b hb'; rcases List.mem_cons.mp hb' with rfl | hb'
      · exact f1
      · cases hb'
    · intro b hb'; rcases List.mem_cons.mp hb' with rfl | hb'
      · exact ⟨_, Heap.get?_push_size _ rfl⟩
      · cases hb'
    · intro b hb'; rcases List.mem_cons.mp hb' with rfl | hb'
      · exact f2
      · cases hb'
    · intro b hb'; rcases List.mem_cons.mp hb' with rfl | hb'
      · exact f3
      · cases hb'
    · intro b hb'; rcases List.mem_cons.mp hb' with rfl | hb'
      · exact f4
      · cases hb'
    · intro i h' st b hb'; rcases List.mem_cons.mp hb' with rfl | hb'
      · exact ⟨_, st⟩
      · cases hb'

/-- the heap changes at hidden places alone -/
theorem Holds.hidden {s s' : Shared} {wr : List Addr} (OK : C.Ok hb) (H : Holds C σ s) (k : ∀ b o, b ∉ wr → s.heap.get? b = some o → s'.heap.get? b = some o) (hg : s'.gens = s.gens) (hos : s'.os = s.os)
    (a1 : ∀ a ∈ wr, a ∉ σ.own.map (·.1) ++ C.fr) (a2 : ∀ a ∈ wr, σ.B a = none) (a3 : ∀ a ∈ wr, ∀ o, ¬ C.kp a o) (a4 : ∀ a ∈ wr, ¬ C.al a) : Holds C σ s' := by
  have nfr : ∀ b ∈ C.fr, b ∉ wr := fun b hb' hm => a1 b hm (List.mem_append_right _ hb')
  have cne : ∀ x c, C.env.cells.lookup x = some c → c ∉ wr := fun x c hc => (OK.cellsIn x c hc).elim (nfr c) fun ⟨o, ho⟩ hm => a3 c hm o ho
  exact {
    kp := fun b o h => k b o (fun hm => a3 b hm o h) (H.kp b o h)
    names := fun x v hv => by
      rcases H.names x v hv with ⟨hk, m, u, ⟨o, es, ep, h1, h2⟩, hm, hv'⟩ | ⟨hk, c, u, hc, ⟨ob, h1, h2⟩, hv'⟩
      · exact .inl ⟨hk, m, u, ⟨o, es, ep, k _ _ (nfr _ OK.locals) h1, h2⟩, hm, hv'⟩
      · exact .inr ⟨hk, c, u, hc, ⟨ob, k _ _ (cne x c hc) h1, h2⟩, hv'⟩
    ns := let ⟨m, o, es, ep, h1, h2⟩ := H.ns; ⟨m, o, es, ep, k _ _ (nfr _ OK.locals) h1, h2⟩
    cells := fun x c hc => let ⟨u, ob, h1, h2⟩ := H.cells x c hc; ⟨u, ob, k _ _ (cne x c hc) h1, h2⟩
    alive := fun a ha => let ⟨o, ho⟩ := H.alive a ha; ⟨o, k _ _ (nfr a ha) ho⟩
    B := fun a o ha => (H.B a o ha).at fun ob hob => k _ _ (fun hm => by rw [a2 a hm] at ha; cases ha) hob
    own := fun p hp => (H.own p hp).at fun ob hob => k _ _ (fun hm => a1 _ hm (List.mem_append_left _ (List.mem_map.mpr ⟨p, hp, rfl⟩))) hob
    nodup := H.nodup, apartB := H.apartB, apartK := H.apartK, gens := hg.trans H.gens, os := hos.trans H.os
    al := fun a ha => let ⟨o, ho⟩ := H.al a ha; ⟨o, k _ _ (fun hm => a4 a hm ha) ho⟩
    B0 := H.B0, Bnew := H.Bnew, ownNew := H.ownNew, noB := H.noB }

theorem Stm_For {x : Str} {px pos : Pos} {iter : Expr} {body orelse : List Stmt} {Q : MF → St → Prop} (F : Fx C hb prog w sc n md fl) (hs : ∀ v, foldedSetIterable iter C.env v = pure v)
    (h : Ex C iter σ (fun v σ₁ => ∃ (items : List MV) (J : Nat → St → Prop), Itr σ₁ v items ∧ J 0 σ₁ ∧
      (∀ C', Fx C' hb prog w sc n md fl → ∀ i σ' m, J i σ' → items[i]? = some m → Store C' x m σ' (fun σ₂ => Sts C' body σ₂ (fun f σ₃ => match f with | .next => J (i + 1) σ₃ | .ret v => Q (.ret v) σ₃))) ∧
      (∀ C', Fx C' hb prog w sc n md fl → ∀ σ', J items.length σ' → Sts C' orelse σ' Q))) : Stm C (.For (.Name x px) iter body orelse pos) σ Q := fun s H => by
  refine wpAny_For (hs := hs) (wpAny_mono (h s H) (fun vv s₁ hpat => ?_) fun _ _ x => x)
  obtain ⟨v, σ₁, hv, H₁, items, J, it, J0, turn, fin⟩ := hpat
  refine it.walk F.ok H₁ hv fun I fp wr P St s₂ W => ?_
  have wsub := W.walks.sub
  refine codeAny_forLoop (fun k s => ∃ i σ', k = items.length + 1 - i ∧ i ≤ items.length ∧ J i σ' ∧ Holds C σ' s ∧ St i s.heap ∧ (∀ a ∈ fp, a ∉ σ'.own.map (·.1) ++ C.fr) ∧ (∀ a ∈ fp, ∃ o, s.heap.get? a = some o) ∧ (∀ a ∈ wr, σ'.B a = none))
    (fun k s hpat => ?_) (items.length + 1) ⟨0, σ₁, rfl, Nat.zero_le _, J0, W.holds, W.st, W.apart, W.alive, W.noB⟩
  obtain ⟨i, σ', hk, hi, hJ, H', hst, hap, hal, hnb⟩ := hpat
  have apw : ∀ a ∈ wr, a ∉ σ'.own.map (·.1) ++ C.fr := fun a ha => hap a (wsub a ha)
  by_cases hlt : i < items.length
  · refine W.walks.item i s _ _ hlt hst fun u h' tk hP hst' hk' => ?_
    obtain ⟨m, hm, hr⟩ := W.item i u hP
    have H₂ : Holds C σ' { s with heap := h', toks := tk } := H'.hidden F.ok hk' rfl rfl apw hnb W.noK W.noAl
    have hal' : ∀ a ∈ fp, ∃ o, h'.get? a = some o := fun a ha => by
      by_cases hw : a ∈ wr
      · exact W.stays _ _ hst' a hw
      · obtain ⟨o, ho⟩ := hal a ha; exact ⟨o, hk' a o hw ho⟩
    have H₃ := H₂.hide (X := fp) (wr := wr) hap hnb
    have F' : Fx (C.hide h' fp wr) hb prog w sc n md fl := F.hide (fun a ha hf => hap a ha (List.mem_append_right _ hf)) fun a ha => ⟨wsub a ha, hal' a (wsub a ha)⟩
    refine wpAny_assign_Name (wpAny_mono (turn _ F' i σ' m hJ hm u hr _ H₃) (fun _ s₃ hpat => ?_) fun _ _ x => x.elim)
    obtain ⟨_, σ₃, _, H₃', h₃⟩ := hpat
    refine wpAny_mono (h₃ s₃ H₃') (fun f s₄ hpat => ?_) fun _ _ x => x.elim
    obtain ⟨mf, σ₄, hf, H₄, h₄⟩ := hpat
    cases mf with
    | next =>
      obtain rfl : f = .next := hf
      have kept : ∀ a ∈ fp, ∀ o, h'.get? a = some o → s₄.heap.get? a = some o := fun a ha o ho => H₄.kp a o (.inr ⟨ha, ho⟩)
      refine ⟨items.length + 1 - (i + 1), by rw [hk]; exact Nat.sub_lt_sub_left (Nat.lt_succ_of_lt hlt) (Nat.lt_succ_self i), i + 1, σ₄, rfl, hlt, h₄, H₄.unhide, W.walks.frame _ _ _ hst' kept, fun a ha hm' => ?_, fun a ha => ?_, fun a ha => H₄.noB a (.inr ha)⟩
      · obtain ⟨o, ho⟩ := hal' a ha; exact H₄.apartK a hm' o (.inr ⟨ha, ho⟩)
      · obtain ⟨o, ho⟩ := hal' a ha; exact ⟨o, kept a ha o ho⟩
    | ret v =>
      obtain ⟨vv, rfl, hv'⟩ := hf
      exact ⟨.ret v, σ₄, ⟨vv, rfl, hv'⟩, H₄.unhide, h₄⟩
  · have hin : i = items.length := Nat.le_antisymm hi (Nat.not_lt.mp hlt)
    subst hin
    refine W.walks.done s _ _ hst fun h' tk hk' => ?_
    have H₂ : Holds C σ' { s with heap := h', toks := tk } := H'.hidden F.ok hk' rfl rfl apw hnb W.noK W.noAl
    exact wpAny_mono (fin C F σ' hJ _ H₂) (fun f s₃ ⟨mf, σ₃, hf, H₃, h₃⟩ => ⟨mf, σ₃, hf, H₃, h₃⟩) fun _ _ x => x.elim
end
end Mine
set_option autoImplicit false
set_option linter.unusedVariables false
set_option linter.unusedSimpArgs false
namespace Mine
open PySem

def relab (cs sc : Scope) : Scope :=
  { cs with names := cs.names.map fun (n, k) => if (k == .free && sc.kind == .function && sc.names.lookup n == some .cell) then (n, .cell) else (n, k) }
theorem relabel_eq {cs : Scope} {env : Env} {sc : Scope} (h : env.scope = sc) : relabel cs env = relab cs sc := by subst h; rfl

def cloOf (cells : List (Str × Addr)) : List (Str × NameKind) → List (Str × Addr) → List (Str × Addr)
  | [], acc => acc
  | (n, k) :: r, acc => if k == .free then (match cells.lookup n with | some c => cloOf cells r ((n, c) :: acc) | none => cloOf cells r acc) else cloOf cells r acc

theorem closure_go (env : Env) : ∀ (names : List (Str × NameKind)) (acc : List (Str × Addr)), (∀ x, (x, NameKind.free) ∈ names → ∃ c, env.cells.lookup x = some c) →
    (forIn names acc fun (p : Str × NameKind) (cs : List (Str × Addr)) => (if (p.2 == NameKind.free) = true then do let a ← cellOf env p.1; pure (ForInStep.yield ((p.1, a) :: cs)) else pure (ForInStep.yield cs) : Sem _)) = pure (cloOf env.cells names acc)
  | [], acc, _ => by rw [List.forIn_nil]; rfl
  | (n, k) :: r, acc, h => by
    rw [List.forIn_cons]
    unfold cloOf
    by_cases hk : (k == NameKind.free) = true
    · have hk' : k = .free := by simpa using hk
      obtain ⟨c, hc⟩ := h n (by rw [hk']; exact .head _)
      simp only [hk, if_true, hc, cellOf, pure_bind]
      exact closure_go env r _ fun x hx => h x (.tail _ hx)
    · simp only [hk, if_false, pure_bind]
      exact closure_go env r _ fun x hx => h x (.tail _ hx)
theorem closureFor_clo {scope : Scope} {env : Env} (h : ∀ x, (x, NameKind.free) ∈ scope.names → ∃ c, env.cells.lookup x = some c) : closureFor scope env = pure (cloOf env.cells scope.names []) := by
  have := closure_go env scope.names [] h
  unfold closureFor
  exact (bind_pure _).trans this

theorem cloOf_lookup (cells : List (Str × Addr)) {x : Str} {c : Addr} : ∀ (names : List (Str × NameKind)) (acc : List (Str × Addr)), (cloOf cells names acc).lookup x = some c → acc.lookup x = some c ∨ (cells.lookup x = some c ∧ (x, NameKind.free) ∈ names)
  | [], acc, h => .inl h
  | (n, k) :: r, acc, h => by
    unfold cloOf at h
    by_cases hk : (k == NameKind.free) = true
    · have hk' : k = .free := by simpa using hk
      rw [if_pos hk] at h
      cases hc : cells.lookup n with
      | none =>
        rw [hc] at h
        rcases cloOf_lookup cells r acc h with h1 | ⟨h1, h2⟩
        · exact .inl h1
        · exact .inr ⟨h1, .tail _ h2⟩
      | some d =>
        rw [hc] at h
        rcases cloOf_lookup cells r _ h with h1 | ⟨h1, h2⟩
        · by_cases hx : (x == n) = true
          · rw [List.lookup_cons, hx] at h1
            have hx' : x = n := by simpa using hx
            subst hx'
            exact .inr ⟨hc.trans h1, by rw [hk']; exact .head _⟩
          · have hx' : (x == n) = false := by simpa using hx
            rw [List.lookup_cons, hx'] at h1
            exact .inl h1
        · exact .inr ⟨h1, .tail _ h2⟩
    · rw [if_neg hk] at h
      rcases cloOf_lookup cells r acc h with h1 | ⟨h1, h2⟩
      · exact .inl h1
      · exact .inr ⟨h1, .tail _ h2⟩
theorem cloOf_hit (cells : List (Str × Addr)) {x : Str} : ∀ (names : List (Str × NameKind)) (acc : List (Str × Addr)), ((x, NameKind.free) ∈ names ∧ (∃ c, cells.lookup x = some c)) ∨ (∃ c, acc.lookup x = some c) → ∃ c, (cloOf cells names acc).lookup x = some c
  | [], acc, h => h.elim (fun h => nomatch h.1) id
  | (n, k) :: r, acc, h => by
    unfold cloOf
    have keep : ∀ d, (∃ c, acc.lookup x = some c) → ∃ c, ((n, d) :: acc).lookup x = some c := fun d ⟨c, hc⟩ => by
      by_cases hx : (x == n) = true
      · exact ⟨d, by rw [List.lookup_cons, hx]⟩
      · have hx' : (x == n) = false := by simpa using hx
        exact ⟨c, by rw [List.lookup_cons, hx']; exact hc⟩
    split
    · rename_i hk
      have hk' : k = .free := by simpa using hk
      cases hc : cells.lookup n with
      | none =>
        refine cloOf_hit cells r acc (h.imp (fun ⟨h1, c, h2⟩ => ⟨?_, c, h2⟩) id)
        rcases List.mem_cons.mp h1 with e | e
        · cases e; rw [hc] at h2; cases h2
        · exact e
      | some d =>
        refine cloOf_hit cells r _ ?_
        rcases h with ⟨h1, c, h2⟩ | h
        · rcases List.mem_cons.mp h1 with e | e
          · cases e; exact .inr ⟨d, by simp [List.lookup]⟩
          · exact .inl ⟨e, c, h2⟩
        · exact .inr (keep d h)
    · rename_i hk
      refine cloOf_hit cells r acc (h.imp (fun ⟨h1, c, h2⟩ => ⟨?_, c, h2⟩) id)
      rcases List.mem_cons.mp h1 with e | e
      · cases e; exact absurd rfl hk
      · exact e
end Mine
set_option autoImplicit false
set_option linter.unusedVariables false
set_option linter.unusedSimpArgs false
namespace Mine
open PySem

structure CompOk (cs sc : Scope) (x : Str) : Prop where
  kind : cs.kind = .function
  nd : (cs.names.map (·.1)).Nodup
  noCell : ∀ y ∈ cs.names, y.2 ≠ .cell
  cap : ∀ y ∈ cs.names, y.2 = .free → sc.names.lookup y.1 = some .cell ∨ sc.names.lookup y.1 = some .free
  x : cs.names.lookup x = some .local

def capt (cs : Scope) : Loc → Loc
  | [] => []
  | (y, v) :: r => if cs.names.lookup y = some .free then (y, v) :: capt cs r else capt cs r
theorem look_capt {cs : Scope} {y : Str} {v : MV} : ∀ {l : Loc}, look (capt cs l) y = some v → look l y = some v ∧ cs.names.lookup y = some .free
  | [], h => by simp [capt, look] at h
  | (z, u) :: r, h => by
    unfold capt at h
    by_cases hz : cs.names.lookup z = some .free
    · rw [if_pos hz] at h
      unfold look at h ⊢
      by_cases hy : y = z
      · subst hy; rw [if_pos rfl] at h ⊢; exact ⟨h, hz⟩
      · rw [if_neg hy] at h ⊢; exact look_capt h
    · rw [if_neg hz] at h
      have ih := look_capt h
      unfold look
      by_cases hy : y = z
      · subst hy; exact absurd ih.2 hz
      · rw [if_neg hy]; exact ih

theorem lookup_mem {α : Type} : ∀ {l : List (Str × α)} {n : Str} {k : α}, l.lookup n = some k → (n, k) ∈ l
  | (m, v) :: r, n, k, h => by
    rw [List.lookup_cons] at h
    cases hb : n == m with
    | true => rw [hb] at h; cases h; rw [beq_iff_eq.mp hb]; exact .head _
    | false => rw [hb] at h; exact .tail _ (lookup_mem h)
theorem mem_lookup {α : Type} : ∀ {l : List (Str × α)} {n : Str} {k : α}, (l.map (·.1)).Nodup → (n, k) ∈ l → l.lookup n = some k
  | (m, v) :: r, n, k, nd, h => by
    have nd' := List.nodup_cons.mp nd
    rw [List.lookup_cons]
    rcases List.mem_cons.mp h with e | e
    · cases e; simp
    · have : (n == m) = false := by
        cases hb : n == m with
        | false => rfl
        | true => exact absurd (List.mem_map.mpr ⟨(n, k), e, beq_iff_eq.mp hb⟩) nd'.1
      rw [this]; exact mem_lookup nd'.2 e
theorem lookup_relab {cs sc : Scope} {y : Str} : (relab cs sc).names.lookup y = (cs.names.lookup y).map fun k => if (k == .free && sc.kind == .function && sc.names.lookup y == some .cell) then .cell else k := by
  unfold relab
  generalize cs.names = l
  induction l with
  | nil => rfl
  | cons p r ih =>
    obtain ⟨n, k⟩ := p
    rw [List.map_cons]
    dsimp only
    by_cases hy : (y == n) = true
    · have e : y = n := by simpa using hy
      subst e
      split
      · rename_i h; rw [List.lookup_cons, List.lookup_cons, hy]; simp only [Option.map_some]; rw [if_pos h]
      · rename_i h; rw [List.lookup_cons, List.lookup_cons, hy]; simp only [Option.map_some]; rw [if_neg h]
    · have hy' : (y == n) = false := by simpa using hy
      split
      · rw [List.lookup_cons, hy', List.lookup_cons, hy']; exact ih
      · rw [List.lookup_cons, hy', List.lookup_cons, hy']; exact ih

def Cx.comp (C : Cx) (cenv : Env) (h : Heap) (X Y : List Addr) : Cx := { C with env := cenv, fr := [cenv.locals], kp := fun b o => C.kp b o ∨ (b ∈ X ∧ h.get? b = some o), no := fun a => C.no a ∨ a ∈ Y }

section
variable {C : Cx} {hb : Heap} {σ : St} {prog : Program} {w : World} {sc cs : Scope} {n : Nat} {md : List Addr} {fl : Bool} {x : Str}

theorem Fx.clo (F : Fx C hb prog w sc n md fl) (K : CompOk cs sc x) : closureFor cs C.env = pure (cloOf C.env.cells cs.names []) :=
  closureFor_clo fun y hy => F.cell y (K.cap _ hy rfl)
theorem clo_outer {cells : List (Str × Addr)} {names : List (Str × NameKind)} {y : Str} {c : Addr} (h : (cloOf cells names []).lookup y = some c) : cells.lookup y = some c := by
  rcases cloOf_lookup cells names [] h with h | h
  · cases h
  · exact h.1

theorem Fx.comp (F : Fx C hb prog w sc n md fl) (K : CompOk cs sc x) {s : Shared} (H : Holds C σ s) {L : Addr} {X Y : List Addr} (hfr : ∀ a ∈ C.fr, a ∈ X) (hLX : L ∉ X) (hLk : ∀ o, ¬ C.kp L o) (hLc : L ∉ C.fr)
    (hY : ∀ a ∈ Y, a ∈ X ∧ ∃ o, s.heap.get? a = some o) : Fx (C.comp (compEnvC cs (cloOf C.env.cells cs.names []) L C.env) s.heap X Y) hb prog w (relab cs sc) n md false where
  ok := {
    handled := F.ok.handled
    depth := F.ok.depth
    units := F.ok.units
    kind := K.kind
    globals := F.ok.globals
    builtins := F.ok.builtins
    locals := .head _
    cellsIn := fun y c hc => by
      have h1 := clo_outer hc
      rcases F.ok.cellsIn y c h1 with h | ⟨o, h⟩
      · obtain ⟨o, ho⟩ := H.alive c h; exact .inr ⟨o, .inr ⟨hfr c h, ho⟩⟩
      · exact .inr ⟨o, .inl h⟩
    cellsNe := fun y c hc e => by
      have e : c = L := e
      subst e
      rcases F.ok.cellsIn y c (clo_outer hc) with h | ⟨o, h⟩
      · exact hLc h
      · exact hLk o h
    cellsInj := fun y z c h1 h2 => F.ok.cellsInj y z c (clo_outer h1) (clo_outer h2)
    apart := fun a ha o hk => by
      have e : a = L := by simpa [Cx.comp, compEnvC] using ha
      subst e
      rcases hk with hk | hk
      · exact hLk o hk
      · exact hLX hk.1
    base := fun b o h => .inl (F.ok.base b o h)
    modAl := F.ok.modAl
    noKp := fun a ha => ha.elim (fun h => let ⟨o, ho⟩ := F.ok.noKp a h; ⟨o, .inl ho⟩) fun h => let ⟨h1, o, ho⟩ := hY a h; ⟨o, .inr ⟨h1, ho⟩⟩ }
  eprog := F.eprog
  ew := F.ew
  esc := relabel_eq F.esc
  eroom := F.eroom
  emod := F.emod
  cell := fun y hy => by
    have hfree : (y, NameKind.free) ∈ cs.names := by
      rw [lookup_relab] at hy
      cases hk : cs.names.lookup y with
      | none => rw [hk] at hy; simp at hy
      | some k =>
        have hm := lookup_mem hk
        have : k = .free := by
          rw [hk] at hy
          simp only [Option.map_some, Option.some.injEq] at hy
          by_cases hkf : k = .free
          · exact hkf
          · rw [if_neg (by simp [hkf])] at hy
            rcases hy with e | e
            · exact absurd e (K.noCell _ hm)
            · exact e
        rw [← this]; exact hm
    exact cloOf_hit C.env.cells cs.names [] (.inl ⟨hfree, F.cell y (K.cap _ hfree rfl)⟩)
  full := fun h => by cases h

theorem Holds.toComp (F : Fx C hb prog w sc n md fl) (K : CompOk cs sc x) {s : Shared} {D : Addr} {o : MO} (H : Holds C { σ with own := (D, o) :: σ.own } s) {L : Addr} {fp wr : List Addr} {mm : Str → Option Value} {m : MV} {u : Value}
    (hns : s.heap.Ns L mm) (hmx : mm x = some u) (hr : VR m u) (hfp : ∀ a ∈ fp, a ∉ D :: σ.own.map (·.1) ++ C.fr) (hwr : ∀ a ∈ wr, σ.B a = none)
    (hLo : L ∉ D :: σ.own.map (·.1) ++ C.fr) (hLf : L ∉ fp) (hLB : σ.B L = none) (hLk : ∀ o, ¬ C.kp L o) :
    Holds (C.comp (compEnvC cs (cloOf C.env.cells cs.names []) L C.env) s.heap (D :: fp ++ C.fr) (D :: wr ++ C.fr)) ⟨put (capt cs σ.loc) x m, σ.B, σ.own⟩ s := by
  have nd : (D :: (σ.own.map (·.1) ++ C.fr)).Nodup := H.nodup
  have nd1 := List.nodup_cons.mp nd
  have nd2 := List.nodup_append.mp nd1.2
  have hx : (relab cs sc).names.lookup x = some .local := by rw [lookup_relab, K.x]; rfl
  have kx : (compEnvC cs (cloOf C.env.cells cs.names []) L C.env).kindOf x = some .local := by
    show (relabel cs C.env).names.lookup x = _
    rw [relabel_eq F.esc]; exact hx
  exact {
    kp := fun b o' h => h.elim (H.kp b o') fun h => h.2
    names := fun y v hy => by
      rw [look_put] at hy
      by_cases hxy : y = x
      · subst hxy; rw [if_pos rfl] at hy; cases hy
        exact .inl ⟨kx, mm, u, hns, hmx, hr⟩
      · rw [if_neg hxy] at hy
        obtain ⟨h1, h2⟩ := look_capt hy
        have hm := lookup_mem h2
        have hcap := K.cap _ hm rfl
        have outer : ∃ c u', C.env.cells.lookup y = some c ∧ s.heap.IsCell c (some u') ∧ VR v u' := by
          rcases H.names y v h1 with ⟨hk, _⟩ | ⟨hk, r⟩
          · exfalso
            have hk' : sc.names.lookup y = some .local := by rw [← F.esc]; exact hk
            rw [hk'] at hcap; simp at hcap
          · exact r
        obtain ⟨c, u', hc, hu, hv⟩ := outer
        obtain ⟨c', hc'⟩ := cloOf_hit C.env.cells cs.names [] (.inl ⟨hm, c, hc⟩)
        have : c' = c := by have := clo_outer hc'; rw [hc] at this; exact (Option.some.inj this).symm
        subst this
        refine .inr ⟨?_, c', u', hc', hu, hv⟩
        show (relabel cs C.env).names.lookup y = _ ∨ (relabel cs C.env).names.lookup y = _
        rw [relabel_eq F.esc, lookup_relab, h2]
        simp only [Option.map_some, Option.some.injEq]
        split
        · exact .inl rfl
        · exact .inr rfl
    ns := ⟨mm, hns⟩
    cells := fun y c hc => H.cells y c (clo_outer hc)
    alive := fun a ha => by
      have e : a = L := by simpa [Cx.comp, compEnvC] using ha
      subst e; obtain ⟨ob, es, ep, ho, _⟩ := hns; exact ⟨ob, ho⟩
    B := H.B
    own := fun p hp => H.own p (.tail _ hp)
    nodup := List.nodup_append.mpr ⟨nd2.1, List.nodup_cons.mpr ⟨(by simp), List.nodup_nil⟩, fun a ha b hb' e => by
      have e' : b = L := by simpa [Cx.comp, compEnvC] using hb'
      subst e e'
      exact hLo (.tail _ (List.mem_append_left _ ha))⟩
    apartB := fun a ha => by
      rcases List.mem_append.mp ha with h | h
      · exact H.apartB a (.tail _ (List.mem_append_left _ h))
      · have e' : a = L := by simpa [Cx.comp, compEnvC] using h
        subst e'; exact hLB
    apartK := fun a ha o' hk => by
      rcases List.mem_append.mp ha with h | h
      · rcases hk with hk | ⟨hk, _⟩
        · exact H.apartK a (.tail _ (List.mem_append_left _ h)) o' hk
        · rcases List.mem_append.mp hk with hk | hk
          · rcases List.mem_cons.mp hk with rfl | hk
            · exact nd1.1 (List.mem_append_left _ h)
            · exact hfp a hk (.tail _ (List.mem_append_left _ h))
          · exact nd2.2.2 a h a hk rfl
      · have e' : a = L := by simpa [Cx.comp, compEnvC] using h
        subst e'
        rcases hk with hk | ⟨hk, _⟩
        · exact hLk o' hk
        · rcases List.mem_append.mp hk with hk | hk
          · rcases List.mem_cons.mp hk with rfl | hk
            · exact hLo (.head _)
            · exact hLf hk
          · exact hLo (.tail _ (List.mem_append_right _ hk))
    gens := H.gens
    os := H.os
    al := H.al
    B0 := H.B0
    Bnew := H.Bnew
    ownNew := fun p hp => H.ownNew p (.tail _ hp)
    noB := fun a ha => by
      rcases ha with ha | ha
      · exact H.noB a ha
      · rcases List.mem_append.mp ha with ha | ha
        · rcases List.mem_cons.mp ha with rfl | ha
          · exact H.apartB _ (.head _)
          · exact hwr a ha
        · exact H.apartB a (.tail _ (List.mem_append_right _ ha)) }

theorem Holds.fromComp {s s' : Shared} {D : Addr} {o : MO} (OK : C.Ok hb) (H : Holds C { σ with own := (D, o) :: σ.own } s) {L : Addr} {cenv : Env} {fp wr : List Addr} {σ' : St}
    (H' : Holds (C.comp cenv s.heap (D :: fp ++ C.fr) (D :: wr ++ C.fr)) σ' s') : Holds C ⟨σ.loc, σ'.B, (D, o) :: σ'.own⟩ s' := by
  have nd : (D :: (σ.own.map (·.1) ++ C.fr)).Nodup := H.nodup
  have nd1 := List.nodup_cons.mp nd
  have DX : D ∈ D :: fp ++ C.fr := .head _
  have fX : ∀ a ∈ C.fr, a ∈ D :: fp ++ C.fr := fun a ha => List.mem_append_right _ ha
  have kX : ∀ a ob, a ∈ D :: fp ++ C.fr → s.heap.get? a = some ob → s'.heap.get? a = some ob := fun a ob ha ho => H'.kp a ob (.inr ⟨ha, ho⟩)
  have hD := H.own (D, o) (.head _)
  obtain ⟨oD, hoD⟩ := hD.alive
  have oK : ∀ a ∈ σ'.own.map (·.1), ∀ ob, ¬ (C.kp a ob ∨ (a ∈ D :: fp ++ C.fr ∧ s.heap.get? a = some ob)) := fun a ha ob => H'.apartK a (List.mem_append_left _ ha) ob
  have cellsK : ∀ y c, C.env.cells.lookup y = some c → ∀ ob, s.heap.get? c = some ob → s'.heap.get? c = some ob := fun y c hc ob ho => by
    rcases OK.cellsIn y c hc with h | ⟨ob', h⟩
    · exact kX c ob (fX c h) ho
    · have e1 := H.kp c ob' h
      rw [ho] at e1; cases e1
      exact H'.kp c ob (.inl h)
  exact {
    kp := fun b ob h => H'.kp b ob (.inl h)
    names := fun y v hv => by
      rcases H.names y v hv with ⟨hk, m, u, ⟨ob, es, ep, h1, h2⟩, hm, hv'⟩ | ⟨hk, c, u, hc, ⟨ob, h1, h2⟩, hv'⟩
      · exact .inl ⟨hk, m, u, ⟨ob, es, ep, kX _ _ (fX _ OK.locals) h1, h2⟩, hm, hv'⟩
      · exact .inr ⟨hk, c, u, hc, ⟨ob, cellsK y c hc ob h1, h2⟩, hv'⟩
    ns := let ⟨m, ob, es, ep, h1, h2⟩ := H.ns; ⟨m, ob, es, ep, kX _ _ (fX _ OK.locals) h1, h2⟩
    cells := fun y c hc => let ⟨u, ob, h1, h2⟩ := H.cells y c hc; ⟨u, ob, cellsK y c hc ob h1, h2⟩
    alive := fun a ha => let ⟨ob, ho⟩ := H.alive a ha; ⟨ob, kX a ob (fX a ha) ho⟩
    B := H'.B
    own := fun p hp => by
      rcases List.mem_cons.mp hp with rfl | hp
      · exact hD.at fun ob ho => kX D ob DX ho
      · exact H'.own p hp
    nodup := by
      show (D :: (σ'.own.map (·.1) ++ C.fr)).Nodup
      refine List.nodup_cons.mpr ⟨fun hm => ?_, List.nodup_append.mpr ⟨(List.nodup_append.mp H'.nodup).1, (List.nodup_append.mp nd1.2).2.1, fun a ha b hb' e => ?_⟩⟩
      · rcases List.mem_append.mp hm with hm | hm
        · exact oK D hm oD (.inr ⟨DX, hoD⟩)
        · exact nd1.1 (List.mem_append_right _ hm)
      · subst e
        obtain ⟨ob, ho⟩ := H.alive a hb'
        exact oK a ha ob (.inr ⟨fX a hb', ho⟩)
    apartB := fun a ha => by
      have ha' : a ∈ D :: (σ'.own.map (·.1) ++ C.fr) := ha
      rcases List.mem_cons.mp ha' with rfl | ha'
      · exact H'.noB _ (.inr (.head _))
      · rcases List.mem_append.mp ha' with h | h
        · exact H'.apartB a (List.mem_append_left _ h)
        · exact H'.noB a (.inr (List.mem_append_right _ h))
    apartK := fun a ha ob hk => by
      have ha' : a ∈ D :: (σ'.own.map (·.1) ++ C.fr) := ha
      rcases List.mem_cons.mp ha' with rfl | ha'
      · exact H.apartK _ (.head _) ob hk
      · rcases List.mem_append.mp ha' with h | h
        · exact oK a h ob (.inl hk)
        · exact OK.apart a h ob hk
    gens := H'.gens
    os := H'.os
    al := H'.al
    B0 := H'.B0
    Bnew := H'.Bnew
    ownNew := fun p hp => by
      rcases List.mem_cons.mp hp with rfl | hp
      · exact H.ownNew (D, o) (.head _)
      · exact H'.ownNew p hp
    noB := fun a ha => H'.noB a (.inl ha) }
end
end Mine
set_option autoImplicit false
set_option linter.unusedVariables false
set_option linter.unusedSimpArgs false
namespace Mine
open PySem

section
variable {C : Cx} {hb : Heap} {σ : St} {prog : Program} {w : World} {sc cs : Scope} {n : Nat} {md : List Addr} {fl : Bool} {x : Str}

/-- the tests of a comprehension's clause -/
def CTs (C : Cx) : List Expr → St → (Bool → St → Prop) → Prop
  | [], σ, Q => Q true σ
  | c :: r, σ, Q => Ts C c σ (fun b σ' => if b then CTs C r σ' Q else Q false σ')

theorem CTs_false {M : Model} {A : Around} {E : Value → Shared → Prop} {env : Env} {s : Shared} {Q : Bool → Shared → Prop} : ∀ (ifs : List Expr), Q false s →
    wpAny M A (forIn ifs false fun c r => if r = true then do let ok ← isTrue c env (eval c env); pure (ForInStep.yield ok) else pure (ForInStep.yield r)) Q E s
  | [], h => by rw [List.forIn_nil]; exact wpAny_pure h
  | c :: r, h => by
    rw [List.forIn_cons]
    simp only [Bool.false_eq_true, if_false, pure_bind]
    exact CTs_false r h
theorem CTs_run : ∀ (ifs : List Expr) {σ : St} {Q : Bool → St → Prop}, CTs C ifs σ Q →
    Tr C (forIn ifs true fun c r => if r = true then do let ok ← isTrue c C.env (eval c C.env); pure (ForInStep.yield ok) else pure (ForInStep.yield r)) (fun b a => b = a) σ Q
  | [], σ, Q, h => by rw [List.forIn_nil]; exact Tr.pure (b := true) rfl h
  | c :: r, σ, Q, h => fun s H => by
    rw [List.forIn_cons]
    simp only [if_true, bind_assoc, pure_bind]
    refine wpAny_bind (wpAny_mono (h s H) (fun b s' hpat => ?_) fun _ _ x => x)
    obtain ⟨b', σ', e, H', h'⟩ := hpat
    subst e
    cases b' with
    | true => exact CTs_run r h' s' H'
    | false => exact CTs_false r ⟨false, σ', rfl, H', h'⟩

theorem wpAny_list_append_OR {prog : Program} {w : World} {A : Around} {E : Value → Shared → Prop} {s : Shared} {l : Addr} {xs : List MV} {m : MV} {v : Value} {Q : Value → Shared → Prop} (hl : OR s.heap l (.list xs)) (hv : VR m v) (hlim : xs.length + 1 ≤ lim)
    (hQ : ∀ h', OR h' l (.list (xs ++ [m])) → (∀ b o, b ≠ l → s.heap.get? b = some o → h'.get? b = some o) → Q .none { s with heap := h' }) : wpAny (model prog w) A (call (.builtin "list.append") [.ref l, v]) Q E s := by
  obtain ⟨vs, nn, ho, hr, hle⟩ := hl
  refine wpAny_list_append_plain (items := vs) ⟨nn, ho⟩ (fun h' hl' hs' => hQ h' ?_ hs'.extBut) (hsz := ?_)
  · obtain ⟨n', ho'⟩ := hl'
    exact ⟨_, n', ho', by simpa using hr.snoc hv, by simpa using hlim⟩
  · have := hr.length; have := lim_le; simp at *; omega

theorem ne_of_lt_size {h : Heap} {b L : Addr} {o : Obj} (e : h.get? b = some o) (hL : h.objs.size = L) : b ≠ L := fun e' => by subst e'; subst hL; exact absurd (Heap.lt_size e) (Nat.lt_irrefl _)
theorem sing {P : Addr → Prop} {L : Addr} (h : P L) : ∀ a ∈ [L], P a := fun a ha => by rw [List.mem_singleton.mp ha]; exact h

theorem comp_core {elt iter : Expr} {px pos : Pos} {ifs : List Expr} (F : Fx C hb prog w sc n md fl) (K : CompOk cs sc x) {s : Shared} (H : Holds C σ s) {v : MV} {items : List MV} (it : Itr σ v items) {vv : Value} (hv : VR v vv) (hlen : items.length ≤ lim)
    (J : Nat → List MV → St → Prop) (J0 : J 0 [] σ)
    (turn : ∀ C', Fx C' hb prog w (relab cs sc) n md false → ∀ i ys σ' m, J i ys σ' → items[i]? = some m →
      CTs C' ifs { σ' with loc := put (capt cs σ'.loc) x m } (fun ok σ₁ => if ok then Ex C' elt σ₁ (fun y σ₂ => J (i + 1) (ys ++ [y]) { σ₂ with loc := σ'.loc }) else J (i + 1) ys { σ₁ with loc := σ'.loc }))
    {RR : Value → Addr → Result → Shared → Prop} {E : Value → Shared → Prop}
    (fin : ∀ D L ys σ' s', J items.length ys σ' → Holds C { σ' with own := (D, .list ys) :: σ'.own } s' → Fsh C.mod σ' D → (∃ m, s'.heap.Ns L m) → L ∉ D :: σ'.own.map (·.1) ++ C.fr → σ'.B L = none → (∀ o, ¬ C.kp L o) → ¬ C.al L → RR (.ref D) L (.ok .next) s') :
    wpAny (model C.prog C.w) C.A (pyIter vv) (fun itv s₂ => wpAny (model C.prog C.w) C.A (newList []) (fun acc s₃ =>
      wpAny (model C.prog C.w) C.A (newFunctionEnv cs C.env.globals (cloOf C.env.cells cs.names []) [] C.env.qual none .none (some C.env)) (fun cenv s₄ =>
        codeAny (model C.prog C.w) C.A (.compStart (.ListComp elt [⟨.Name x px, iter, ifs, 0⟩] cs pos) 0 itv acc { cenv with scope := relabel cs C.env }) (RR acc cenv.locals) s₄) E s₃) E s₂) E s := by
  refine it.walk F.ok H hv fun I fp wr P St s₂ W => ?_
  have wsub := W.walks.sub
  refine wpAny_newObj_type (wpAny_newFunctionEnv K.noCell (by intro y hy; simp at hy) (fun h₁ hns₁ hsb₁ => ?_) K.kind)
  -- the list D, the namespace L
  have HD := W.holds.new (o := { cls := .type "list", data := .seq ([] : List Value).toArray }) (mo := .list []) ⟨_, _, Heap.get?_push_size _ rfl, .nil, Nat.zero_le _⟩
  have hDm : s₂.heap.objs.size ∉ C.mod := W.holds.freshMod F.ok
  generalize hD : s₂.heap.objs.size = D at HD hDm hns₁ hsb₁ ⊢
  generalize hH2 : s₂.heap.push { cls := .type "list", data := .seq ([] : List Value).toArray } = H2 at HD hns₁ hsb₁ ⊢
  obtain ⟨g1, g2, g3, g4⟩ := fresh_facts HD
  dsimp only at g1 g2 g3 g4 hns₁ hsb₁
  generalize hL : H2.objs.size = L at g1 g2 g3 g4 hns₁ hsb₁ ⊢
  have keep1 : ∀ b o, H2.get? b = some o → h₁.get? b = some o := fun b o e => hsb₁.extBut b o (ne_of_lt_size e hL) (Heap.get?_push_of_some _ e)
  have keep2 : ∀ b o, s₂.heap.get? b = some o → H2.get? b = some o := fun b o e => hH2 ▸ Heap.get?_push_of_some _ e
  have Hs : Holds C { σ with own := (D, .list []) :: σ.own } { s₂ with heap := h₁, toks := s₂.toks + 0 } := HD.ext keep1 rfl rfl
  have hfpD : ∀ a ∈ fp, a ≠ D ∧ a ≠ L := fun a ha => by
    obtain ⟨o, ho⟩ := W.alive a ha
    exact ⟨ne_of_lt_size ho hD, ne_of_lt_size (keep2 a o ho) hL⟩
  have loop : ∀ s₅ : Shared, s₅ = { s₂ with heap := h₁, toks := s₂.toks + 0 } →
      codeAny (model C.prog C.w) C.A (.compLoop (.ListComp elt [⟨.Name x px, iter, ifs, 0⟩] cs pos) 0 (.ref I) (.ref D) (compEnvC cs (cloOf C.env.cells cs.names []) L C.env)) (RR (.ref D) L) s₅ := by
    rintro s₅ rfl
    refine codeAny_compLoop_tests (fun k s => ∃ i ys σ', k = items.length + 1 - i ∧ i ≤ items.length ∧ J i ys σ' ∧ ys.length ≤ i ∧ Holds C { σ' with own := (D, .list ys) :: σ'.own } s ∧ St i s.heap ∧ (∃ m, s.heap.Ns L m) ∧
        (∀ a ∈ fp, a ∉ D :: σ'.own.map (·.1) ++ C.fr) ∧ (∀ a ∈ fp, ∃ o, s.heap.get? a = some o) ∧ (∀ a ∈ wr, σ'.B a = none) ∧ L ∉ D :: σ'.own.map (·.1) ++ C.fr ∧ σ'.B L = none) ?_ (items.length + 1)
      ⟨0, [], σ, rfl, Nat.zero_le _, J0, Nat.zero_le _, Hs, W.walks.frame _ _ _ W.st fun b _ o e => keep1 b o (keep2 b o e), ⟨_, hns₁⟩, fun a ha hm => ?_, fun a ha => let ⟨o, ho⟩ := W.alive a ha; ⟨o, keep1 _ _ (keep2 _ _ ho)⟩, W.noB, g1, g2⟩
    · rintro k s' ⟨i, ys, σ', hk, hi, hJ, hyl, H', hst, ⟨mL, hnsL⟩, hap, hal, hnb, hLo, hLB⟩
      have hap' : ∀ a ∈ wr, a ∉ (({ σ' with own := (D, .list ys) :: σ'.own } : Mine.St).own.map (·.1)) ++ C.fr := fun a ha => hap a (wsub a ha)
      by_cases hlt : i < items.length
      · refine W.walks.item i s' _ _ hlt hst fun u h' tk hP hst' hk' => ?_
        obtain ⟨m, hm, hr⟩ := W.item i u hP
        have H₂ : Holds C { σ' with own := (D, .list ys) :: σ'.own } { s' with heap := h', toks := tk } := H'.hidden F.ok hk' rfl rfl hap' hnb W.noK W.noAl
        have hLf : L ∉ fp := fun hm => (hfpD L hm).2 rfl
        have hns' : h'.Ns L mL := hnsL.at' fun o e => hk' _ o (fun hm => hLf (wsub _ hm)) e
        have hkx : (compEnvC cs (cloOf C.env.cells cs.names []) L C.env).kindOf x = some .local := by
          show (relabel cs C.env).names.lookup x = _
          rw [relabel_eq F.esc, lookup_relab, K.x]; rfl
        refine wpAny_assign_Name (wpAny_storeName_local hkx hns' (fun h₂ hn₂ hs₂ => ?_) (by simp [compEnvC, relabel, K.kind]))
        have hn₂ : h₂.Ns L (fun y => if y = x then some u else mL y) := hn₂
        have hs₂ : Heap.SameBut L h' h₂ := hs₂
        have H₃ : Holds C { σ' with own := (D, .list ys) :: σ'.own } { s' with heap := h₂, toks := tk + 1 } :=
          H₂.hidden (wr := [L]) F.ok (fun b o hb' e => hs₂.extBut b o (fun e' => hb' (by simp [e'])) e) rfl rfl (sing hLo) (sing hLB) (sing (P := fun a => ∀ o, ¬ C.kp a o) g3) (sing (P := fun a => ¬ C.al a) g4)
        have hal₂ : ∀ a ∈ fp, ∃ o, h₂.get? a = some o := fun a ha => by
          have : ∃ o, h'.get? a = some o := by
            by_cases hw : a ∈ wr
            · exact W.stays _ _ hst' a hw
            · obtain ⟨o, ho⟩ := hal a ha; exact ⟨o, hk' a o hw ho⟩
          obtain ⟨o, ho⟩ := this
          exact ⟨o, hs₂.extBut a o (hfpD a ha).2 ho⟩
        have hst₂ : St (i + 1) h₂ := W.walks.frame _ _ _ hst' fun b hb' o e => hs₂.extBut b o (hfpD b hb').2 e
        have HC := Holds.toComp F K H₃ (m := m) hn₂ (by simp) hr hap hnb hLo hLf hLB g3
        have hYX : ∀ a ∈ D :: wr ++ C.fr, a ∈ D :: fp ++ C.fr ∧ ∃ o, h₂.get? a = some o := fun a ha => by
          rcases List.mem_append.mp ha with ha | ha
          · rcases List.mem_cons.mp ha with rfl | ha
            · exact ⟨.head _, (H₃.own (_, .list ys) (.head _)).alive⟩
            · exact ⟨List.mem_append_left _ (.tail _ (wsub a ha)), hal₂ a (wsub a ha)⟩
          · exact ⟨List.mem_append_right _ ha, H₃.alive a ha⟩
        have hLX : L ∉ D :: fp ++ C.fr := fun hm => by
          rcases List.mem_append.mp hm with hm | hm
          · rcases List.mem_cons.mp hm with e | hm
            · exact hLo (e ▸ .head _)
            · exact hLf hm
          · exact hLo (.tail _ (List.mem_append_right _ hm))
        have FC := F.comp K H₃ (L := L) (X := D :: fp ++ C.fr) (Y := D :: wr ++ C.fr) (fun a ha => List.mem_append_right _ ha) hLX g3 (fun hm => hLo (.tail _ (List.mem_append_right _ hm))) hYX
        -- what is kept of the loop behind a tree of the clause
        have back : ∀ (σ₃ : Mine.St) (s₃ : Shared), Holds (C.comp (compEnvC cs (cloOf C.env.cells cs.names []) L C.env) h₂ (D :: fp ++ C.fr) (D :: wr ++ C.fr)) σ₃ s₃ →
            Holds C ⟨σ'.loc, σ₃.B, (D, .list ys) :: σ₃.own⟩ s₃ ∧ St (i + 1) s₃.heap ∧ (∃ m, s₃.heap.Ns L m) ∧ (∀ a ∈ fp, a ∉ D :: σ₃.own.map (·.1) ++ C.fr) ∧ (∀ a ∈ fp, ∃ o, s₃.heap.get? a = some o) ∧ (∀ a ∈ wr, σ₃.B a = none) ∧
              L ∉ D :: σ₃.own.map (·.1) ++ C.fr ∧ σ₃.B L = none := fun σ₃ s₃ H₄ => by
          have H₅ := Holds.fromComp F.ok H₃ (L := L) H₄
          have kept : ∀ a ∈ fp, ∀ o, h₂.get? a = some o → s₃.heap.get? a = some o := fun a ha o ho => H₄.kp a o (.inr ⟨List.mem_append_left _ (.tail _ ha), ho⟩)
          refine ⟨H₅, W.walks.frame _ _ _ hst₂ kept, H₄.ns, fun a ha hm => ?_, fun a ha => ?_, fun a ha => H₄.noB a (.inr (List.mem_append_left _ (.tail _ ha))), fun hm => ?_, H₄.apartB L (List.mem_append_right _ (.head _))⟩
          · obtain ⟨o, ho⟩ := hal₂ a ha
            rcases List.mem_append.mp hm with hm | hm
            · rcases List.mem_cons.mp hm with e | hm
              · exact (hfpD a ha).1 e
              · exact H₄.apartK a (List.mem_append_left _ hm) o (.inr ⟨List.mem_append_left _ (.tail _ ha), ho⟩)
            · exact hap a ha (List.mem_append_right _ hm)
          · obtain ⟨o, ho⟩ := hal₂ a ha; exact ⟨o, kept a ha o ho⟩
          · rcases List.mem_append.mp hm with hm | hm
            · rcases List.mem_cons.mp hm with e | hm
              · exact hLo (e ▸ .head _)
              · exact (List.nodup_append.mp H₄.nodup).2.2 L hm L (.head _) rfl
            · exact hLo (.tail _ (List.mem_append_right _ hm))
        refine wpAny_mono (CTs_run ifs (turn _ FC i ys σ' m hJ hm) _ HC) (fun ok s₃ hpat => ?_) fun _ _ x => x.elim
        obtain ⟨ok', σ₃, e, H₄, h₄⟩ := hpat
        subst e
        cases ok' with
        | false =>
          simp only [Bool.false_eq_true, if_false] at h₄ ⊢
          obtain ⟨b1, b2, b3, b4, b5, b6, b7, b8⟩ := back σ₃ s₃ H₄
          exact ⟨items.length + 1 - (i + 1), by rw [hk]; exact Nat.sub_lt_sub_left (Nat.lt_succ_of_lt hlt) (Nat.lt_succ_self i), i + 1, ys, { σ₃ with loc := σ'.loc }, rfl, hlt, h₄, Nat.le_succ_of_le hyl, b1, b2, b3, b4, b5, b6, b7, b8⟩
        | true =>
          simp only [if_true] at h₄ ⊢
          refine wpAny_mono (h₄ s₃ H₄) (fun yv s₄ hpat => ?_) fun _ _ x => x.elim
          obtain ⟨y, σ₄, hy, H₅, h₅⟩ := hpat
          obtain ⟨b1, b2, b3, b4, b5, b6, b7, b8⟩ := back σ₄ s₄ H₅
          refine wpAny_list_append_OR (b1.own (D, .list ys) (.head _)) hy (Nat.le_trans (Nat.succ_le_succ hyl) (Nat.le_trans hlt hlen)) fun h₆ ho₆ hk₆ => ?_
          have H₆ : Holds C ⟨σ'.loc, σ₄.B, (D, .list (ys ++ [y])) :: σ₄.own⟩ { s₄ with heap := h₆ } := b1.upd (s' := { s₄ with heap := h₆ }) F.ok .head hk₆ ho₆ rfl rfl
          have hfD : ∀ a ∈ fp, a ≠ D := fun a ha => (hfpD a ha).1
          have hLD : L ≠ D := fun e => b7 (e ▸ .head _)
          refine ⟨items.length + 1 - (i + 1), by rw [hk]; exact Nat.sub_lt_sub_left (Nat.lt_succ_of_lt hlt) (Nat.lt_succ_self i), i + 1, ys ++ [y], { σ₄ with loc := σ'.loc }, rfl, hlt, h₅, by rw [List.length_append]; exact Nat.succ_le_succ hyl, H₆, W.walks.frame _ _ _ b2 fun a ha o ho => hk₆ a o (hfD a ha) ho, ?_, b4, fun a ha => ?_, b6, b7, b8⟩
          · obtain ⟨m', o, es, ep, h1, h2⟩ := b3; exact ⟨m', o, es, ep, hk₆ _ _ hLD h1, h2⟩
          · obtain ⟨o, ho⟩ := b5 a ha; exact ⟨o, hk₆ a o (hfD a ha) ho⟩
      · have hin : i = items.length := Nat.le_antisymm hi (Nat.not_lt.mp hlt)
        subst hin
        refine W.walks.done s' _ _ hst fun h' tk hk' => ?_
        have H₂ : Holds C { σ' with own := (D, .list ys) :: σ'.own } { s' with heap := h', toks := tk } := H'.hidden F.ok hk' rfl rfl hap' hnb W.noK W.noAl
        exact fin D L ys σ' _ hJ H₂ ⟨hDm, H₂.apartB D (.head _), fun hm => (List.nodup_cons.mp H₂.nodup).1 (List.mem_append_left _ hm)⟩ ⟨mL, hnsL.at' fun o e => hk' _ o (fun hm => (hfpD L (wsub _ hm)).2 rfl) e⟩ hLo hLB g3 g4
    · rcases List.mem_append.mp hm with hm | hm
      · rcases List.mem_cons.mp hm with e | hm
        · exact (hfpD a ha).1 e
        · exact W.apart a ha (List.mem_append_left _ hm)
      · exact W.apart a ha (List.mem_append_right _ hm)
  exact codeAny_compStart_list (loop _ rfl) (W.walks.self 0 _ _ _ (W.walks.frame _ _ _ W.st fun b _ o e => keep1 b o (keep2 b o e)) (loop _ rfl))
end
end Mine
set_option autoImplicit false
set_option linter.unusedVariables false
set_option linter.unusedSimpArgs false
namespace Mine
open PySem

section
variable {C : Cx} {hb : Heap} {σ : St} {prog : Program} {w : World} {sc cs : Scope} {n : Nat} {md : List Addr} {fl : Bool} {x : Str}

def CompTurns (hb : Heap) (prog : Program) (w : World) (sc cs : Scope) (n : Nat) (md : List Addr) (x : Str) (ifs : List Expr) (elt : Expr) (items : List MV) (J : Nat → List MV → St → Prop) : Prop :=
  ∀ C', Fx C' hb prog w (relab cs sc) n md false → ∀ i ys σ' m, J i ys σ' → items[i]? = some m →
      CTs C' ifs { σ' with loc := put (capt cs σ'.loc) x m } (fun ok σ₁ => if ok then Ex C' elt σ₁ (fun y σ₂ => J (i + 1) (ys ++ [y]) { σ₂ with loc := σ'.loc }) else J (i + 1) ys { σ₁ with loc := σ'.loc })

theorem Ex_ListComp {elt iter : Expr} {px pos : Pos} {ifs : List Expr} {Q : MV → St → Prop} (F : Fx C hb prog w sc n md fl) (K : CompOk cs sc x) (hs : ∀ v, foldedSetIterable iter C.env v = pure v)
    (h : Ex C iter σ (fun v σ₁ => ∃ (items : List MV) (J : Nat → List MV → St → Prop), Itr σ₁ v items ∧ items.length ≤ lim ∧ J 0 [] σ₁ ∧ CompTurns hb prog w sc cs n md x ifs elt items J ∧
      ∀ ys σ', J items.length ys σ' → ∀ a, Fsh md σ' a → Q (.ref a) { σ' with own := (a, .list ys) :: σ'.own })) : Ex C (.ListComp elt [⟨.Name x px, iter, ifs, 0⟩] cs pos) σ Q := fun s H => by
  rw [eval_ListComp]
  show wpAny _ _ (comprehension _ cs C.env _ (newList []) false (eval iter C.env) none) _ _ s
  refine wpAny_comprehension_free rfl hs (F.clo K) K.kind (fun y hy hk => by obtain ⟨y1, y2⟩ := y; dsimp only at hk; subst hk; exact mem_lookup K.nd hy) (wpAny_mono (h s H) (fun vv s₁ hpat => ?_) fun _ _ x => x)
  obtain ⟨v, σ₁, hv, H₁, items, J, it, hlen, J0, turn, fin⟩ := hpat
  refine comp_core F K H₁ it hv hlen J J0 turn fun D L ys σ' s' hJ H' hD hns hLo hLB hLk hLal => ?_
  obtain ⟨m, hns⟩ := hns
  refine ⟨m, hns, fun h' hs' => ⟨.ref D, _, rfl, ?_, fin ys σ' hJ D (F.emod ▸ hD)⟩⟩
  exact H'.hidden (wr := [L]) F.ok (fun b o hb' e => hs'.extBut b o (fun e' => hb' (by simp [e'])) e) rfl rfl (sing hLo) (sing hLB) (sing (P := fun a => ∀ o, ¬ C.kp a o) hLk) (sing (P := fun a => ¬ C.al a) hLal)

theorem Stm_AssignComp {elt iter : Expr} {y : Str} {py px pos spos : Pos} {ifs : List Expr} {Q : MF → St → Prop} (F : Fx C hb prog w sc n md fl) (K : CompOk cs sc x) (hs : ∀ v, foldedSetIterable iter C.env v = pure v)
    (hsw : swapsWith (.ListComp elt [⟨.Name x px, iter, ifs, 0⟩] cs pos) (some (.Name y py)) spos.line C.env = pure true)
    (h : Ex C iter σ (fun v σ₁ => ∃ (items : List MV) (J : Nat → List MV → St → Prop), Itr σ₁ v items ∧ items.length ≤ lim ∧ J 0 [] σ₁ ∧ CompTurns hb prog w sc cs n md x ifs elt items J ∧
      ∀ C', Fx C' hb prog w sc n md fl → ∀ ys σ', J items.length ys σ' → ∀ a, Fsh md σ' a → Store C' y (.ref a) { σ' with own := (a, .list ys) :: σ'.own } (fun σ'' => Q .next σ''))) : Stm C (.Assign [.Name y py] (.ListComp elt [⟨.Name x px, iter, ifs, 0⟩] cs pos) spos) σ Q := fun s H => by
  show wpAny _ _ (exec _ C.env) _ _ s
  rw [exec_Assign_Name_used _ _ _ _ hsw]
  refine wpAny_bind (wpAny_standAt (wpAny_bind ?_))
  show wpAny _ _ (do let _ ← comprehension (.ListComp elt [⟨.Name x px, iter, ifs, 0⟩] cs pos) cs C.env _ (newList []) false (eval iter C.env) (some (assign (.Name y py) C.env))) _ _ s
  refine wpAny_bind (wpAny_mono (wpAny_comprehension_free (Q := fun _ s' => ∃ b σ', FR b .next ∧ Holds C σ' s' ∧ Q b σ') rfl hs (F.clo K) K.kind (fun y hy hk => by obtain ⟨y1, y2⟩ := y; dsimp only at hk; subst hk; exact mem_lookup K.nd hy) (wpAny_mono (h s H) (fun vv s₁ hpat => ?_) fun _ _ x => x))
    (fun _ s' hq => wpAny_pure (wpAny_pure hq)) fun _ _ e => e)
  obtain ⟨v, σ₁, hv, H₁, items, J, it, hlen, J0, turn, fin⟩ := hpat
  refine comp_core F K H₁ it hv hlen J J0 turn fun D L ys σ' s' hJ H' hD hns hLo hLB hLk hLal => ?_
  obtain ⟨m, hns⟩ := hns
  have hLfr : ∀ a ∈ [L], a ∉ C.fr := sing (P := fun a => a ∉ C.fr) fun hm => hLo (.tail _ (List.mem_append_right _ hm))
  have hLalive : ∃ o, s'.heap.get? L = some o := let ⟨o, _, _, ho, _⟩ := hns; ⟨o, ho⟩
  have H₂ := H'.hide (X := [L]) (wr := [L]) (sing (P := fun a => a ∉ _) hLo) (sing (P := fun a => σ'.B a = none) hLB)
  have F₂ : Fx (C.hide s'.heap [L] [L]) hb prog w sc n md fl := F.hide hLfr fun a ha => ⟨ha, by rw [List.mem_singleton.mp ha]; exact hLalive⟩
  refine wpAny_assign_Name (wpAny_mono (fin _ F₂ ys σ' hJ D (F.emod ▸ hD) (.ref D) rfl s' H₂) (fun _ s'' hpat => ?_) fun _ _ x => x)
  obtain ⟨_, σ'', _, H₃, hq⟩ := hpat
  obtain ⟨oL, es, ep, ho, r⟩ := hns
  have kL := H₃.kp L oL (.inr ⟨.head _, ho⟩)
  refine ⟨m, ⟨oL, es, ep, kL, r⟩, fun h' hs' => ⟨.next, σ'', rfl, ?_, hq⟩⟩
  exact H₃.unhide.hidden (wr := [L]) F.ok (fun b o hb' e => hs'.extBut b o (fun e' => hb' (by simp [e'])) e) rfl rfl (sing (P := fun a => a ∉ _) fun hm => H₃.apartK L hm oL (.inr ⟨.head _, ho⟩)) (sing (P := fun a => σ''.B a = none) (H₃.noB L (.inr (.head _))))
    (sing (P := fun a => ∀ o, ¬ C.kp a o) hLk) (sing (P := fun a => ¬ C.al a) hLal)
end
end Mine
set_option autoImplicit false
set_option linter.unusedVariables false
set_option linter.unusedSimpArgs false
namespace Mine
open PySem

section
variable {C : Cx} {hb : Heap} {σ : St} {prog : Program} {w : World} {sc cs : Scope} {n : Nat} {md : List Addr} {fl : Bool} {x : Str}

/-! ints -/
theorem Bin_mul {a b : Int} {Q : MV → St → Prop} (hm : IntMulOk a b) (h : Q (.int (a * b)) σ) : Bin C .Mult (.int a) (.int b) σ Q := fun va vb ha hb s H => by
  obtain ⟨t, rfl⟩ := ha; obtain ⟨u, rfl⟩ := hb
  exact P.mul_int (hm := hm) ⟨.int (a * b), σ, ⟨_, rfl⟩, H.toks _, h⟩
theorem Bin_div {a b : Int} {Q : MV → St → Prop} (h0 : b ≠ 0) (hs : b.natAbs.log2 < 9000) (h : Q (.int (a.fdiv b)) σ) : Bin C .FloorDiv (.int a) (.int b) σ Q := fun va vb ha hb s H => by
  obtain ⟨t, rfl⟩ := ha; obtain ⟨u, rfl⟩ := hb
  exact PyProof.Rows.floordiv_int h0 ⟨.int (a.fdiv b), σ, ⟨_, rfl⟩, H.toks _, h⟩ (.inl (PyProof.noPylong_of_log2 hs))
theorem Bin_mod {a b : Int} {Q : MV → St → Prop} (h0 : b ≠ 0) (hs : b.natAbs.log2 < 9000) (h : Q (.int (a.fmod b)) σ) : Bin C .Mod (.int a) (.int b) σ Q := fun va vb ha hb s H => by
  obtain ⟨t, rfl⟩ := ha; obtain ⟨u, rfl⟩ := hb
  exact PyProof.Rows.mod_int h0 ⟨.int (a.fmod b), σ, ⟨_, rfl⟩, H.toks _, h⟩
theorem Bin_pow {a k : Int} {Q : MV → St → Prop} (h0 : 0 ≤ k) (h1 : k ≤ 1000000) (ha : a.natAbs < 2 ^ 64) (h : Q (.int (a ^ k.toNat)) σ) : Bin C .Pow (.int a) (.int k) σ Q := fun va vb ha' hb s H => by
  obtain ⟨t, rfl⟩ := ha'; obtain ⟨u, rfl⟩ := hb
  exact PyProof.Rows.pow_int_small h0 h1 ha ⟨.int (a ^ k.toNat), σ, ⟨_, rfl⟩, H.toks _, h⟩
theorem Cmp_eq {a b : Int} {Q : MV → St → Prop} (h : Q (.bool (decide (a = b))) σ) : Cmp C .Eq (.int a) (.int b) σ Q := fun va vb ha hb s H => by
  obtain ⟨t, rfl⟩ := ha; obtain ⟨u, rfl⟩ := hb
  exact P.eq_int ⟨.bool (decide (a = b)), σ, rfl, H, h⟩
theorem Cmp_ne {a b : Int} {Q : MV → St → Prop} (h : Q (.bool (!decide (a = b))) σ) : Cmp C .NotEq (.int a) (.int b) σ Q := fun va vb ha hb s H => by
  obtain ⟨t, rfl⟩ := ha; obtain ⟨u, rfl⟩ := hb
  exact P.ne_int ⟨.bool (!decide (a = b)), σ, rfl, H, h⟩
theorem Cmp_lt {a b : Int} {Q : MV → St → Prop} (h : Q (.bool (decide (a < b))) σ) : Cmp C .Lt (.int a) (.int b) σ Q := fun va vb ha hb s H => by
  obtain ⟨t, rfl⟩ := ha; obtain ⟨u, rfl⟩ := hb
  exact P.lt_int ⟨.bool (decide (a < b)), σ, rfl, H, h⟩
theorem Cmp_le {a b : Int} {Q : MV → St → Prop} (h : Q (.bool (decide (a ≤ b))) σ) : Cmp C .LtE (.int a) (.int b) σ Q := fun va vb ha hb s H => by
  obtain ⟨t, rfl⟩ := ha; obtain ⟨u, rfl⟩ := hb
  exact P.le_int ⟨.bool (decide (a ≤ b)), σ, rfl, H, h⟩
theorem Cmp_gt {a b : Int} {Q : MV → St → Prop} (h : Q (.bool (decide (b < a))) σ) : Cmp C .Gt (.int a) (.int b) σ Q := fun va vb ha hb s H => by
  obtain ⟨t, rfl⟩ := ha; obtain ⟨u, rfl⟩ := hb
  exact P.gt_int ⟨.bool (decide (b < a)), σ, rfl, H, h⟩
theorem Cmp_ge {a b : Int} {Q : MV → St → Prop} (h : Q (.bool (decide (b ≤ a))) σ) : Cmp C .GtE (.int a) (.int b) σ Q := fun va vb ha hb s H => by
  obtain ⟨t, rfl⟩ := ha; obtain ⟨u, rfl⟩ := hb
  exact P.ge_int ⟨.bool (decide (b ≤ a)), σ, rfl, H, h⟩
theorem Cmp_isNone {v : MV} {b : Bool} {Q : MV → St → Prop} (hb' : b = match v with | .none => true | .oth u => u == .none | _ => false) (h : Q (.bool b) σ) : Cmp C .Is v .none σ Q := fun va vb ha hb s H => by
  obtain rfl : vb = .none := hb
  refine is_none ⟨.bool b, σ, ?_, H, h⟩
  show Value.bool _ = .bool b
  congr 1
  cases v <;> simp only at hb' <;> subst hb'
  · obtain rfl : va = .none := ha; rfl
  · obtain rfl : va = _ := ha; rfl
  · obtain ⟨t, rfl⟩ := ha; rfl
  · obtain ⟨t, rfl⟩ := ha; rfl
  · obtain rfl : va = _ := ha; rfl
  · obtain rfl : va = _ := ha; rfl
theorem Cmp_isNotNone {v : MV} {b : Bool} {Q : MV → St → Prop} (hb' : b = match v with | .none => false | .oth u => !(u == .none) | _ => true) (h : Q (.bool b) σ) : Cmp C .IsNot v .none σ Q := fun va vb ha hb s H => by
  obtain rfl : vb = .none := hb
  refine isNot_none ⟨.bool b, σ, ?_, H, h⟩
  show Value.bool _ = .bool b
  congr 1
  cases v <;> simp only at hb' <;> subst hb'
  · obtain rfl : va = .none := ha; rfl
  · obtain rfl : va = _ := ha; rfl
  · obtain ⟨t, rfl⟩ := ha; rfl
  · obtain ⟨t, rfl⟩ := ha; rfl
  · obtain rfl : va = _ := ha; rfl
  · obtain rfl : va = _ := ha; rfl

/-! chains of two comparisons -/
theorem Ts_chain2 {l r₁ r₂ : Expr} {o₁ o₂ : CmpOp} {pos : Pos} {Q : Bool → St → Prop} (hm : lastMarks [o₁, o₂] [r₁, r₂] = false)
    (h : Ex C l σ (fun a σ₁ => Ex C r₁ σ₁ (fun b σ₂ => Cmp C o₁ a b σ₂ (fun c σ₃ => Trt C c σ₃ (fun t σ₄ => if t then Ex C r₂ σ₄ (fun d σ₅ => Cmp C o₂ b d σ₅ (fun e σ₆ => Trt C e σ₆ Q)) else Q false σ₄))))) :
    Ts C (.Compare l [o₁, o₂] [r₁, r₂] pos) σ Q := fun s H => by
  refine PyProof.Rows.isTrue_chain (wpAny_mono (h s H) (fun va s₁ hpat => ?_) fun _ _ x => x) hm
  obtain ⟨a, σ₁, ha, H₁, h₁⟩ := hpat
  refine PyProof.Rows.test_link (wpAny_mono (h₁ s₁ H₁) (fun vb s₂ ⟨b, σ₂, hb', H₂, h₂⟩ => wpAny_mono (h₂ va vb ha hb' s₂ H₂) (fun vc s₃ ⟨c, σ₃, hc, H₃, h₃⟩ => wpAny_mono (h₃ vc hc s₃ H₃) (fun t s₄ hpat => ?_) fun _ _ x => x) fun _ _ x => x) fun _ _ x => x)
  obtain ⟨t', σ₄, e, H₄, h₄⟩ := hpat
  subst e
  cases t' with
  | true =>
    refine PyProof.Rows.test_last (wpAny_mono (h₄ s₄ H₄) (fun vd s₅ ⟨d, σ₅, hd, H₅, h₅⟩ => wpAny_mono (h₅ vb vd hb' hd s₅ H₅) (fun ve s₆ ⟨e, σ₆, he, H₆, h₆⟩ => h₆ ve he s₆ H₆) fun _ _ x => x) fun _ _ x => x)
  | false => exact ⟨false, σ₄, rfl, H₄, h₄⟩
theorem Ex_chain2 {l r₁ r₂ : Expr} {o₁ o₂ : CmpOp} {pos : Pos} {Q : MV → St → Prop} (hm : lastMarks [o₁, o₂] [r₁, r₂] = false)
    (h : Ex C l σ (fun a σ₁ => Ex C r₁ σ₁ (fun b σ₂ => Cmp C o₁ a b σ₂ (fun c σ₃ => Trt C c σ₃ (fun t σ₄ => if t then Ex C r₂ σ₄ (fun d σ₅ => Cmp C o₂ b d σ₅ Q) else Q c σ₄))))) :
    Ex C (.Compare l [o₁, o₂] [r₁, r₂] pos) σ Q := fun s H => by
  refine PyProof.Rows.Compare_chain (wpAny_mono (h s H) (fun va s₁ hpat => ?_) fun _ _ x => x) hm
  obtain ⟨a, σ₁, ha, H₁, h₁⟩ := hpat
  refine PyProof.Rows.chain_link (wpAny_mono (h₁ s₁ H₁) (fun vb s₂ ⟨b, σ₂, hb', H₂, h₂⟩ => wpAny_mono (h₂ va vb ha hb' s₂ H₂) (fun vc s₃ ⟨c, σ₃, hc, H₃, h₃⟩ => wpAny_mono (h₃ vc hc s₃ H₃) (fun t s₄ hpat => ?_) fun _ _ x => x) fun _ _ x => x) fun _ _ x => x)
  obtain ⟨t', σ₄, e, H₄, h₄⟩ := hpat
  subst e
  cases t' with
  | true =>
    refine PyProof.Rows.chain_last (wpAny_mono (h₄ s₄ H₄) (fun vd s₅ ⟨d, σ₅, hd, H₅, h₅⟩ => h₅ vb vd hb' hd s₅ H₅) fun _ _ x => x)
  | false => exact ⟨c, σ₄, hc, H₄, h₄⟩

/-! items -/
def noSlice : Expr → Bool
  | .Slice .. => false
  | _ => true
theorem subscripted_plain {e : Expr} {o i : Value} (h : noSlice e = true) : subscripted e false o i = operate [o, i] (getItem o i) := by
  cases e <;> first | rfl | (simp [noSlice] at h)
def SubG (C : Cx) (o i : MV) (σ : St) (Q : MV → St → Prop) : Prop :=
  ∀ s, Holds C σ s → ∀ vo vi, VR o vo → VR i vi → ∃ T id, s.TypeIs vo T ∧ typeLookup (.type T) "__getitem__" = pure (some (.builtin id)) ∧
    wpAny (model C.prog C.w) C.A (getItem vo vi) (fun a s' => ∃ b σ', VR b a ∧ Holds C σ' s' ∧ Q b σ') (fun _ _ => False) s
theorem Ex_Subscript {value slice : Expr} {pos : Pos} {Q : MV → St → Prop} (hs : noSlice slice = true) (h : Ex C value σ (fun o σ₁ => Ex C slice σ₁ (fun i σ₂ => SubG C o i σ₂ Q))) : Ex C (.Subscript value slice pos) σ Q := fun s H => by
  refine PyProof.Rows.Subscript_ (wpAny_mono (h s H) (fun vo s₁ ⟨o, σ₁, ho, H₁, h₁⟩ => wpAny_mono (h₁ s₁ H₁) (fun vi s₂ hpat => ?_) fun _ _ x => x) fun _ _ x => x)
  obtain ⟨i, σ₂, hi, H₂, h₂⟩ := hpat
  obtain ⟨T, id, hT, hl, hw⟩ := h₂ s₂ H₂ vo vi ho hi
  exact PyProof.Rows.tail_any hT hl hw (subscripted_plain hs)
theorem idx_of {k : Int} {len : Nat} {j : Nat} (h0 : 0 ≤ k) (hj : k.toNat = j) (hlt : j < len) : seqIndex? k len = some j := by
  subst hj; exact seqIndex_of h0 (by omega)
theorem lim_lt63 {k : Nat} (h : k ≤ lim) : (k : Int) < 2 ^ 63 := by unfold lim at h; omega
theorem SubG_list {a : Addr} {xs : List MV} {k : Int} {m : MV} {Q : MV → St → Prop} (hh : Has σ a (.list xs)) (h0 : 0 ≤ k) (hm : xs[k.toNat]? = some m) (h : Q m σ) : SubG C (.ref a) (.int k) σ Q := fun s H vo vi ho hi => by
  obtain rfl : vo = .ref a := ho
  obtain ⟨t, rfl⟩ := hi
  obtain ⟨vs, nn, hob, hr, hlim⟩ := H.has hh
  obtain ⟨v, hv, hvr⟩ := hr.get hm
  have hl : s.heap.IsList a vs := ⟨_, hob, rfl, nn, rfl⟩
  have hlt : k.toNat < xs.length := (List.getElem?_eq_some_iff.mp hm).1
  refine ⟨"list", _, hl.typeIs, list_getitem_lookup, wpAny_getItem_list hl h0 ?_ (by rw [← Array.getElem?_toList]; exact hv) ⟨m, σ, hvr, H, h⟩⟩
  unfold lim at hlim; omega
theorem SubG_tup {a : Addr} {xs : List MV} {k : Int} {m : MV} {Q : MV → St → Prop} (hh : Has σ a (.tup xs)) (h0 : 0 ≤ k) (hm : xs[k.toNat]? = some m) (h : Q m σ) : SubG C (.ref a) (.int k) σ Q := fun s H vo vi ho hi => by
  obtain rfl : vo = .ref a := ho
  obtain ⟨t, rfl⟩ := hi
  obtain ⟨vs, nn, hob, hr, hlim⟩ := H.has hh
  obtain ⟨v, hv, hvr⟩ := hr.get hm
  have hlt : k.toNat < xs.length := (List.getElem?_eq_some_iff.mp hm).1
  have hsz : vs.size = xs.length := by have := hr.length; simp at this; exact this.symm
  unfold lim at hlim
  exact ⟨"tuple", _, ⟨_, hob, rfl⟩, F.slot_tuple_getitem.lookup, P.getItem_tuple (n := nn) hob (by omega) (by omega) (idx_of h0 rfl (by omega)) (by rw [← Array.getElem?_toList]; exact hv) ⟨m, σ, hvr, H, h⟩⟩

/-! a store at an index of an owned list -/
theorem Stm_SetItem {o i e : Expr} {p' pos : Pos} {Q : MF → St → Prop} (hs : swapsWith e (some (.Subscript o i p')) pos.line C.env = pure false)
    (h : Ex C e σ (fun v σ₁ => Ex C o σ₁ (fun ov σ₂ => Ex C i σ₂ (fun iv σ₃ => ∀ s, Holds C σ₃ s → ∀ vv vo vi, VR v vv → VR ov vo → VR iv vi →
      wpAny (model C.prog C.w) C.A (setItem vo vi vv) (fun _ s' => ∃ σ', Holds C σ' s' ∧ Q .next σ') (fun _ _ => False) s)))) : Stm C (.Assign [.Subscript o i p'] e pos) σ Q := fun s H => by
  refine wpAny_Assign_Subscript (hs := hs) (wpAny_mono (h s H) (fun vv s₁ ⟨v, σ₁, hv, H₁, h₁⟩ => wpAny_mono (h₁ s₁ H₁) (fun vo s₂ ⟨ov, σ₂, ho, H₂, h₂⟩ => wpAny_mono (h₂ s₂ H₂) (fun vi s₃ hpat => ?_) fun _ _ x => x) fun _ _ x => x) fun _ _ x => x)
  obtain ⟨iv, σ₃, hi, H₃, h₃⟩ := hpat
  exact wpAny_mono (h₃ s₃ H₃ vv vo vi hv ho hi) (fun _ s' ⟨σ', H', hq⟩ => ⟨.next, σ', rfl, H', hq⟩) fun _ _ x => x
end
end Mine
set_option autoImplicit false
set_option linter.unusedVariables false
set_option linter.unusedSimpArgs false
namespace Mine
open PySem

section
variable {C : Cx} {hb : Heap} {σ : St} {prog : Program} {w : World} {sc cs : Scope} {n : Nat} {md : List Addr} {fl : Bool} {x : Str}

structure IsFn (hb : Heap) (fa : Addr) : Prop where
  ex : ∃ o fd, hb.get? fa = some o ∧ o.data = .func fd

theorem Ex_CallFn {f : Str} {p pos : Pos} {e : Expr} {rest : List Expr} {fa : Addr} {Q : MV → St → Prop} (OK : C.Ok hb) (g : Gl hb f (.ref fa)) (hk : C.env.kindOf f = some .globalImplicit) (hf : IsFn hb fa)
    (he : starEach (e :: rest) C.env = (false, eval e C.env) :: starEach rest C.env)
    (h : Exs C pos (e :: rest) σ (fun vs σ₁ => CallV C (.ref fa) vs σ₁ Q)) : Ex C (.Call (.Name f p) (e :: rest) [] pos) σ Q := fun s H => by
  obtain ⟨o, fd, ho, hd⟩ := hf.ex
  refine PyProof.Rows.Call_ (wpAny_mono (Ex_global (Q := fun v σ' => v = .ref fa ∧ σ' = σ) OK g hk ⟨rfl, rfl⟩ s H) (fun vf s₁ hpat => ?_) fun _ _ x => x)
  obtain ⟨_, _, hv, H₁, e1, e2⟩ := hpat
  subst e1 e2
  obtain rfl : vf = .ref fa := hv
  exact PyProof.Rows.callWith_def (o := o) hd (wpAny_mono (h s₁ H₁) (fun vs s₂ ⟨ms, σ₂, hms, H₂, h₂⟩ => ⟨H₂.base OK _ _ ho, h₂ vs hms s₂ H₂⟩) fun _ _ x => x) he
theorem Ex_CallB {f : Str} {p pos : Pos} {e : Expr} {rest : List Expr} {id : String} {Q : MV → St → Prop} (OK : C.Ok hb) (g : Gl hb f (.oth (.builtin id))) (hk : C.env.kindOf f = some .globalImplicit)
    (he : starEach (e :: rest) C.env = (false, eval e C.env) :: starEach rest C.env) (hplain : (backTo pos (starEach rest C.env)).any (·.1) = false)
    (h : Exs C pos (e :: rest) σ (fun vs σ₁ => CallV C (.builtin id) vs σ₁ Q)) : Ex C (.Call (.Name f p) (e :: rest) [] pos) σ Q := fun s H => by
  refine PyProof.Rows.Call_ (wpAny_mono (Ex_global (Q := fun v σ' => v = .oth (.builtin id) ∧ σ' = σ) OK g hk ⟨rfl, rfl⟩ s H) (fun vf s₁ hpat => ?_) fun _ _ x => x)
  obtain ⟨_, _, hv, H₁, e1, e2⟩ := hpat
  subst e1 e2
  obtain rfl : vf = .builtin id := hv
  exact PyProof.Rows.callWith_builtin1 (wpAny_mono (h s₁ H₁) (fun vs s₂ ⟨ms, σ₂, hms, H₂, h₂⟩ => h₂ vs hms s₂ H₂) fun _ _ x => x) he hplain
theorem Ex_CallT {f : Str} {p pos : Pos} {e : Expr} {rest : List Expr} {T : String} {Q : MV → St → Prop} (OK : C.Ok hb) (g : Gl hb f (.oth (.type T))) (hk : C.env.kindOf f = some .globalImplicit)
    (he : starEach (e :: rest) C.env = (false, eval e C.env) :: starEach rest C.env) (hplain : (backTo pos (starEach (e :: rest) C.env)).any (·.1) = false)
    (h : Exs C pos (e :: rest) σ (fun vs σ₁ => CallV C (.type T) vs σ₁ Q)) : Ex C (.Call (.Name f p) (e :: rest) [] pos) σ Q := fun s H => by
  refine PyProof.Rows.Call_ (wpAny_mono (Ex_global (Q := fun v σ' => v = .oth (.type T) ∧ σ' = σ) OK g hk ⟨rfl, rfl⟩ s H) (fun vf s₁ hpat => ?_) fun _ _ x => x)
  obtain ⟨_, _, hv, H₁, e1, e2⟩ := hpat
  subst e1 e2
  obtain rfl : vf = .type T := hv
  refine callWith_type hplain ?_
  have hx : backTo pos (starEach (e :: rest) C.env) = (false, eval e C.env) :: backTo pos (starEach rest C.env) := by rw [he]; rfl
  rw [hx]
  refine Calls.evalArgs_plain ?_
  rw [← hx]
  exact wpAny_mono (h s₁ H₁) (fun vs s₂ ⟨ms, σ₂, hms, H₂, h₂⟩ => h₂ vs hms s₂ H₂) fun _ _ x => x

theorem VsR.one {m : MV} {vs : List Value} (h : VsR [m] vs) : ∃ v, vs = [v] ∧ VR m v := by
  cases h with | cons h1 h2 => cases h2; exact ⟨_, rfl, h1⟩
theorem VsR.two {m m' : MV} {vs : List Value} (h : VsR [m, m'] vs) : ∃ v v', vs = [v, v'] ∧ VR m v ∧ VR m' v' := by
  cases h with | cons h1 h2 => cases h2 with | cons h3 h4 => cases h4; exact ⟨_, _, rfl, h1, h3⟩

theorem Call_len_list {a : Addr} {xs : List MV} {Q : MV → St → Prop} (hh : Has σ a (.list xs)) (h : Q (.int xs.length) σ) : CallV C (.builtin "len") [.ref a] σ Q := fun vs hvs s H => by
  obtain ⟨v, rfl, hv⟩ := hvs.one
  obtain rfl : v = .ref a := hv
  obtain ⟨vs, nn, hob, hr, hlim⟩ := H.has hh
  have hsz : vs.size = xs.length := by have := hr.length; simp at this; exact this.symm
  refine Calls.call_len_list (items := vs) ⟨_, hob, rfl, nn, rfl⟩ (by rw [hsz]; exact lim_lt63 hlim) ⟨.int xs.length, σ, ?_, H.toks _, h⟩
  rw [hsz]; exact ⟨_, rfl⟩
theorem Call_len_tup {a : Addr} {xs : List MV} {Q : MV → St → Prop} (hh : Has σ a (.tup xs)) (h : Q (.int xs.length) σ) : CallV C (.builtin "len") [.ref a] σ Q := fun vs hvs s H => by
  obtain ⟨v, rfl, hv⟩ := hvs.one
  obtain rfl : v = .ref a := hv
  obtain ⟨vs, nn, hob, hr, hlim⟩ := H.has hh
  have hsz : vs.size = xs.length := by have := hr.length; simp at this; exact this.symm
  refine P.len_tuple (items := vs) (n := nn) hob (by rw [hsz]; have := lim_lt63 hlim; omega) ⟨.int xs.length, σ, ?_, H.toks _, h⟩
  rw [hsz]; exact ⟨_, rfl⟩

theorem Call_list_list {a : Addr} {xs : List MV} {Q : MV → St → Prop} (OK : C.Ok hb) (hh : Has σ a (.list xs)) (h : ∀ b, Fsh C.mod σ b → Q (.ref b) { σ with own := (b, .list xs) :: σ.own }) : CallV C (.type "list") [.ref a] σ Q := fun vs hvs s H => by
  obtain ⟨v, rfl, hv⟩ := hvs.one
  obtain rfl : v = .ref a := hv
  obtain ⟨vs, nn, hob, hr, hlim⟩ := H.has hh
  have hsz : vs.size = xs.length := by have := hr.length; simp at this; exact this.symm
  refine call_list_seq a (.inl rfl) hob rfl rfl (fun h' c' hk hD => ?_) (by rw [hsz]; exact Nat.le_trans hlim lim_le)
  refine ⟨.ref s.heap.objs.size, { σ with own := (s.heap.objs.size, .list xs) :: σ.own }, rfl, ?_, h _ (H.fsh OK)⟩
  exact (H.ext (s' := { s with heap := h' }) hk rfl rfl).addO (fresh_facts H) ⟨vs, c', hD, hr, hlim⟩

theorem Call_range {k : Int} {Q : MV → St → Prop} (h0 : 0 ≤ k) (h1 : k.toNat ≤ lim) (h : ∀ a, Q (.ref a) { σ with own := (a, .range k.toNat) :: σ.own }) : CallV C (.type "range") [.int k] σ Q := fun vs hvs s H => by
  obtain ⟨v, rfl, t, rfl⟩ := hvs.one
  refine call_range_1 ⟨.ref s.heap.objs.size, _, rfl, (H.new (mo := .range k.toNat) ⟨s.toks, t, s.toks + 1, ?_, h1⟩).toks _, h _⟩
  have : ((k.toNat : Nat) : Int) = k := by omega
  show (s.heap.push _).get? _ = _
  rw [this]; exact Heap.get?_push_size _ rfl

theorem Call_isi {m : MV} {T : String} {b : Bool} {Q : MV → St → Prop} (hi : ∀ s, Holds C σ s → ∀ v, VR m v → ∀ Q' : Value → Shared → Prop, (∀ t, Q' (.bool b) { s with toks := t }) → wpAny (model C.prog C.w) C.A (call (.builtin "isinstance") [v, .type T]) Q' (fun _ _ => False) s)
    (h : Q (.bool b) σ) : CallV C (.builtin "isinstance") [m, .oth (.type T)] σ Q := fun vs hvs s H => by
  obtain ⟨v, v', rfl, hv, hv'⟩ := hvs.two
  obtain rfl : v' = .type T := hv'
  exact hi s H v hv _ fun t => ⟨.bool b, σ, rfl, H.toks t, h⟩
theorem isi_int_int {i : Int} {Q : MV → St → Prop} (h : Q (.bool true) σ) : CallV C (.builtin "isinstance") [.int i, .oth (.type "int")] σ Q :=
  Call_isi (b := true) (fun s H v hv Q' hq => by obtain ⟨t, rfl⟩ := hv; exact IsiPair.int_int (hq s.toks)) h
theorem isi_int_bool {i : Int} {Q : MV → St → Prop} (h : Q (.bool false) σ) : CallV C (.builtin "isinstance") [.int i, .oth (.type "bool")] σ Q :=
  Call_isi (b := false) (fun s H v hv Q' hq => by obtain ⟨t, rfl⟩ := hv; exact IsiPair.int_bool (hq _)) h
theorem isi_list_list {a : Addr} {xs : List MV} {Q : MV → St → Prop} (hh : Has σ a (.list xs)) (h : Q (.bool true) σ) : CallV C (.builtin "isinstance") [.ref a, .oth (.type "list")] σ Q :=
  Call_isi (b := true) (fun s H v hv Q' hq => by obtain rfl : v = .ref a := hv; obtain ⟨vs, nn, hob, _⟩ := H.has hh; exact IsiPair.list_list hob rfl (hq s.toks)) h
theorem Cmp_eqStr {a b : Str} {Q : MV → St → Prop} (h : Q (.bool (decide (a = b))) σ) : Cmp C .Eq (.str a) (.str b) σ Q := fun va vb ha hb s H => by
  obtain ⟨t, rfl⟩ := ha; obtain ⟨u, rfl⟩ := hb
  refine P.eq_str ⟨.bool (decide (a = b)), σ, ?_, H, h⟩
  show Value.bool _ = _
  congr 1
  by_cases hab : a = b
  · subst hab; simp
  · rw [decide_eq_false hab]
    refine beq_eq_false_iff_ne.mpr fun hl => hab ?_
    cases a; cases b
    simp only [Str.mk.injEq]
    exact Array.toList_inj.mp hl
theorem Call_max {a b : Int} {Q : MV → St → Prop} (OK : C.Ok hb) (h : Q (.int (max a b)) σ) : CallV C (.builtin "max") [.int a, .int b] σ Q := fun vs hvs s H => by
  obtain ⟨v, v', rfl, ⟨t, rfl⟩, ⟨u, rfl⟩⟩ := hvs.two
  refine max_two_ints OK.handled fun h' tk hk => ?_
  refine ⟨.int (max a b), σ, ?_, H.ext hk rfl rfl, h⟩
  split
  · exact ⟨_, by congr 1; omega⟩
  · exact ⟨_, by congr 1; omega⟩
theorem Call_min {a b : Int} {Q : MV → St → Prop} (OK : C.Ok hb) (h : Q (.int (min a b)) σ) : CallV C (.builtin "min") [.int a, .int b] σ Q := fun vs hvs s H => by
  obtain ⟨v, v', rfl, ⟨t, rfl⟩, ⟨u, rfl⟩⟩ := hvs.two
  refine min_two_ints OK.handled fun h' tk hk => ?_
  refine ⟨.int (min a b), σ, ?_, H.ext hk rfl rfl, h⟩
  split
  · exact ⟨_, by congr 1; omega⟩
  · exact ⟨_, by congr 1; omega⟩

set_option maxRecDepth 100000 in
end
end Mine
set_option autoImplicit false
set_option linter.unusedVariables false
set_option linter.unusedSimpArgs false
namespace Mine
open PySem PySem.SeqAt

section
variable {C : Cx} {hb : Heap} {σ : St} {prog : Program} {w : World} {sc cs : Scope} {n : Nat} {md : List Addr} {fl : Bool} {x : Str}

theorem Ex_append {o e : Expr} {apos pos : Pos} {Q : MV → St → Prop} (OK : C.Ok hb) (hbase : attributeBase o "append" C.env (eval o C.env) = eval o C.env) (hline : (apos.endLine == pos.line) = true)
    (he : backTo pos (starEach [e] C.env) = [(false, eval e C.env)])
    (h : Ex C o σ (fun ov σ₁ => ∃ a xs, ov = .ref a ∧ Has σ₁ a (.list xs) ∧ Ex C e σ₁ (fun v σ₂ => ∃ ys own', Upd σ₂.own a (.list ys) (.list (ys ++ [v])) own' ∧ ys.length + 1 ≤ lim ∧ Q .none { σ₂ with own := own' }))) :
    Ex C (.Call (.Attribute o "append" apos) [e] [] pos) σ Q := fun s H => by
  refine wpAny_Call_method hbase (by rw [he]; rfl) hline F.plainAttrs_list F.slot_list_append F.type_list_append (wpAny_mono (h s H) (fun vo s₁ hpat => ?_) fun _ _ x => x)
  obtain ⟨ov, σ₁, ho, H₁, a, xs, e1, hh, h₁⟩ := hpat
  subst e1
  obtain rfl : vo = .ref a := ho
  obtain ⟨vs, nn, hob, hr, hlim⟩ := H₁.has hh
  refine ⟨⟨_, hob, rfl⟩, fun b e' => by cases e'; exact ⟨_, hob, rfl⟩, ?_⟩
  rw [he]
  refine P.append_list (wpAny_mono (h₁ s₁ H₁) (fun v s₂ hpat => ?_) fun _ _ x => x)
  obtain ⟨m, σ₂, hv, H₂, ys, own', u, hl, hq⟩ := hpat
  obtain ⟨vs', n', hob', hr', hlim'⟩ := H₂.own _ u.mem
  have hsz : vs'.size = ys.length := by have := hr'.length; simp at this; exact this.symm
  refine ⟨vs', n', by rw [hsz]; exact Nat.le_trans hlim' lim_le, hob', .none, { σ₂ with own := own' }, rfl, ?_, hq⟩
  refine H₂.upd OK u (fun b ob hb' e' => by rw [Heap.get?_update_other _ _ (Ne.symm hb')]; exact e') ?_ rfl rfl
  refine ⟨vs'.push v, _, IsL.update hob' fun xs => xs.push v, ?_, by simpa using hl⟩
  simpa using hr'.snoc hv

/-! equality -/
inductive EqM (σ : St) : MV → MV → Bool → Prop
  | same (a : Addr) : EqM σ (.ref a) (.ref a) true
  | int (i j : Int) : EqM σ (.int i) (.int j) (decide (i = j))
  | str (x y : Str) : EqM σ (.str x) (.str y) (decide (x = y))
  | none : EqM σ .none .none true
  | bool (b : Bool) : EqM σ (.bool b) (.bool b) true

theorem EqM.at {s : Shared} (H : Holds C σ s) {m m' : MV} {b : Bool} (h : EqM σ m m' b) {v v' : Value} (hv : VR m v) (hv' : VR m' v') (A : Around) : EqAt A s v v' b := by
  cases h with
  | same a => obtain rfl : v = _ := hv; obtain rfl : v' = _ := hv'; exact EqAt.same _
  | int i j => obtain ⟨t, rfl⟩ := hv; obtain ⟨u, rfl⟩ := hv'; exact (MeetsSeq.EqGives.int i j t u).at A s
  | str x y => obtain ⟨t, rfl⟩ := hv; obtain ⟨u, rfl⟩ := hv'; exact fun prog w E Q hq => wpAny_eqBool_str hq
  | none => obtain rfl : v = _ := hv; obtain rfl : v' = _ := hv'; exact EqAt.same _
  | bool b => obtain rfl : v = _ := hv; obtain rfl : v' = _ := hv'; exact EqAt.same _

end
end Mine
set_option autoImplicit false
set_option linter.unusedVariables false
set_option linter.unusedSimpArgs false
namespace Mine
open PySem

def Sub0 (B B' : MH) : Prop := ∀ a o, B a = some o → B' a = some o
theorem Sub0.rfl' (B : MH) : Sub0 B B := fun _ _ h => h
section
variable {C : Cx} {hb : Heap} {σ : St} {prog : Program} {w : World} {sc cs : Scope} {n : Nat} {md : List Addr} {fl : Bool} {x : Str}

theorem Holds.drop {s : Shared} {B₂ : MH} {own₂ : Own} (H : Holds C σ s) (h1 : Sub0 B₂ σ.B) (h2 : Sub0 C.B0 B₂) (h3 : own₂.Sublist σ.own) : Holds C { σ with B := B₂, own := own₂ } s := by
  have hsub : (own₂.map (·.1) ++ C.fr).Sublist (σ.own.map (·.1) ++ C.fr) := (h3.map _).append (List.Sublist.refl _)
  have bn : ∀ a, σ.B a = none → B₂ a = none := fun a ha => by
    cases e : B₂ a with
    | none => rfl
    | some o => rw [h1 a o e] at ha; cases ha
  exact {
    kp := H.kp, names := H.names, ns := H.ns, cells := H.cells, alive := H.alive, gens := H.gens, os := H.os, al := H.al
    B := fun a o h => H.B a o (h1 a o h)
    own := fun p hp => H.own p (h3.mem hp)
    nodup := hsub.nodup H.nodup
    apartB := fun a ha => bn a (H.apartB a (hsub.mem ha))
    apartK := fun a ha => H.apartK a (hsub.mem ha)
    B0 := h2
    Bnew := fun a o h => H.Bnew a o (h1 a o h)
    ownNew := fun p hp => H.ownNew p (h3.mem hp)
    noB := fun a ha => bn a (H.noB a ha) }

end
end Mine
set_option autoImplicit false
set_option linter.unusedVariables false
set_option linter.unusedSimpArgs false
namespace Mine
open PySem

def bodyAt (p : Program) (i : Nat) : List Stmt := match p.main.body[i]? with | some (.FunctionDef _ _ b _ _ _ _ _ _ _) => b | _ => []
def scopeAt (p : Program) (i : Nat) : Scope := match p.main.body[i]? with | some (.FunctionDef _ _ _ _ _ _ s _ _ _) => s | _ => default
def paramsAt (p : Program) (i : Nat) : List Str := match p.main.body[i]? with | some (.FunctionDef _ a _ _ _ _ _ _ _ _) => a.args.map (·.arg) | _ => []

/-- a global function with its contract -/
structure FnC (prog : Program) (w : World) (hb : Heap) (f : Str) (n : Nat) (S : Spec) : Prop where
  ex : ∃ fa, Gl hb f (.ref fa) ∧ IsFn hb fa ∧ Contract prog w hb (.ref fa) n S

section
variable {C : Cx} {hb : Heap} {σ : St} {prog : Program} {w : World} {sc cs : Scope} {n : Nat} {md : List Addr} {fl : Bool} {x : Str}

theorem Fx.kind (F : Fx C hb prog w sc n md fl) {x : Str} {k : NameKind} (h : sc.names.lookup x = some k) : C.env.kindOf x = some k := by unfold Env.kindOf; rw [F.esc]; exact h

theorem look_hd {l : Loc} {x : Str} {v : MV} : look ((x, v) :: l) x = some v := by simp [look]
theorem look_tl {l : Loc} {x y : Str} {u v : MV} (h : x ≠ y) (h' : look l x = some v) : look ((y, u) :: l) x = some v := by simp only [look, h, if_false]; exact h'
theorem put_nil {x : Str} {v : MV} : put [] x v = [(x, v)] := rfl
theorem put_hd {l : Loc} {x : Str} {u v : MV} : put ((x, u) :: l) x v = (x, v) :: l := by simp [put]
theorem put_tl {l l' : Loc} {x y : Str} {u v : MV} (h : x ≠ y) (h' : put l x v = l') : put ((y, u) :: l) x v = (y, u) :: l' := by simp only [put, h, if_false, h']
theorem capt_nil : capt cs [] = [] := rfl
theorem capt_keep {l l' : Loc} {y : Str} {u : MV} (h : cs.names.lookup y = some .free) (h' : capt cs l = l') : capt cs ((y, u) :: l) = (y, u) :: l' := by simp only [capt, h, if_true, h']
theorem capt_skip {l l' : Loc} {y : Str} {u : MV} (h : cs.names.lookup y ≠ some .free) (h' : capt cs l = l') : capt cs ((y, u) :: l) = l' := by simp only [capt, h, if_false, h']

theorem map_toNat_inj : ∀ {a b : List Char}, a.map Char.toNat = b.map Char.toNat → a = b
  | [], [], _ => rfl
  | x :: a, y :: b, h => by
    simp only [List.map_cons, List.cons.injEq] at h
    have e : x = y := Char.ext (UInt32.toNat_inj.mp h.1)
    rw [e, map_toNat_inj h.2]
  | [], _ :: _, h => by simp at h
  | _ :: _, [], h => by simp at h
theorem ofString_ne {a b : String} (h : a ≠ b) : Str.ofString a ≠ Str.ofString b := fun e => h (by
  rw [Str.ofString_eq_toList, Str.ofString_eq_toList] at e
  have e1 := congrArg Array.toList (Str.mk.inj e)
  simp only [] at e1
  exact String.toList_injective (map_toNat_inj e1))

theorem Ex_loc {x : Str} {pos : Pos} {m : MV} {Q : MV → St → Prop} (F : Fx C hb prog w sc n md fl) (hl : look σ.loc x = some m) (hn : okName x = true) (h : Q m σ) : Ex C (.Name x pos) σ Q := Ex_local F.ok hl hn h
theorem Ex_glb {x : Str} {pos : Pos} {m : MV} {Q : MV → St → Prop} (F : Fx C hb prog w sc n md fl) (g : Gl hb x m) (hk : sc.names.lookup x = some .globalImplicit) (h : Q m σ) : Ex C (.Name x pos) σ Q := Ex_global F.ok g (F.kind hk) h
theorem Store_loc {x : Str} {m : MV} {l' : Loc} {Q : St → Prop} (F : Fx C hb prog w sc n md fl) (hk : sc.names.lookup x = some .local) (hp : put σ.loc x m = l') (h : Q { σ with loc := l' }) : Store C x m σ Q := Store_local F.ok (F.kind hk) (hp ▸ h)
theorem Store_cel {x : Str} {m : MV} {l' : Loc} {Q : St → Prop} (F : Fx C hb prog w sc n md true) (hk : sc.names.lookup x = some .cell) (hp : put σ.loc x m = l') (h : Q { σ with loc := l' }) : Store C x m σ Q :=
  Store_cell F.ok (F.kind hk) (F.full rfl x hk) (hp ▸ h)
theorem Ex_CallC {f : Str} {p pos : Pos} {e : Expr} {rest : List Expr} {k : Nat} {S : Spec} {Q : MV → St → Prop} (F : Fx C hb prog w sc n md fl) (hf : FnC prog w hb f k S) (hk : sc.names.lookup f = some .globalImplicit) (hn : k ≤ n)
    (he : starEach (e :: rest) C.env = (false, eval e C.env) :: starEach rest C.env)
    (h : Exs C pos (e :: rest) σ (fun vs σ₁ => S vs σ₁.B [] (fun m B' own' => Q m { σ₁ with B := B', own := own' ++ σ₁.own }))) : Ex C (.Call (.Name f p) (e :: rest) [] pos) σ Q := by
  obtain ⟨fa, g, hi, ct⟩ := hf.ex
  refine Ex_CallFn F.ok g (F.kind hk) hi he (Tr.mono h fun vs σ₁ h₁ => ?_)
  have ct' : Contract C.prog C.w hb (.ref fa) k S := by rw [F.eprog, F.ew]; exact ct
  exact CallV_ct0 F.ok ct' (by rw [F.eroom]; exact hn) h₁
theorem Ex_CallCo {f : Str} {p pos : Pos} {e : Expr} {rest : List Expr} {k : Nat} {S : Spec} {Q : MV → St → Prop} (F : Fx C hb prog w sc n md fl) (hf : FnC prog w hb f k S) (hk : sc.names.lookup f = some .globalImplicit) (hn : k ≤ n)
    (he : starEach (e :: rest) C.env = (false, eval e C.env) :: starEach rest C.env)
    (h : Exs C pos (e :: rest) σ (fun vs σ₁ => ∃ own₁ rest', σ₁.own.Perm (own₁ ++ rest') ∧ S vs σ₁.B own₁ (fun m B' own' => Q m { σ₁ with B := B', own := own' ++ rest' }))) : Ex C (.Call (.Name f p) (e :: rest) [] pos) σ Q := by
  obtain ⟨fa, g, hi, ct⟩ := hf.ex
  refine Ex_CallFn F.ok g (F.kind hk) hi he (Tr.mono h fun vs σ₁ hpat => ?_)
  obtain ⟨o1, r1, hp, h₁⟩ := hpat
  have ct' : Contract C.prog C.w hb (.ref fa) k S := by rw [F.eprog, F.ew]; exact ct
  exact CallV_ct F.ok ct' (by rw [F.eroom]; exact hn) hp h₁
end
end Mine
namespace Mine
section
set_option autoImplicit false
set_option linter.unusedVariables false
set_option linter.unusedSimpArgs false
open PySem

def setB (B : MH) (a : Addr) (o : MO) : MH := fun b => if b = a then some o else B b
theorem setB_self {B : MH} {a : Addr} {o : MO} : setB B a o a = some o := by simp [setB]
theorem setB_ne {B : MH} {a b : Addr} {o : MO} (h : b ≠ a) : setB B a o b = B b := by simp [setB, h]
inductive Del : Own → Addr → MO → Own → Prop
  | head {a : Addr} {o : MO} {r : Own} : Del ((a, o) :: r) a o r
  | tail {a : Addr} {o : MO} {p : Addr × MO} {r r' : Own} : Del r a o r' → Del (p :: r) a o (p :: r')
/-- states that follow from a state -/
inductive Cv (md : List Addr) : St → St → Prop
  | refl (σ : St) : Cv md σ σ
  | trans {σ₁ σ₂ σ₃ : St} : Cv md σ₁ σ₂ → Cv md σ₂ σ₃ → Cv md σ₁ σ₃
  | loc {l l' : Loc} {B : MH} {own : Own} : (∀ x v, look l' x = some v → look l x = some v) → Cv md ⟨l, B, own⟩ ⟨l', B, own⟩
  | own {l : Loc} {B : MH} {own own₂ : Own} : own₂.Sublist own → Cv md ⟨l, B, own⟩ ⟨l, B, own₂⟩
  | perm {l : Loc} {B : MH} {own own₂ : Own} : own.Perm own₂ → Cv md ⟨l, B, own⟩ ⟨l, B, own₂⟩
  | frz {l : Loc} {B : MH} {a : Addr} {o : MO} {own : Own} : a ∉ md → Cv md ⟨l, B, (a, o) :: own⟩ ⟨l, setB B a o, own⟩

section
variable {C : Cx} {hb : Heap} {σ : St} {prog : Program} {w : World} {sc cs : Scope} {n : Nat} {md : List Addr} {fl : Bool} {x : Str}

theorem Holds.frz {s : Shared} {l : Loc} {B : MH} {a : Addr} {o : MO} {own : Own} (OK : C.Ok hb) (H : Holds C ⟨l, B, (a, o) :: own⟩ s) (ha : a ∉ C.mod) : Holds C ⟨l, setB B a o, own⟩ s := by
  have nd : (a :: (own.map (·.1) ++ C.fr)).Nodup := H.nodup
  have nd1 := List.nodup_cons.mp nd
  have hBa : B a = none := H.apartB a (.head _)
  have nal : ¬ C.al a := (H.ownNew (a, o) (.head _)).resolve_right ha
  exact {
    kp := H.kp, names := H.names, ns := H.ns, cells := H.cells, alive := H.alive, gens := H.gens, os := H.os, al := H.al
    B := fun b ob h => by
      by_cases hab : b = a
      · subst hab; have h : setB B b o b = some ob := h; rw [setB_self] at h; cases h; exact H.own (b, o) (.head _)
      · have h : setB B a o b = some ob := h; rw [setB_ne hab] at h; exact H.B b ob h
    own := fun p hp => H.own p (.tail _ hp)
    nodup := nd1.2
    apartB := fun b hb' => by
      show setB B a o b = none
      have hne : b ≠ a := fun e => by subst e; exact nd1.1 hb'
      rw [setB_ne hne]; exact H.apartB b (.tail _ hb')
    apartK := fun b hb' => H.apartK b (.tail _ hb')
    B0 := fun b ob h => by
      have := H.B0 b ob h
      show setB B a o b = some ob
      have hne : b ≠ a := fun e => by subst e; rw [show B b = some ob from this] at hBa; cases hBa
      rw [setB_ne hne]; exact this
    Bnew := fun b ob h => by
      by_cases hab : b = a
      · subst hab; exact .inr nal
      · have h : setB B a o b = some ob := h; rw [setB_ne hab] at h; exact H.Bnew b ob h
    ownNew := fun p hp => H.ownNew p (.tail _ hp)
    noB := fun b hb' => by
      show setB B a o b = none
      have hne : b ≠ a := fun e => by subst e; obtain ⟨ob, hob⟩ := OK.noKp b hb'; exact H.apartK b (.head _) ob hob
      rw [setB_ne hne]; exact H.noB b hb' }

theorem Holds.loc {s : Shared} {l l' : Loc} {B : MH} {own : Own} (H : Holds C ⟨l, B, own⟩ s) (h : ∀ x v, look l' x = some v → look l x = some v) : Holds C ⟨l', B, own⟩ s := { H with names := fun x v hx => H.names x v (h x v hx) }
theorem Cv.holds (OK : C.Ok hb) (hm : C.mod = md) {σ σ' : St} (c : Cv md σ σ') : ∀ {s : Shared}, Holds C σ s → Holds C σ' s := by
  induction c with
  | refl => exact id
  | trans _ _ ih1 ih2 => exact fun H => ih2 (ih1 H)
  | loc h => exact fun H => H.loc h
  | own h => exact fun H => H.drop (Sub0.rfl' _) H.B0 h
  | perm h => exact fun H => H.perm h
  | frz h => exact fun H => H.frz OK (hm ▸ h)
theorem Tr.cv {α β : Type} {t : Sem α} {R : β → α → Prop} {σ' : St} {Q : β → St → Prop} (F : Fx C hb prog w sc n md fl) (c : Cv md σ σ') (h : Tr C t R σ' Q) : Tr C t R σ Q := fun s H => h s (c.holds F.ok F.emod H)
theorem Sts_cv {sts : List Stmt} {σ' : St} {Q : MF → St → Prop} (F : Fx C hb prog w sc n md fl) (c : Cv md σ σ') (h : Sts C sts σ' Q) : Sts C sts σ Q := Tr.cv F c h
theorem Stm_cv {st : Stmt} {σ' : St} {Q : MF → St → Prop} (F : Fx C hb prog w sc n md fl) (c : Cv md σ σ') (h : Stm C st σ' Q) : Stm C st σ Q := Tr.cv F c h

/-- the end of a function's text -/
def End (md : List Addr) (Q : MV → MH → Own → Prop) (r : MV) (σ : St) : Prop := ∃ σ₂, Cv md σ σ₂ ∧ Q r σ₂.B σ₂.own
theorem Contract.of {f : Addr} {ps : List Str} {body : List Stmt} {scope : Scope} {S : Spec} (F : FnIs hb f ps body scope) (hlim : hb.NoLimit)
    (hS : ∀ args B own Q, S args B own Q → args.length = ps.length)
    (h : ∀ (C : Cx) args B own Q, Fx C hb prog w scope n (own.map (·.1)) true → S args B own Q → Sts C body ⟨ps.zip args, B, own⟩ (fun fl σ' => End (own.map (·.1)) Q (retOf fl) σ')) : Contract prog w hb (.ref f) (n + 1) S := by
  refine Contract.intro F hlim hS fun C OK h1 h2 h3 h4 h5 h6 args B own Q hm hB0 hs => ?_
  intro s H
  have F' : Fx C hb prog w scope n (own.map (·.1)) true := ⟨OK, h1, h2, h3, h4, hm, fun x hx => hx.elim (h6 x) fun e => absurd e (F.noFree x), fun _ x hx => let ⟨c, hc⟩ := h6 x hx; ⟨c, hc, h5 x c hc⟩⟩
  refine wpAny_mono (h C args B own Q F' hs s H) (fun fl s' hpat => ?_) fun _ _ x => x
  obtain ⟨b, σ', hf, H', σ₂, cv, hq⟩ := hpat
  exact ⟨b, σ₂, hf, cv.holds OK hm H', hq⟩

theorem if_dec {p : Prop} [Decidable p] {A B : Prop} (h1 : p → A) (h2 : ¬ p → B) : if decide p = true then A else B := by
  by_cases h : p
  · rw [if_pos (by simpa using h)]; exact h1 h
  · rw [if_neg (by simpa using h)]; exact h2 h
theorem if_ndec {p : Prop} [Decidable p] {A B : Prop} (h1 : ¬ p → A) (h2 : p → B) : if (!decide p) = true then A else B := by
  by_cases h : p
  · rw [if_neg (by simpa using h)]; exact h2 h
  · rw [if_pos (by simpa using h)]; exact h1 h
theorem if_tt {A B : Prop} (h : A) : if true = true then A else B := h
theorem if_ff {A B : Prop} (h : B) : if false = true then A else B := h
theorem if_ntt {A B : Prop} (h : B) : if (!true) = true then A else B := h
theorem if_pos' {p : Prop} [Decidable p] {A B : Prop} (hp : p) (h : A) : if decide p = true then A else B := by rw [if_pos (by simpa using hp)]; exact h
theorem if_neg' {p : Prop} [Decidable p] {A B : Prop} (hp : ¬ p) (h : B) : if decide p = true then A else B := by rw [if_neg (by simpa using hp)]; exact h
end

section
variable {C : Cx} {hb : Heap} {σ : St} {prog : Program} {w : World} {sc cs : Scope} {n : Nat} {md : List Addr} {fl : Bool} {x : Str}
theorem Ex_ListF {elts : List Expr} {pos : Pos} {Q : MV → St → Prop} (F : Fx C hb prog w sc n md fl) (h : Exs C pos elts σ (fun vs σ' => vs.length ≤ lim ∧ ∀ a, Fsh md σ' a → Q (.ref a) { σ' with own := (a, .list vs) :: σ'.own })) : Ex C (.List elts pos) σ Q :=
  Ex_List F.ok (by rw [F.emod]; exact h)
theorem Ex_TupleF {elts : List Expr} {k : Nat} {pos : Pos} {Q : MV → St → Prop} (F : Fx C hb prog w sc n md fl) (h : Exs C pos elts σ (fun vs σ' => vs.length ≤ lim ∧ ∀ a, Fsh md σ' a → Q (.ref a) { σ' with own := (a, .tup vs) :: σ'.own })) : Ex C (.Tuple elts k pos) σ Q :=
  Ex_Tuple F.ok (by rw [F.emod]; exact h)
theorem Call_listF {a : Addr} {xs : List MV} {Q : MV → St → Prop} (F : Fx C hb prog w sc n md fl) (hh : Has σ a (.list xs)) (h : ∀ b, Fsh md σ b → Q (.ref b) { σ with own := (b, .list xs) :: σ.own }) : CallV C (.type "list") [.ref a] σ Q :=
  Call_list_list F.ok hh (by rw [F.emod]; exact h)
theorem and_lim {vs : List MV} {P : Prop} (h : vs.length ≤ lim) (h' : P) : vs.length ≤ lim ∧ P := ⟨h, h'⟩
theorem put_capt {l l₁ l₂ : Loc} {m : MV} (h1 : capt cs l = l₁) (h2 : put l₁ x m = l₂) : put (capt cs l) x m = l₂ := by rw [h1]; exact h2
theorem Ex_le {e : Expr} {l l' : Loc} {B : MH} {own : Own} {Q : MV → St → Prop} (h : l = l') (h' : Ex C e ⟨l', B, own⟩ Q) : Ex C e ⟨l, B, own⟩ Q := h ▸ h'
theorem CTs_nil {Q : Bool → St → Prop} (h : Q true σ) : CTs C [] σ Q := h
def SetG (C : Cx) (v o i : MV) (σ : St) (Q : MF → St → Prop) : Prop := ∀ s, Holds C σ s → ∀ vv vo vi, VR v vv → VR o vo → VR i vi → wpAny (model C.prog C.w) C.A (setItem vo vi vv) (fun _ s' => ∃ σ', Holds C σ' s' ∧ Q .next σ') (fun _ _ => False) s
theorem Stm_SetI {o i e : Expr} {p' pos : Pos} {Q : MF → St → Prop} (hs : swapsWith e (some (.Subscript o i p')) pos.line C.env = pure false)
    (h : Ex C e σ (fun v σ₁ => Ex C o σ₁ (fun ov σ₂ => Ex C i σ₂ (fun iv σ₃ => SetG C v ov iv σ₃ Q)))) : Stm C (.Assign [.Subscript o i p'] e pos) σ Q := Stm_SetItem hs h
theorem mem_hd {p : Addr × MO} {l : Own} : p ∈ p :: l := List.mem_cons_self
theorem mem_tl {p q : Addr × MO} {l : Own} (h : p ∈ l) : p ∈ q :: l := List.mem_cons_of_mem _ h
structure FnO (prog : Program) (w : World) (hb : Heap) (f : Str) (n : Nat) (S : Spec) : Prop where
  c : FnC prog w hb f n S
theorem Ex_CallO {f : Str} {p pos : Pos} {e : Expr} {rest : List Expr} {k : Nat} {S : Spec} {Q : MV → St → Prop} (F : Fx C hb prog w sc n md fl) (hf : FnO prog w hb f k S) (hk : sc.names.lookup f = some .globalImplicit) (hn : k ≤ n)
    (he : starEach (e :: rest) C.env = (false, eval e C.env) :: starEach rest C.env)
    (h : Exs C pos (e :: rest) σ (fun vs σ₁ => ∃ own₁ rest', σ₁.own.Perm (own₁ ++ rest') ∧ S vs σ₁.B own₁ (fun m B' own' => Q m { σ₁ with B := B', own := own' ++ rest' }))) : Ex C (.Call (.Name f p) (e :: rest) [] pos) σ Q := Ex_CallCo F hf.c hk hn he h
theorem gStm {es : Stmt} {Q : MF → St → Prop} (h : Stm C es σ Q) : Stm C es σ Q := h
theorem interactive_false (F : Fx C hb prog w sc n md fl) : interactive C.env = false := by unfold interactive; rw [F.ok.kind]; rfl
theorem mul_small {a b : Int} (h : b.natAbs < 1000000) : IntMulOk a b := IntMulOk.of_right (PyProof.Rows.intBits_le (by omega))
theorem log2_small {b : Int} (h : b.natAbs < 1073741824) : b.natAbs.log2 < 9000 := by
  by_cases h0 : b.natAbs = 0
  · rw [h0]; decide
  · have := (Nat.log2_lt h0 (k := 30)).mpr (by omega); omega
end
end
section
set_option autoImplicit false
set_option linter.unusedVariables false
set_option linter.unusedSimpArgs false
open PySem

section
variable {C : Cx} {hb : Heap} {σ : St} {prog : Program} {w : World} {sc cs : Scope} {n : Nat} {md : List Addr} {fl : Bool} {x : Str}

theorem look_append {l r : Loc} {y : Str} {v : MV} (h : look l y = some v) : look (l ++ r) y = some v := by
  induction l with
  | nil => simp [look] at h
  | cons p l ih =>
    obtain ⟨z, u⟩ := p
    simp only [List.cons_append, look] at h ⊢
    split
    · rename_i e; rw [if_pos e] at h; exact h
    · rename_i e; rw [if_neg e] at h; exact ih h
theorem Cv.pre {l₀ l : Loc} (r : Loc) {B : MH} {own : Own} (h : l₀ = l ++ r) : Cv md ⟨l₀, B, own⟩ ⟨l, B, own⟩ := .loc fun y v hy => h ▸ look_append hy
theorem Cv.none {l : Loc} {B : MH} {own : Own} : Cv md ⟨l, B, own⟩ ⟨l, B, []⟩ := .own (List.nil_sublist _)
theorem Cv.tl {l : Loc} {B : MH} {own : Own} {p : Addr × MO} : Cv md ⟨l, B, p :: own⟩ ⟨l, B, own⟩ := .own (List.sublist_cons_self ..)
theorem Store_cv {y : Str} {m : MV} {σ' : St} {Q : St → Prop} (F : Fx C hb prog w sc n md fl) (c : Cv md σ σ') (h : Store C y m σ' Q) : Store C y m σ Q := fun v hv => Tr.cv F c (h v hv)
theorem Ts_cv {e : Expr} {σ' : St} {Q : Bool → St → Prop} (F : Fx C hb prog w sc n md fl) (c : Cv md σ σ') (h : Ts C e σ' Q) : Ts C e σ Q := Tr.cv F c h

/-- a turn's end -/
def Tn (md : List Addr) (J : St → Prop) (σ : St) : Prop := ∃ σ₀, Cv md σ σ₀ ∧ J σ₀

theorem Stm_ForC {px pos : Pos} {iter : Expr} {body orelse : List Stmt} {Q : MF → St → Prop} (F : Fx C hb prog w sc n md fl) (hs : ∀ v, foldedSetIterable iter C.env v = pure v)
    (h : Ex C iter σ (fun v σ₁ => ∃ (items : List MV) (J : Nat → St → Prop), Itr σ₁ v items ∧ Tn md (J 0) σ₁ ∧
      (∀ C', Fx C' hb prog w sc n md fl → ∀ i σ' m, J i σ' → items[i]? = some m → Store C' x m σ' (fun σ₂ => Sts C' body σ₂ (fun f σ₃ => match f with | .next => Tn md (J (i + 1)) σ₃ | .ret v => Q (.ret v) σ₃))) ∧
      (∀ C', Fx C' hb prog w sc n md fl → ∀ σ', J items.length σ' → Sts C' orelse σ' Q))) : Stm C (.For (.Name x px) iter body orelse pos) σ Q := by
  refine Stm_For F hs (Tr.mono h fun v σ₁ ⟨items, J, it, J0, turn, fin⟩ => ⟨items, fun i => Tn md (J i), it, J0, ?_, ?_⟩)
  · intro C' F' i σ' m ⟨σ₀, c, hJ⟩ hm
    exact Store_cv F' c (turn C' F' i σ₀ m hJ hm)
  · intro C' F' σ' ⟨σ₀, c, hJ⟩
    exact Sts_cv F' c (fin C' F' σ₀ hJ)

theorem Stm_WhileC {test : Expr} {body orelse : List Stmt} {pos : Pos} {Q : MF → St → Prop} (F : Fx C hb prog w sc n md fl) (I : Nat → St → Prop)
    (turn : ∀ k σ', I k σ' → Ts C test σ' (fun b σ₁ => if b then Sts C body σ₁ (fun f σ₂ => match f with | .next => Tn md (fun σ₃ => ∃ m, m < k ∧ I m σ₃) σ₂ | .ret v => Q (.ret v) σ₂) else Sts C orelse σ₁ Q))
    (k : Nat) (h : Tn md (I k) σ) : Stm C (.While test body orelse pos) σ Q := by
  refine Stm_While (fun k => Tn md (I k)) ?_ k h
  rintro k σ' ⟨σ₀, c, hI⟩
  refine Ts_cv F c (Tr.mono (turn k σ₀ hI) fun b σ₁ hb' => ?_)
  cases b with
  | false => exact hb'
  | true =>
    refine Tr.mono (show Sts C body σ₁ _ from hb') fun f σ₂ h₂ => ?_
    cases f with
    | next => obtain ⟨σ₃, c', m, hm, hI'⟩ := h₂; exact ⟨m, hm, σ₃, c', hI'⟩
    | ret v => exact h₂

def TurnsC (hb : Heap) (prog : Program) (w : World) (sc cs : Scope) (n : Nat) (md : List Addr) (x : Str) (ifs : List Expr) (elt : Expr) (items : List MV) (l : Loc) (J : Nat → List MV → MH → Own → Prop) : Prop :=
  ∀ C', Fx C' hb prog w (relab cs sc) n md false → ∀ i ys B own m, J i ys B own → items[i]? = some m →
      CTs C' ifs ⟨put (capt cs l) x m, B, own⟩ (fun ok σ₁ => if ok then Ex C' elt σ₁ (fun y σ₂ => ∃ σ₃, Cv md σ₂ σ₃ ∧ J (i + 1) (ys ++ [y]) σ₃.B σ₃.own) else ∃ σ₃, Cv md σ₁ σ₃ ∧ J (i + 1) ys σ₃.B σ₃.own)

theorem Tr.post {α β : Type} {t : Sem α} {R : β → α → Prop} {Q : β → St → Prop} (F : Fx C hb prog w sc n md fl) (h : Tr C t R σ (fun b σ' => ∃ σ'', Cv md σ' σ'' ∧ Q b σ'')) : Tr C t R σ Q := fun s H =>
  wpAny_mono (h s H) (fun a s' ⟨b, σ', hr, H', σ'', c, hq⟩ => ⟨b, σ'', hr, c.holds F.ok F.emod H', hq⟩) fun _ _ x => x
theorem turns_of {ifs : List Expr} {elt : Expr} {items : List MV} {l : Loc} {J : Nat → List MV → MH → Own → Prop} (h : TurnsC hb prog w sc cs n md x ifs elt items l J) :
    CompTurns hb prog w sc cs n md x ifs elt items (fun i ys σ => σ.loc = l ∧ J i ys σ.B σ.own) := by
  intro C' F' i ys σ' m ⟨hl, hJ⟩ hm
  have key := h C' F' i ys σ'.B σ'.own m hJ hm
  subst hl
  have : ∀ (ifs : List Expr) (σ₁ : St), CTs C' ifs σ₁ (fun ok σ₁ => if ok then Ex C' elt σ₁ (fun y σ₂ => ∃ σ₃, Cv md σ₂ σ₃ ∧ J (i + 1) (ys ++ [y]) σ₃.B σ₃.own) else ∃ σ₃, Cv md σ₁ σ₃ ∧ J (i + 1) ys σ₃.B σ₃.own) →
      CTs C' ifs σ₁ (fun ok σ₁ => if ok then Ex C' elt σ₁ (fun y σ₂ => σ'.loc = σ'.loc ∧ J (i + 1) (ys ++ [y]) σ₂.B σ₂.own) else σ'.loc = σ'.loc ∧ J (i + 1) ys σ₁.B σ₁.own) := by
    intro ifs
    induction ifs with
    | nil =>
      intro σ₁ h
      have h' : Ex C' elt σ₁ (fun y σ₂ => ∃ σ₃, Cv md σ₂ σ₃ ∧ J (i + 1) (ys ++ [y]) σ₃.B σ₃.own) := h
      have h2 : Ex C' elt σ₁ (fun y σ₂ => σ'.loc = σ'.loc ∧ J (i + 1) (ys ++ [y]) σ₂.B σ₂.own) := Tr.post F' (Tr.mono h' fun y σ₄ ⟨σ₃, c3, hj⟩ => ⟨σ₃, c3, rfl, hj⟩)
      exact h2
    | cons t r ih =>
      intro σ₁ h
      refine Tr.post F' (Tr.mono (show Ts C' t σ₁ _ from h) fun b σ₄ h₄ => ?_)
      cases b with
      | true => exact ⟨σ₄, .refl _, ih σ₄ h₄⟩
      | false => obtain ⟨σ₃, c3, hj⟩ := (h₄ : ∃ σ₃, Cv md σ₄ σ₃ ∧ _); exact ⟨σ₃, c3, rfl, hj⟩
  exact this ifs _ key

def CompPost (hb : Heap) (prog : Program) (w : World) (sc cs : Scope) (n : Nat) (md : List Addr) (x : Str) (ifs : List Expr) (elt : Expr) (R : List MV → MH → Own → Loc → Prop) (v : MV) (σ₁ : St) : Prop :=
  ∃ (items : List MV) (J : Nat → List MV → MH → Own → Prop), Itr σ₁ v items ∧ items.length ≤ lim ∧ J 0 [] σ₁.B σ₁.own ∧ TurnsC hb prog w sc cs n md x ifs elt items σ₁.loc J ∧ ∀ ys B own, J items.length ys B own → R ys B own σ₁.loc

theorem Ex_Comp {elt iter : Expr} {px pos : Pos} {ifs : List Expr} {Q : MV → St → Prop} (F : Fx C hb prog w sc n md fl) (K : CompOk cs sc x) (hs : ∀ v, foldedSetIterable iter C.env v = pure v)
    (h : Ex C iter σ (CompPost hb prog w sc cs n md x ifs elt (fun ys B own l => ∀ a, Fsh md ⟨l, B, own⟩ a → Q (.ref a) ⟨l, B, (a, .list ys) :: own⟩))) : Ex C (.ListComp elt [⟨.Name x px, iter, ifs, 0⟩] cs pos) σ Q := by
  refine Ex_ListComp F K hs (Tr.mono h fun v σ₁ ⟨items, J, it, hl, J0, turn, fin⟩ => ⟨items, _, it, hl, ⟨rfl, J0⟩, turns_of turn, ?_⟩)
  rintro ys ⟨l, B, own⟩ ⟨hl', hJ⟩ a ha
  dsimp only at hl' hJ
  subst hl'
  exact fin ys B own hJ a ha
theorem Stm_Comp {elt iter : Expr} {y : Str} {py px pos spos : Pos} {ifs : List Expr} {Q : MF → St → Prop} (F : Fx C hb prog w sc n md fl) (K : CompOk cs sc x) (hs : ∀ v, foldedSetIterable iter C.env v = pure v)
    (hsw : swapsWith (.ListComp elt [⟨.Name x px, iter, ifs, 0⟩] cs pos) (some (.Name y py)) spos.line C.env = pure true)
    (h : Ex C iter σ (CompPost hb prog w sc cs n md x ifs elt (fun ys B own l => ∀ C', Fx C' hb prog w sc n md fl → ∀ a, Fsh md ⟨l, B, own⟩ a → Store C' y (.ref a) ⟨l, B, (a, .list ys) :: own⟩ (fun σ'' => Q .next σ'')))) :
    Stm C (.Assign [.Name y py] (.ListComp elt [⟨.Name x px, iter, ifs, 0⟩] cs pos) spos) σ Q := by
  refine Stm_AssignComp F K hs hsw (Tr.mono h fun v σ₁ ⟨items, J, it, hl, J0, turn, fin⟩ => ⟨items, _, it, hl, ⟨rfl, J0⟩, turns_of turn, ?_⟩)
  rintro C' F' ys ⟨l, B, own⟩ ⟨hl', hJ⟩ a ha
  dsimp only at hl' hJ
  subst hl'
  exact fin ys B own hJ C' F' a ha
theorem if_ntrue {p : Prop} [Decidable p] {A B : Prop} (hp : p) (h : B) : if (!decide p) = true then A else B := by rw [if_neg (by simp [hp])]; exact h
theorem if_nfalse {p : Prop} [Decidable p] {A B : Prop} (hp : ¬ p) (h : A) : if (!decide p) = true then A else B := by rw [if_pos (by simp [hp])]; exact h
def App2 (C : Cx) (a : Addr) (v : MV) (σ : St) (Q : MV → St → Prop) : Prop := ∃ ys own', Upd σ.own a (.list ys) (.list (ys ++ [v])) own' ∧ ys.length + 1 ≤ lim ∧ Q .none { σ with own := own' }
def AppG (C : Cx) (ov : MV) (e : Expr) (σ : St) (Q : MV → St → Prop) : Prop := ∃ a xs, ov = .ref a ∧ Has σ a (.list xs) ∧ Ex C e σ (fun v σ₂ => App2 C a v σ₂ Q)
theorem Ex_appG {o e : Expr} {apos pos : Pos} {Q : MV → St → Prop} (F : Fx C hb prog w sc n md fl) (hbase : attributeBase o "append" C.env (eval o C.env) = eval o C.env) (hline : (apos.endLine == pos.line) = true)
    (he : backTo pos (starEach [e] C.env) = [(false, eval e C.env)]) (h : Ex C o σ (fun ov σ₁ => AppG C ov e σ₁ Q)) : Ex C (.Call (.Attribute o "append" apos) [e] [] pos) σ Q := Ex_append F.ok hbase hline he h
theorem AppG_i {a : Addr} {xs : List MV} {e : Expr} {Q : MV → St → Prop} (hh : Has σ a (.list xs)) (h : Ex C e σ (fun v σ₂ => App2 C a v σ₂ Q)) : AppG C (.ref a) e σ Q := ⟨a, xs, rfl, hh, h⟩
theorem App2_i {a : Addr} {v : MV} {ys : List MV} {own' : Own} {Q : MV → St → Prop} (u : Upd σ.own a (.list ys) (.list (ys ++ [v])) own') (hl : ys.length + 1 ≤ lim) (h : Q .none { σ with own := own' }) : App2 C a v σ Q := ⟨ys, own', u, hl, h⟩
theorem SubG_ro {a : Addr} {xs : List MV} {k : Int} {m : MV} {Q : MV → St → Prop} (hh : Has σ a (.ro xs)) (h0 : 0 ≤ k) (hm : xs[k.toNat]? = some m) (h : Q m σ) : SubG C (.ref a) (.int k) σ Q := fun s H vo vi ho hi => by
  obtain rfl : vo = .ref a := ho
  obtain ⟨t, rfl⟩ := hi
  obtain ⟨vs, hl, hr, hlim⟩ := H.has hh
  obtain ⟨v, hv, hvr⟩ := hr.get hm
  have hlt : k.toNat < xs.length := (List.getElem?_eq_some_iff.mp hm).1
  refine ⟨"list", _, hl.typeIs, list_getitem_lookup, wpAny_getItem_list hl h0 ?_ (by rw [← Array.getElem?_toList]; exact hv) ⟨m, σ, hvr, H, h⟩⟩
  unfold lim at hlim; omega
theorem Call_len_ro {a : Addr} {xs : List MV} {Q : MV → St → Prop} (hh : Has σ a (.ro xs)) (h : Q (.int xs.length) σ) : CallV C (.builtin "len") [.ref a] σ Q := fun vs hvs s H => by
  obtain ⟨v, rfl, hv⟩ := hvs.one
  obtain rfl : v = .ref a := hv
  obtain ⟨vs, hl, hr, hlim⟩ := H.has hh
  have hsz : vs.size = xs.length := by have := hr.length; simp at this; exact this.symm
  refine Calls.call_len_list hl (by rw [hsz]; exact lim_lt63 hlim) ⟨.int xs.length, σ, ?_, H.toks _, h⟩
  rw [hsz]; exact ⟨_, rfl⟩
end
end
section
set_option autoImplicit false
set_option linter.unusedVariables false
set_option linter.unusedSimpArgs false
open PySem PySem.SeqAt

/-! dictionaries -/
abbrev KV := List (Option Int × MV)
def dget : KV → Option Int → Option MV
  | [], _ => none
  | (y, v) :: r, x => if y = x then some v else dget r x
def dput : KV → Option Int → MV → KV
  | [], x, v => [(x, v)]
  | (y, u) :: r, x, v => if y = x then (y, v) :: r else (y, u) :: dput r x v

theorem KVR.inv {p : Option Int × MV} {kvs : KV} {vk : List (Option Int × Value)} (h : KVR (p :: kvs) vk) : ∃ q vk', vk = q :: vk' ∧ p.1 = q.1 ∧ VR p.2 q.2 ∧ KVR kvs vk' := by
  obtain ⟨hk, hv⟩ := h
  cases vk with
  | nil => simp at hk
  | cons q vk' =>
    simp only [List.map_cons, List.cons.injEq] at hk hv
    cases hv with
    | cons h1 h2 => exact ⟨q, vk', rfl, hk.1, h1, hk.2, h2⟩
theorem KVR.cons {p : Option Int × MV} {q : Option Int × Value} {kvs : KV} {vk : List (Option Int × Value)} (h1 : p.1 = q.1) (h2 : VR p.2 q.2) (h : KVR kvs vk) : KVR (p :: kvs) (q :: vk) :=
  ⟨by simp [h1, h.k], .cons h2 h.v⟩
theorem KVR.nil : KVR [] [] := ⟨rfl, .nil⟩
theorem KVR.length {kvs : KV} {vk : List (Option Int × Value)} (h : KVR kvs vk) : kvs.length = vk.length := by have := congrArg List.length h.k; simpa using this
theorem KVR.none {kvs : KV} : ∀ {vk : List (Option Int × Value)}, KVR kvs vk → ∀ {k : Option Int}, dget kvs k = .none → valueAt vk k = .none := by
  induction kvs with
  | nil => intro vk h k _; cases vk with
    | nil => rfl
    | cons q vk => have := h.k; simp at this
  | cons p kvs ih =>
    intro vk h k hg
    obtain ⟨q, vk', rfl, h1, h2, h3⟩ := h.inv
    obtain ⟨y, v⟩ := p
    simp only [dget] at hg
    split at hg
    · cases hg
    · rename_i hne
      have := ih h3 hg
      unfold valueAt at this ⊢
      rw [List.find?_cons_of_neg (by simp only [decide_eq_true_eq]; intro e; exact hne (h1.trans e))]
      exact this
theorem KVR.some {kvs : KV} : ∀ {vk : List (Option Int × Value)}, KVR kvs vk → ∀ {k : Option Int} {m : MV}, dget kvs k = .some m → ∃ v, valueAt vk k = .some v ∧ VR m v := by
  induction kvs with
  | nil => intro vk h k m hg; simp [dget] at hg
  | cons p kvs ih =>
    intro vk h k m hg
    obtain ⟨q, vk', rfl, h1, h2, h3⟩ := h.inv
    obtain ⟨y, v⟩ := p
    simp only [dget] at hg
    split at hg
    · rename_i e
      cases hg
      refine ⟨q.2, ?_, h2⟩
      unfold valueAt
      rw [List.find?_cons_of_pos (by simp only [decide_eq_true_eq]; exact h1.symm.trans e)]
      rfl
    · rename_i hne
      obtain ⟨v', hv', hr⟩ := ih h3 hg
      refine ⟨v', ?_, hr⟩
      unfold valueAt at hv' ⊢
      rw [List.find?_cons_of_neg (by simp only [decide_eq_true_eq]; intro e; exact hne (h1.trans e))]
      exact hv'
theorem KVR.isSome {kvs : KV} {vk : List (Option Int × Value)} (h : KVR kvs vk) (k : Option Int) : (valueAt vk k).isSome = (dget kvs k).isSome := by
  cases e : dget kvs k with
  | none => rw [h.none e]; rfl
  | some m => obtain ⟨v, hv, _⟩ := h.some e; rw [hv]; rfl
theorem stored_cons_eq {q : Option Int × Value} {vk : List (Option Int × Value)} {k : Option Int} {v : Value} (hn : ((q :: vk).map (·.1)).Nodup) (e : q.1 = k) : stored (q :: vk) k v = (q.1, v) :: vk := by
  unfold stored
  rw [if_pos (by simp [e])]
  rw [List.map_cons, if_pos e]
  congr 1
  refine map_store_of_not_mem vk k v ?_
  subst e
  simp only [List.map_cons, List.nodup_cons] at hn
  exact hn.1
theorem stored_cons_ne {q : Option Int × Value} {vk : List (Option Int × Value)} {k : Option Int} {v : Value} (e : q.1 ≠ k) : stored (q :: vk) k v = q :: stored vk k v := by
  unfold stored
  have : (q :: vk).any (fun kv => decide (kv.1 = k)) = vk.any (fun kv => decide (kv.1 = k)) := by simp [e]
  rw [this]
  split
  · rw [List.map_cons, if_neg e]
  · rfl
theorem KVR.put {kvs : KV} : ∀ {vk : List (Option Int × Value)}, KVR kvs vk → (vk.map (·.1)).Nodup → ∀ {k : Option Int} {m : MV} {v : Value}, VR m v → KVR (dput kvs k m) (stored vk k v) := by
  induction kvs with
  | nil => intro vk h hn k m v hv; cases vk with
    | nil => exact ⟨rfl, .cons hv .nil⟩
    | cons q vk => have := h.k; simp at this
  | cons p kvs ih =>
    intro vk h hn k m v hv
    obtain ⟨q, vk', rfl, h1, h2, h3⟩ := h.inv
    obtain ⟨y, u⟩ := p
    simp only [dput]
    split
    · rename_i e
      rw [stored_cons_eq hn (h1.symm.trans e)]
      exact .cons h1 hv h3
    · rename_i e
      rw [stored_cons_ne (fun e' => e (h1.trans e'))]
      exact .cons h1 h2 (ih h3 (by simp only [List.map_cons, List.nodup_cons] at hn; exact hn.2) hv)
theorem dput_length (kvs : KV) (k : Option Int) (m : MV) : (dput kvs k m).length ≤ kvs.length + 1 := by
  induction kvs with
  | nil => simp [dput]
  | cons p kvs ih => obtain ⟨y, u⟩ := p; simp only [dput]; split <;> simp <;> omega
theorem keyIs_of {k : Option Int} {v : Value} (h : VR (keyMV k) v) : keyIs k v = true := by
  cases k with
  | none => obtain rfl : v = .none := h; rfl
  | some i => obtain ⟨t, rfl⟩ := h; simp [keyIs, Value.isInt]

def mvOf : Value → MV
  | .none => .none
  | .bool b => .bool b
  | .int i _ => .int i
  | .str x _ => .str x
  | .ref a => .ref a
  | v => .oth v
theorem mvOf_of {m : MV} {v : Value} (h : VR m v) (hm : ∀ u, m ≠ .oth u) : mvOf v = m := by
  cases m with
  | none => obtain rfl : v = _ := h; rfl
  | bool b => obtain rfl : v = _ := h; rfl
  | int i => obtain ⟨t, rfl⟩ := h; rfl
  | str x => obtain ⟨t, rfl⟩ := h; rfl
  | ref a => obtain rfl : v = _ := h; rfl
  | oth u => exact absurd rfl (hm u)
theorem vsR_any {xs : List MV} {vs : List Value} (h : VsR xs vs) (e : MV → Bool) (hx : ∀ y ∈ xs, ∀ u, y ≠ .oth u) : (∀ v ∈ vs, VR (mvOf v) v ∧ mvOf v ∈ xs) ∧ vs.any (fun v => e (mvOf v)) = xs.any e := by
  induction h with
  | nil => exact ⟨fun v hv => (nomatch hv), rfl⟩
  | @cons m v ms vs' hv hvs ih =>
    have e1 := mvOf_of hv (hx m List.mem_cons_self)
    obtain ⟨i1, i2⟩ := ih fun y hy => hx y (List.mem_cons_of_mem _ hy)
    refine ⟨fun u hu => ?_, by simp only [List.any_cons, e1, i2]⟩
    rcases List.mem_cons.mp hu with rfl | hu
    · rw [e1]; exact ⟨hv, List.mem_cons_self⟩
    · exact ⟨(i1 u hu).1, List.mem_cons_of_mem _ (i1 u hu).2⟩

section
variable {C : Cx} {hb : Heap} {σ : St} {prog : Program} {w : World} {sc cs : Scope} {n : Nat} {md : List Addr} {fl : Bool} {x : Str}

theorem Cmp_inD {k : Option Int} {d : Addr} {kvs : KV} {Q : MV → St → Prop} (hh : Has σ d (.dict kvs)) (h : Q (.bool (dget kvs k).isSome) σ) : Cmp C .In (keyMV k) (.ref d) σ Q := fun va vb ha hb' s H => by
  obtain rfl : vb = .ref d := hb'
  obtain ⟨hms, vk, ⟨p0, w0, hdo⟩, hkv, hlim⟩ := H.has hh
  have hm := (dictOf_any (p' := C.prog) (w' := C.w) hdo).mapOf
  refine wpAny_in_of (k := k) (keyIs_of ha) hms hm ?_
  rw [hkv.isSome]
  exact ⟨.bool _, σ, rfl, H.toks _, h⟩
theorem Cmp_notInD {k : Option Int} {d : Addr} {kvs : KV} {Q : MV → St → Prop} (hh : Has σ d (.dict kvs)) (h : Q (.bool (!(dget kvs k).isSome)) σ) : Cmp C .NotIn (keyMV k) (.ref d) σ Q := fun va vb ha hb' s H => by
  obtain rfl : vb = .ref d := hb'
  obtain ⟨hms, vk, ⟨p0, w0, hdo⟩, hkv, hlim⟩ := H.has hh
  have hm := (dictOf_any (p' := C.prog) (w' := C.w) hdo).mapOf
  refine wpAny_notIn_of (k := k) (keyIs_of ha) hms hm ?_
  rw [hkv.isSome]
  exact ⟨.bool _, σ, rfl, H.toks _, h⟩
theorem Cmp_inDi {i : Int} {d : Addr} {kvs : KV} {Q : MV → St → Prop} (hh : Has σ d (.dict kvs)) (h : Q (.bool (dget kvs (some i)).isSome) σ) : Cmp C .In (.int i) (.ref d) σ Q := Cmp_inD (k := some i) hh h
theorem Cmp_notInDi {i : Int} {d : Addr} {kvs : KV} {Q : MV → St → Prop} (hh : Has σ d (.dict kvs)) (h : Q (.bool (!(dget kvs (some i)).isSome)) σ) : Cmp C .NotIn (.int i) (.ref d) σ Q := Cmp_notInD (k := some i) hh h
theorem SubG_dict {k : Option Int} {d : Addr} {kvs : KV} {m : MV} {Q : MV → St → Prop} (hh : Has σ d (.dict kvs)) (hm : dget kvs k = some m) (h : Q m σ) : SubG C (.ref d) (keyMV k) σ Q := fun s H vo vi ho hi => by
  obtain rfl : vo = .ref d := ho
  obtain ⟨hms, vk, ⟨p0, w0, hdo⟩, hkv, hlim⟩ := H.has hh
  have hd := dictOf_any (p' := C.prog) (w' := C.w) hdo
  obtain ⟨v, hv, hr⟩ := hkv.some hm
  exact ⟨"dict", _, hd.typeIs, slot_dict_getitem.lookup, wpAny_getItem_of (keyIs_of hi) hd.mapOf hv ⟨m, σ, hr, H.toks _, h⟩⟩
theorem SubG_dicti {i : Int} {d : Addr} {kvs : KV} {m : MV} {Q : MV → St → Prop} (hh : Has σ d (.dict kvs)) (hm : dget kvs (some i) = some m) (h : Q m σ) : SubG C (.ref d) (.int i) σ Q := SubG_dict (k := some i) hh hm h
theorem SetG_dict {a : Addr} {kvs : KV} {k : Option Int} {m : MV} {own' : Own} {Q : MF → St → Prop} (F : Fx C hb prog w sc n md fl) (u : Upd σ.own a (.dict kvs) (.dict (dput kvs k m)) own') (hl : kvs.length + 1 ≤ lim) (h : Q .next { σ with own := own' }) :
    SetG C m (.ref a) (keyMV k) σ Q := fun s H vv vo vi hv ho hi => by
  obtain rfl : vo = .ref a := ho
  obtain ⟨hms, vk, ⟨p0, w0, hdo⟩, hkv, hlim⟩ := H.own _ u.mem
  have hd := dictOf_any (p' := C.prog) (w' := C.w) hdo
  have hn : (vk.map (·.1)).Nodup := let ⟨_, _, _, _, _, _, _, _, hn⟩ := hd; hn
  refine wpAny_setItem_pairs (k := k) (keyIs_of hi) hd (fun h' hd' hs => ?_) (by rw [← hkv.length]; exact Nat.le_trans hlim lim_le)
  refine ⟨_, H.upd F.ok u (fun b ob hb' e => (hs.2 b hb').trans e) ⟨hms, _, ⟨_, _, hd'⟩, hkv.put hn hv, Nat.le_trans (dput_length ..) hl⟩ rfl rfl, h⟩
theorem SetG_dicti {a : Addr} {kvs : KV} {k : Int} {m : MV} {own' : Own} {Q : MF → St → Prop} (F : Fx C hb prog w sc n md fl) (u : Upd σ.own a (.dict kvs) (.dict (dput kvs (some k) m)) own') (hl : kvs.length + 1 ≤ lim) (h : Q .next { σ with own := own' }) :
    SetG C m (.ref a) (.int k) σ Q := SetG_dict (k := some k) F u hl h
theorem Holds.noModules {s : Shared} (H : Holds C σ s) (OK : C.Ok hb) (hl : hb.NoLimit) : (s.heap.objs.size == sysModules) = false := size_ne_modules (hl.keeps fun b o hb' => H.kp b o (OK.base b o hb'))
theorem Ex_Dict0 {pos : Pos} {Q : MV → St → Prop} (F : Fx C hb prog w sc n md fl) (hl : hb.NoLimit) (h : ∀ d, Fsh md σ d → Q (.ref d) { σ with own := (d, .dict []) :: σ.own }) : Ex C (.Dict [] [] pos) σ Q := fun s H =>
  wpAny_Dict_empty ⟨.ref _, _, rfl, H.new (mo := .dict []) ⟨H.noModules F.ok hl, [], ⟨C.prog, C.w, Heap.DictOf.new s.heap⟩, .nil, Nat.zero_le _⟩, h _ (F.emod ▸ H.fsh F.ok)⟩
theorem Ex_Dict1 {ke ve : Expr} {pos : Pos} {Q : MV → St → Prop} (F : Fx C hb prog w sc n md fl) (hl : hb.NoLimit)
    (h : ∀ d, Fsh md σ d → Ex C ke { σ with own := (d, .dict []) :: σ.own } (fun k σ₁ => Ex C ve σ₁ (fun v σ₂ => ∃ i own', k = .int i ∧ Upd σ₂.own d (.dict []) (.dict [(some i, v)]) own' ∧ Q (.ref d) { σ₂ with own := own' }))) :
    Ex C (.Dict [some ke] [ve] pos) σ Q := fun s H => by
  have H0 := H.new (mo := .dict []) ⟨H.noModules F.ok hl, [], ⟨C.prog, C.w, Heap.DictOf.new s.heap⟩, .nil, Nat.zero_le _⟩
  refine wpAny_Dict_pairs (knd := optKind C.prog C.w) (pairs := [(eval ke C.env, do let x ← eval ve C.env; standAt pos; pure x)]) rfl (by simp) (by simp) (evalPairs_cons (wpAny_mono (h _ (F.emod ▸ H.fsh F.ok) _ H0) (fun kv s₁ hpat => ?_) fun _ _ x => x))
  obtain ⟨k, σ₁, hk, H₁, h₁⟩ := hpat
  refine wpAny_bind (wpAny_mono (h₁ s₁ H₁) (fun vv s₂ hpat => ?_) fun _ _ x => x)
  obtain ⟨v, σ₂, hv, H₂, i, own', ek, u, hq⟩ := hpat
  subst ek
  refine wpAny_bind (wpAny_standAt (wpAny_pure (evalPairs_nil ?_)))
  obtain ⟨hms, vk, ⟨p0, w0, hdo⟩, hkv, hlim⟩ := H₂.own _ u.mem
  have hd := dictOf_any (p' := C.prog) (w' := C.w) hdo
  have hvk : vk = [] := by have := hkv.length; cases vk with | nil => rfl | cons _ _ => simp at this
  subst hvk
  refine ⟨[(some i, vv)], ⟨keyIs_of (k := some i) hk, rfl, trivial⟩, hd, fun h' hd' hs => ?_⟩
  refine ⟨.ref _, _, rfl, (H₂.upd F.ok u (s' := { s₂ with heap := h', toks := s₂.toks + _ }) (fun b ob hb' e => (hs.2 b hb').trans e) ⟨hms, [(some i, vv)], ⟨_, _, hd'⟩, .cons rfl hv .nil, by simp [lim]⟩ rfl rfl), hq⟩

/-! lists -/
theorem Ex_pop {o : Expr} {apos pos : Pos} {Q : MV → St → Prop} (F : Fx C hb prog w sc n md fl) (hbase : attributeBase o "pop" C.env (eval o C.env) = eval o C.env) (hline : (apos.endLine == pos.line) = true)
    (h : Ex C o σ (fun ov σ₁ => ∃ a xs m own', ov = .ref a ∧ Upd σ₁.own a (.list (xs ++ [m])) (.list xs) own' ∧ Q m { σ₁ with own := own' })) :
    Ex C (.Call (.Attribute o "pop" apos) [] [] pos) σ Q := fun s H => by
  refine wpAny_Call_method0_late hbase hline (wpAny_mono (h s H) (fun vo s₁ hpat => ?_) fun _ _ x => x)
  obtain ⟨ov, σ₁, ho, H₁, a, xs, m, own', e1, u, hq⟩ := hpat
  subst e1
  obtain rfl : vo = .ref a := ho
  obtain ⟨vs, nn, hob, hr, hlim⟩ := H₁.own _ u.mem
  have hsz : vs.size = xs.length + 1 := by have := hr.length; simp at this; exact this.symm
  obtain ⟨v, hv, hvr⟩ := hr.get (i := xs.length) (m := m) (by simp)
  refine ⟨"list", _, PySem.F.plainAttrs_list, PySem.F.slot_list_pop, PySem.F.type_list_pop, ⟨_, hob, rfl⟩, fun b e' => by cases e'; exact ⟨_, hob, rfl⟩, ?_⟩
  refine P.pop_list hob (y := v) (by rw [hsz, ← Array.getElem?_toList]; simpa using hv) ⟨m, _, hvr, H₁.upd F.ok u (fun b ob hb' e' => by rw [Heap.get?_update_other _ _ (Ne.symm hb')]; exact e') ?_ rfl rfl, hq⟩ (by rw [hsz]; simp at hlim; exact Nat.le_trans hlim lim_le)
  refine ⟨vs.eraseIdxIfInBounds (vs.size - 1), _, IsL.update hob fun xs => xs.eraseIdxIfInBounds (vs.size - 1), ?_, by simp at hlim; omega⟩
  have e : (vs.eraseIdxIfInBounds (vs.size - 1)).toList = vs.toList.take xs.length := by
    unfold Array.eraseIdxIfInBounds
    rw [dif_pos (by omega)]
    rw [Array.toList_eraseIdx, hsz, List.eraseIdx_eq_take_drop_succ]
    simp [hsz]
  rw [e]
  have := hr.take xs.length
  simpa using this
theorem EqM.noOth {m m' : MV} {b : Bool} (h : EqM σ m m' b) : ∀ u, m ≠ .oth u := fun u e => by subst e; cases h
theorem Cmp_inL {a : Addr} {xs : List MV} {m : MV} (e : MV → Bool) {Q : MV → St → Prop} (hh : Has σ a (.list xs)) (he : ∀ y ∈ xs, EqM σ y m (e y)) (h : Q (.bool (xs.any e)) σ) : Cmp C .In m (.ref a) σ Q := fun va vb ha hb' s H => by
  obtain rfl : vb = .ref a := hb'
  obtain ⟨vs, nn, hob, hr, hlim⟩ := H.has hh
  obtain ⟨h1, h2⟩ := vsR_any hr e fun y hy => (he y hy).noOth
  refine in_listAt (fun v => e (mvOf v)) ⟨_, hob, rfl, nn, rfl⟩ (fun y hy => ?_) ⟨.bool _, σ, rfl, H, by rw [← Array.any_toList, h2]; exact h⟩
  obtain ⟨g1, g2⟩ := h1 y (by simpa using hy)
  exact (he _ g2).at H g1 ha _
theorem Cmp_notInL {a : Addr} {xs : List MV} {m : MV} (e : MV → Bool) {Q : MV → St → Prop} (hh : Has σ a (.list xs)) (he : ∀ y ∈ xs, EqM σ y m (e y)) (h : Q (.bool (!xs.any e)) σ) : Cmp C .NotIn m (.ref a) σ Q := fun va vb ha hb' s H => by
  obtain rfl : vb = .ref a := hb'
  obtain ⟨vs, nn, hob, hr, hlim⟩ := H.has hh
  obtain ⟨h1, h2⟩ := vsR_any hr e fun y hy => (he y hy).noOth
  refine notIn_listAt (fun v => e (mvOf v)) ⟨_, hob, rfl, nn, rfl⟩ (fun y hy => ?_) ⟨.bool _, σ, rfl, H, by rw [← Array.any_toList, h2]; exact h⟩
  obtain ⟨g1, g2⟩ := h1 y (by simpa using hy)
  exact (he _ g2).at H g1 ha _
theorem Cmp_inLi {a : Addr} {ns : List Int} {i : Int} {Q : MV → St → Prop} (hh : Has σ a (.list (ns.map MV.int))) (h : Q (.bool (decide (i ∈ ns))) σ) : Cmp C .In (.int i) (.ref a) σ Q := by
  refine Cmp_inL (fun y => match y with | .int j => decide (j = i) | _ => false) hh (fun y hy => ?_) ?_
  · obtain ⟨j, hj, rfl⟩ := List.mem_map.mp hy; exact .int j i
  · have e : (ns.map MV.int).any (fun y => match y with | .int j => decide (j = i) | _ => false) = decide (i ∈ ns) := by
      rw [List.any_map]; rw [Bool.eq_iff_iff]; simp
    rw [e]; exact h
theorem Cmp_notInLi {a : Addr} {ns : List Int} {i : Int} {Q : MV → St → Prop} (hh : Has σ a (.list (ns.map MV.int))) (h : Q (.bool (!decide (i ∈ ns))) σ) : Cmp C .NotIn (.int i) (.ref a) σ Q := by
  refine Cmp_notInL (fun y => match y with | .int j => decide (j = i) | _ => false) hh (fun y hy => ?_) ?_
  · obtain ⟨j, hj, rfl⟩ := List.mem_map.mp hy; exact .int j i
  · have e : (ns.map MV.int).any (fun y => match y with | .int j => decide (j = i) | _ => false) = decide (i ∈ ns) := by
      rw [List.any_map]; rw [Bool.eq_iff_iff]; simp
    rw [e]; exact h
theorem Holds.newIn {s s' : Shared} {mo : MO} (H : Holds C σ s) (e : ∀ b o, s.heap.get? b = some o → s'.heap.get? b = some o) (hg : s'.gens = s.gens) (hos : s'.os = s.os) (ho : OR s'.heap s.heap.objs.size mo) :
    Holds C { σ with own := (s.heap.objs.size, mo) :: σ.own } s' := (H.ext e hg hos).addO (fresh_facts H) ho
theorem Holds.thaw {s : Shared} {a : Addr} {o : MO} (OK : C.Ok hb) (H : Holds C σ s) (ha : σ.B a = some o) (h0 : C.B0 a = none) (hK : ∀ o', ¬ C.kp a o') : Holds C ⟨σ.loc, fun b => if b = a then none else σ.B b, (a, o) :: σ.own⟩ s := by
  have hno : a ∉ σ.own.map (·.1) ++ C.fr := fun hm => by rw [H.apartB a hm] at ha; cases ha
  have hal : ¬ C.al a := by
    rcases H.Bnew a o ha with h | h
    · rw [h0] at h; cases h
    · exact h
  have hsub : ∀ b o', (if b = a then none else σ.B b) = some o' → σ.B b = some o' := fun b o' hb' => by
    split at hb'
    · cases hb'
    · exact hb'
  exact {
    kp := H.kp, names := H.names, ns := H.ns, cells := H.cells, alive := H.alive, gens := H.gens, os := H.os, al := H.al
    B := fun b o' hb' => H.B b o' (hsub b o' hb')
    own := fun p hp => by
      rcases List.mem_cons.mp hp with rfl | hp
      · exact H.B a o ha
      · exact H.own p hp
    nodup := List.nodup_cons.mpr ⟨hno, H.nodup⟩
    apartB := fun b hb' => by
      show (if b = a then none else σ.B b) = none
      rcases List.mem_cons.mp hb' with rfl | hb'
      · exact if_pos rfl
      · split
        · rfl
        · exact H.apartB b hb'
    apartK := fun b hb' o' hk => by
      rcases List.mem_cons.mp hb' with rfl | hb'
      · exact hK o' hk
      · exact H.apartK b hb' o' hk
    B0 := fun b o' hb' => by
      show (if b = a then none else σ.B b) = some o'
      rw [if_neg (fun e => by subst e; rw [h0] at hb'; cases hb')]; exact H.B0 b o' hb'
    Bnew := fun b o' hb' => H.Bnew b o' (hsub b o' hb')
    ownNew := fun p hp => by
      rcases List.mem_cons.mp hp with rfl | hp
      · exact .inl hal
      · exact H.ownNew p hp
    noB := fun b hb' => by
      show (if b = a then none else σ.B b) = none
      split
      · rfl
      · exact H.noB b hb' }
end
end
section
set_option autoImplicit false
set_option linter.unusedVariables false
set_option linter.unusedSimpArgs false
open PySem

def unB (B : MH) (a : Addr) : MH := fun b => if b = a then none else B b
theorem unB_ne {B : MH} {a b : Addr} (h : b ≠ a) : unB B a b = B b := by simp [unB, h]

section
variable {C : Cx} {hb : Heap} {σ : St} {prog : Program} {w : World} {sc cs : Scope} {n : Nat} {md : List Addr} {fl : Bool} {x : Str}

theorem Call_intBool {b : Bool} {Q : MV → St → Prop} (h : Q (.int (if b then 1 else 0)) σ) : CallV C (.type "int") [.bool b] σ Q := fun vs hvs s H => by
  obtain ⟨v, rfl, hv⟩ := hvs.one
  obtain rfl : v = .bool b := hv
  exact call_int_bool ⟨.int _, σ, ⟨_, rfl⟩, H.toks _, h⟩

theorem Call_dict {a : Addr} {ts : List Addr} {kvs : KV} {Q : MV → St → Prop} (F : Fx C hb prog w sc n md fl) (hl : hb.NoLimit) (hh : Has σ a (.list (ts.map MV.ref))) (hlen : ts.length = kvs.length) (hnd : (kvs.map (·.1)).Nodup)
    (ht : ∀ (i : Nat) (t : Addr) (p : Option Int × MV), ts[i]? = some t → kvs[i]? = some p → Has σ t (.tup [keyMV p.1, p.2])) (h : ∀ d, Fsh md σ d → Q (.ref d) { σ with own := (d, .dict kvs) :: σ.own }) :
    CallV C (.type "dict") [.ref a] σ Q := fun vs hvs s H => by
  obtain ⟨v, rfl, hv⟩ := hvs.one
  obtain rfl : v = .ref a := hv
  obtain ⟨us, nn, hob, hr, hlim⟩ := H.has hh
  -- the values
  have hex : ∀ (i : Nat), i < kvs.length → ∃ (t : Addr) (k : Option Int) (m : MV) (key val : Value) (o : Obj) (n' : Nat), kvs[i]? = some (k, m) ∧ us[i]? = some (.ref t) ∧ s.heap.get? t = some o ∧ o.cls = .type "tuple" ∧ o.data = .seq #[key, val] n' ∧ keyIs k key = true ∧ VR m val := by
    intro i hi
    obtain ⟨t, et⟩ : ∃ t, ts[i]? = some t := ⟨ts[i]'(hlen ▸ hi), by simp [hlen, hi]⟩
    obtain ⟨⟨k, m⟩, ep⟩ : ∃ p, kvs[i]? = some p := ⟨kvs[i], by simp [hi]⟩
    obtain ⟨ws, n', ho, hr', _⟩ := H.has (ht i t (k, m) et ep)
    obtain ⟨u, hu, hur⟩ := hr.get (i := i) (m := .ref t) (by simp [et])
    obtain rfl : u = .ref t := hur
    obtain ⟨ws⟩ := ws
    cases hr' with
    | cons g1 g2 => cases g2 with
      | cons g3 g4 => cases g4 with
        | nil => exact ⟨t, k, m, _, _, _, _, ep, by rw [← Array.getElem?_toList]; exact hu, ho, rfl, rfl, keyIs_of g1, g3⟩
  have hvk : ∀ (j : Nat), j ≤ kvs.length → ∃ vk : List (Option Int × Value), KVR (kvs.take j) vk ∧ ∀ (i : Nat) (k : Option Int) (v : Value), vk[i]? = some (k, v) → ∃ (t : Addr) (o : Obj) (key : Value) (n' : Nat), us[i]? = some (.ref t) ∧ s.heap.get? t = some o ∧ o.cls = .type "tuple" ∧ o.data = .seq #[key, v] n' ∧ keyIs k key = true := by
    intro j
    induction j with
    | zero => intro _; exact ⟨[], by simpa using KVR.nil, fun i k v e => by simp at e⟩
    | succ j ih =>
      intro hj
      obtain ⟨vk, h1, h2⟩ := ih (Nat.le_of_succ_le hj)
      obtain ⟨t, k, m, key, val, o, n', e1, e2, e3, e4, e5, e6, e7⟩ := hex j hj
      have hl1 : vk.length = j := by rw [← h1.length, List.length_take]; exact Nat.min_eq_left (Nat.le_of_succ_le hj)
      have et : kvs.take (j + 1) = kvs.take j ++ [(k, m)] := by rw [List.take_succ, e1]; rfl
      refine ⟨vk ++ [(k, val)], ⟨?_, ?_⟩, fun i k' v' e => ?_⟩
      · rw [et, List.map_append, List.map_append, h1.k]; rfl
      · rw [et, List.map_append, List.map_append]; exact h1.v.append (.cons e7 .nil)
      · by_cases hi : i < j
        · rw [List.getElem?_append_left (by rw [hl1]; exact hi)] at e; exact h2 i k' v' e
        · have : i = j := by
            have := (List.getElem?_eq_some_iff.mp e).1
            simp at this; omega
          subst this
          rw [List.getElem?_append_right (by omega), hl1] at e
          simp at e
          obtain ⟨rfl, rfl⟩ := e
          exact ⟨t, o, key, n', e2, e3, e4, e5, e6⟩
  obtain ⟨vk, hkv, hP⟩ := hvk kvs.length (Nat.le_refl _)
  rw [List.take_length] at hkv
  have hk : kvs.length = vk.length := hkv.length
  have hul : us.size = vk.length := by have := hr.length; simp at this; omega
  refine call_dictPairs (knd := optKind C.prog C.w) (kvs := vk) F.ok.handled hob (by have : lim = 1000000 := rfl; simp at hlim; omega) hul (fun j k v hj => hP j k v hj) fun h' tk hkeep hd => ?_
  have hnv : (vk.map (·.1)).Nodup := hkv.k ▸ hnd
  rw [merged_append_of_fresh [] vk (by simpa using hnv)] at hd
  have H' : Holds C σ { s with heap := h', toks := tk } := H.ext hkeep rfl rfl
  have H2 := H.newIn (s' := { s with heap := h', toks := tk }) (mo := .dict kvs) hkeep rfl rfl ⟨H.noModules F.ok hl, vk, ⟨_, _, by simpa using hd⟩, hkv, by simp at hlim; omega⟩
  exact ⟨.ref _, _, rfl, H2, h _ (F.emod ▸ H.fsh F.ok)⟩

/-- an owned object is lent as a frozen one -/
theorem Tr.borrow {α β : Type} {t : Sem α} {R : β → α → Prop} {l : Loc} {B : MH} {a : Addr} {o : MO} {own : Own} {Q : β → St → Prop} (F : Fx C hb prog w sc n md fl) (ha : a ∉ md)
    (h : Tr C t R ⟨l, setB B a o, own⟩ (fun r σ' => σ'.B a = some o ∧ Q r ⟨σ'.loc, unB σ'.B a, (a, o) :: σ'.own⟩)) : Tr C t R ⟨l, B, (a, o) :: own⟩ Q := fun s H => by
  have H1 := H.frz F.ok (by rw [F.emod]; exact ha)
  have hB0 : C.B0 a = none := by
    cases e : C.B0 a with
    | none => rfl
    | some o' =>
      have h1 := H.B0 a o' e
      have h2 := H.apartB a (List.mem_append_left _ List.mem_cons_self)
      rw [h2] at h1; cases h1
  refine wpAny_mono (h s H1) (fun v s' ⟨b, σ', hr, H', hba, hq⟩ => ⟨b, _, hr, ?_, hq⟩) fun _ _ x => x
  exact H'.thaw F.ok hba hB0 (H.apartK a (List.mem_append_left _ List.mem_cons_self))

/-- what every state keeps: owned objects are not frozen, and are apart -/
theorem Tr.facts {α β : Type} {t : Sem α} {R : β → α → Prop} {Q : β → St → Prop} (h : (∀ a ∈ σ.own.map (·.1), σ.B a = none) → (σ.own.map (·.1)).Nodup → Tr C t R σ Q) : Tr C t R σ Q := fun s H =>
  h (fun a ha => H.apartB a (List.mem_append_left _ ha)) (List.nodup_append.mp H.nodup).1 s H
theorem Sts_facts {b : List Stmt} {Q : MF → St → Prop} (h : (∀ a ∈ σ.own.map (·.1), σ.B a = none) → (σ.own.map (·.1)).Nodup → Sts C b σ Q) : Sts C b σ Q := Tr.facts h
theorem Stm_facts {b : Stmt} {Q : MF → St → Prop} (h : (∀ a ∈ σ.own.map (·.1), σ.B a = none) → (σ.own.map (·.1)).Nodup → Stm C b σ Q) : Stm C b σ Q := Tr.facts h
end
end
section
set_option autoImplicit false
set_option linter.unusedVariables false
set_option linter.unusedSimpArgs false
open PySem

/-! sets of ints as dictionaries -/
def tks (l : List Int) : KV := l.map fun k => (some k, MV.bool true)
theorem tks_length (l : List Int) : (tks l).length = l.length := by simp [tks]
theorem dget_tks (l : List Int) (b : Int) : (dget (tks l) (some b)).isSome = decide (b ∈ l) := by
  induction l with
  | nil => simp [tks, dget]
  | cons a l ih =>
    have : dget (tks (a :: l)) (some b) = if (some a : Option Int) = some b then some (.bool true) else dget (tks l) (some b) := rfl
    rw [this]
    by_cases e : a = b
    · subst e; simp
    · rw [if_neg (by simpa using e), ih]; simp [Ne.symm e]
theorem dput_tks {l : List Int} {b : Int} (h : b ∉ l) : dput (tks l) (some b) (.bool true) = tks (l ++ [b]) := by
  induction l with
  | nil => rfl
  | cons a l ih =>
    have e : dput (tks (a :: l)) (some b) (.bool true) = if (some a : Option Int) = some b then (some a, .bool true) :: tks l else (some a, .bool true) :: dput (tks l) (some b) (.bool true) := rfl
    simp only [List.mem_cons, not_or] at h
    rw [e, if_neg (by simpa using Ne.symm h.1), ih h.2]
    rfl
theorem tks_keys (l : List Int) : (tks l).map (·.1) = l.map some := by simp [tks]
theorem nodup_map_some {l : List Int} (h : l.Nodup) : (l.map (some : Int → Option Int)).Nodup := by
  induction l with
  | nil => exact .nil
  | cons a l ih =>
    simp only [List.nodup_cons, List.map_cons] at h ⊢
    exact ⟨by simpa using h.1, ih h.2⟩

/-! small sums -/
theorem get_in {α : Type} {l : List α} {e : Int} (h0 : 0 ≤ e) (h1 : e < l.length) : ∃ x, l[e.toNat]? = some x := ⟨_, List.getElem?_eq_getElem ((Int.toNat_lt h0).mpr h1)⟩
theorem dfs1 : ∀ {f k n w : Nat}, f + k = n + (w + 1) → f ≤ n → f + (k - 1) = n + w ∧ k - 1 < k
  | f, 0, n, w, h, hf => absurd h (Nat.ne_of_lt (Nat.lt_of_le_of_lt hf (Nat.lt_add_of_pos_right (Nat.succ_pos w))))
  | f, k + 1, n, w, h, _ => ⟨Nat.succ.inj h, Nat.lt_succ_self k⟩
theorem dfs2 {f k n w : Nat} (h : f + k = n + w) : f + 1 + k = n + (w + 1) := (Nat.add_right_comm f 1 k).trans (congrArg Nat.succ h)
theorem lim_ok {a n : Nat} (h : a ≤ n) (hn : n ≤ 1000) : a + 1 ≤ lim := Nat.le_trans (Nat.succ_le_succ (Nat.le_trans h hn)) (by unfold lim; decide)
theorem dfs3 {f k n w : Nat} (h : f + k = n + w) (hf : f ≤ n) (hk : k ≤ n) (hn : n ≤ 1000) : w + 1 ≤ lim := lim_ok (Nat.le_of_add_le_add_left (h ▸ Nat.add_le_add hf hk)) hn
theorem bfs1 : ∀ {k p n : Nat}, k + p = n → p + 1 ≤ n → k - 1 + (p + 1) = n ∧ k - 1 < k
  | 0, p, n, h, hp => absurd (Nat.le_trans hp (Nat.le_of_eq (h.symm.trans (Nat.zero_add p)))) (Nat.not_succ_le_self p)
  | k + 1, p, n, h, _ => ⟨(Nat.succ_add_eq_add_succ k p).symm.trans h, Nat.lt_succ_self k⟩
theorem toNat_sub1 : ∀ i : Nat, ((i : Int) - 1).toNat = i - 1
  | 0 => rfl
  | i + 1 => congrArg Int.toNat (Int.add_sub_cancel (i : Int) 1)
theorem rev_lk {α : Type} {l : List α} {i : Nat} {a b : α} (ha : l.reverse[i]? = some a) (hb : l.reverse[i + 1]? = some b) : ∃ j, l[j]? = some b ∧ l[j + 1]? = some a := by
  have h1 := (List.getElem?_eq_some_iff.mp hb).1
  rw [List.length_reverse] at h1
  rw [List.getElem?_reverse h1] at hb
  rw [List.getElem?_reverse (Nat.lt_of_succ_lt h1)] at ha
  exact ⟨_, hb, (congrArg (fun k => l[k]?) (Nat.succ_pred_eq_of_pos (Nat.sub_pos_of_lt (Nat.lt_sub_of_add_lt h1)))).trans ha⟩
theorem lim20 {n : Nat} (h : n ≤ 20) : n ≤ lim := Nat.le_trans h (by unfold lim; decide)
theorem k20 {n : Nat} (h : n ≤ 20) : n ≤ 1000 := Nat.le_trans h (by decide)
theorem lim_map {α : Type} {g : α → MV} {l : List α} (h : l.length + 1 ≤ lim) : (l.map g).length + 1 ≤ lim := by rw [List.length_map]; exact h

/-! reaching -/
inductive Rch (E : Int → Int → Prop) (ok : Int → Prop) (s : Int) : Int → Prop
  | refl : Rch E ok s s
  | step {a b : Int} : Rch E ok s a → E a b → ok b → Rch E ok s b
theorem Rch.mono {E E' : Int → Int → Prop} {ok ok' : Int → Prop} (hE : ∀ a b, E a b → ok b → E' a b ∧ ok' b) {a b : Int} (h : Rch E ok a b) : Rch E' ok' a b := by
  induction h with
  | refl => exact .refl
  | step _ e o ih => exact .step ih (hE _ _ e o).1 (hE _ _ e o).2

theorem length_le_of_nodup : ∀ (n : Nat) (l : List Int), l.Nodup → (∀ a ∈ l, 0 ≤ a ∧ a < n) → l.length ≤ n
  | 0, l, _, h => by
    cases l with
    | nil => simp
    | cons a l => have := h a List.mem_cons_self; omega
  | n + 1, l, hn, h => by
    have h1 : (l.erase n).length ≤ n := length_le_of_nodup n (l.erase n) (hn.erase _) fun a ha => by
      have h2 := h a (List.mem_of_mem_erase ha)
      have h3 : a ≠ n := ((List.Nodup.mem_erase_iff hn).mp ha).1
      omega
    have h2 : l.length ≤ (l.erase n).length + 1 := by
      rw [List.length_erase]; split <;> omega
    omega

structure DInv (E : Int → Int → Prop) (ok : Int → Prop) (s : Int) (n : Nat) (found W : List Int) (c : Int) (rest : List (Option Int)) : Prop where
  start : s ∈ found
  sound : ∀ a ∈ found, Rch E ok s a
  rng : ∀ a ∈ found, 0 ≤ a ∧ a < n
  nd : found.Nodup
  sub : ∀ a ∈ W, a ∈ found
  clo : ∀ a ∈ found, ∀ b, E a b → ok b → b ∈ found ∨ a ∈ W ∨ (a = c ∧ some b ∈ rest)
  cf : c ∈ found
  cE : ∀ b, some b ∈ rest → E c b
section
variable {E : Int → Int → Prop} {ok : Int → Prop} {s : Int} {n : Nat} {found W : List Int} {c : Int} {rest : List (Option Int)}
theorem DInv.init (h0 : 0 ≤ s) (h1 : s < n) : DInv E ok s n [s] [s] s [] where
  start := by simp
  sound := fun a ha => by simp at ha; subst ha; exact .refl
  rng := fun a ha => by simp at ha; subst ha; exact ⟨h0, h1⟩
  nd := by simp
  sub := fun a ha => ha
  clo := fun a ha b _ _ => .inr (.inl ha)
  cf := by simp
  cE := fun b hb => by simp at hb
theorem DInv.pop {d : Int} {succ : List (Option Int)} (D : DInv E ok s n found (W ++ [d]) c []) (hs : ∀ b, E d b ↔ some b ∈ succ) : DInv E ok s n found W d succ where
  start := D.start
  sound := D.sound
  rng := D.rng
  nd := D.nd
  sub := fun a ha => D.sub a (List.mem_append_left _ ha)
  clo := fun a ha b e o => by
    rcases D.clo a ha b e o with h | h | h
    · exact .inl h
    · rcases List.mem_append.mp h with h | h
      · exact .inr (.inl h)
      · simp at h; subst h; exact .inr (.inr ⟨rfl, (hs b).mp e⟩)
    · simp at h
  cf := D.sub d (by simp)
  cE := fun b hb => (hs b).mpr hb
theorem DInv.skip {o : Option Int} (D : DInv E ok s n found W c (o :: rest)) (h : ∀ b, o = some b → ok b → b ∈ found) : DInv E ok s n found W c rest where
  start := D.start
  sound := D.sound
  rng := D.rng
  nd := D.nd
  sub := D.sub
  clo := fun a ha b e o' => by
    rcases D.clo a ha b e o' with h' | h' | ⟨h', h''⟩
    · exact .inl h'
    · exact .inr (.inl h')
    · rcases List.mem_cons.mp h'' with h3 | h3
      · exact .inl (h b h3.symm o')
      · exact .inr (.inr ⟨h', h3⟩)
  cf := D.cf
  cE := fun b hb => D.cE b (List.mem_cons_of_mem _ hb)
theorem DInv.add {b : Int} (D : DInv E ok s n found W c (some b :: rest)) (ho : ok b) (hb : b ∉ found) (h0 : 0 ≤ b) (h1 : b < n) : DInv E ok s n (found ++ [b]) (W ++ [b]) c rest where
  start := List.mem_append_left _ D.start
  sound := fun a ha => by
    rcases List.mem_append.mp ha with h | h
    · exact D.sound a h
    · simp at h; subst h; exact .step (D.sound c D.cf) (D.cE a List.mem_cons_self) ho
  rng := fun a ha => by
    rcases List.mem_append.mp ha with h | h
    · exact D.rng a h
    · simp at h; subst h; exact ⟨h0, h1⟩
  nd := List.nodup_append.mpr ⟨D.nd, by simp, fun x hx y hy e => by simp at hy; subst hy; subst e; exact hb hx⟩
  sub := fun a ha => by
    rcases List.mem_append.mp ha with h | h
    · exact List.mem_append_left _ (D.sub a h)
    · exact List.mem_append_right _ h
  clo := fun a ha b' e o => by
    rcases List.mem_append.mp ha with h | h
    · rcases D.clo a h b' e o with h' | h' | ⟨h', h''⟩
      · exact .inl (List.mem_append_left _ h')
      · exact .inr (.inl (List.mem_append_left _ h'))
      · rcases List.mem_cons.mp h'' with h3 | h3
        · cases h3; exact .inl (by simp)
        · exact .inr (.inr ⟨h', h3⟩)
    · exact .inr (.inl (List.mem_append_right _ h))
  cf := List.mem_append_left _ D.cf
  cE := fun b hb => D.cE b (List.mem_cons_of_mem _ hb)
theorem DInv.done (D : DInv E ok s n found [] c []) (a : Int) : a ∈ found ↔ Rch E ok s a := by
  refine ⟨D.sound a, fun h => ?_⟩
  induction h with
  | refl => exact D.start
  | step _ e o ih =>
    rcases D.clo _ ih _ e o with h | h | h
    · exact h
    · simp at h
    · simp at h
theorem DInv.len (D : DInv E ok s n found W c rest) : found.length ≤ n := length_le_of_nodup n found D.nd D.rng
end

open PySem
theorem if_b {c : Bool} {A B : Prop} (h1 : c = true → A) (h2 : c = false → B) : if c = true then A else B := by
  cases c with
  | true => exact h1 rfl
  | false => exact h2 rfl
end
section
set_option autoImplicit false
set_option linter.unusedVariables false
set_option linter.unusedSimpArgs false
open PySem
theorem look_put_self (l : Loc) (x : Str) (m : MV) : look (put l x m) x = some m := by rw [look_put]; simp
/-- hidden from the stepping rules -/
def GlD (hb : Heap) : Prop := Gl hb "dict" (.oth (.type "dict"))
def nums0 (n : Nat) : List Int := (List.range n).map fun (i : Nat) => (i : Int)
theorem mem_nums0 {n : Nat} {a : Int} : a ∈ nums0 n ↔ 0 ≤ a ∧ a < n := by
  unfold nums0
  rw [List.mem_map]
  constructor
  · rintro ⟨i, hi, rfl⟩; simp at hi; omega
  · rintro ⟨h0, h1⟩; exact ⟨a.toNat, by simp; omega, by omega⟩
theorem nodup_nums0 (n : Nat) : (nums0 n).Nodup := by
  unfold nums0
  refine List.Pairwise.map _ ?_ List.nodup_range
  intro a b h e; exact h (by omega)
theorem length_nums0 (n : Nat) : (nums0 n).length = n := by simp [nums0]
theorem range_nums0 (n : Nat) : (List.range n).map (fun (i : Nat) => MV.int (i : Int)) = (nums0 n).map MV.int := by simp [nums0]
section
variable {C : Cx} {hb : Heap} {σ : St} {prog : Program} {w : World} {sc cs : Scope} {n : Nat} {md : List Addr} {fl : Bool} {x : Str}

def PairsIn (B : MH) (ts : List Addr) (l : List Int) : Prop := ts.length = l.length ∧ ∀ (i : Nat) (t : Addr) (k : Int), ts[i]? = some t → l[i]? = some k → B t = some (.tup [.int k, .bool true])
theorem PairsIn.mono {B B' : MH} {ts : List Addr} {l : List Int} (h : PairsIn B ts l) (s : Sub0 B B') : PairsIn B' ts l := ⟨h.1, fun i t k h1 h2 => s _ _ (h.2 i t k h1 h2)⟩
theorem PairsIn.snoc {B : MH} {ts : List Addr} {l : List Int} {t : Addr} {k : Int} (h : PairsIn B ts l) (hc : B t = some (.tup [.int k, .bool true])) : PairsIn B (ts ++ [t]) (l ++ [k]) := by
  refine ⟨by simp [h.1], fun i t' k' h1 h2 => ?_⟩
  by_cases hi : i < ts.length
  · rw [List.getElem?_append_left hi] at h1
    rw [List.getElem?_append_left (by rw [← h.1]; exact hi)] at h2
    exact h.2 i t' k' h1 h2
  · rw [List.getElem?_append_right (by omega)] at h1
    rw [List.getElem?_append_right (by rw [← h.1]; omega), ← h.1] at h2
    have e : i - ts.length = 0 := by
      have := (List.getElem?_eq_some_iff.mp h1).1
      simp at this; omega
    rw [e] at h1 h2
    simp at h1 h2
    subst h1; subst h2; exact hc
theorem Exs_cv {pos : Pos} {es : List Expr} {σ' : St} {Q : List MV → St → Prop} (F : Fx C hb prog w sc n md fl) (c : Cv md σ σ') (h : Exs C pos es σ' Q) : Exs C pos es σ Q := Tr.cv F c h
theorem swaps_yes {elt : Expr} {gens : List Comprehension} {y : Str} {py pos : Pos} {ln : Nat} (F : Fx C hb prog w sc n md fl) (hk : sc.names.lookup y = some .local) (hl : (py.line == pos.line) = true) (hn : (cs.names.any fun p => p.1 == y && (p.2 == .local || p.2 == .cell)) = false) :
    swapsWith (.ListComp elt gens cs pos) (some (.Name y py)) ln C.env = pure true := by
  have hb : (C.env.blockKind == ScopeKind.function) = true := by unfold Env.blockKind; rw [F.ok.kind]; rfl
  have hv : (C.env.kindOf y == some NameKind.local) = true := by rw [F.kind hk]; rfl
  show (pure (C.env.blockKind == .function && C.env.kindOf y == some .local && py.line == pos.line && !(cs.names.any fun p => p.1 == y && (p.2 == .local || p.2 == .cell))) : Sem Bool) = pure true
  rw [hb, hv, hl, hn]; rfl
theorem Ts_mono {e : Expr} {Q Q' : Bool → St → Prop} (h : Ts C e σ Q) (h' : ∀ b σ', Q b σ' → Q' b σ') : Ts C e σ Q' := Tr.mono h h'
theorem Stm_mono {e : Stmt} {Q Q' : MF → St → Prop} (h : Stm C e σ Q) (h' : ∀ b σ', Q b σ' → Q' b σ') : Stm C e σ Q' := Tr.mono h h'
theorem ite_cut {c : Prop} [Decidable c] {b1 b2 : List Stmt} {K : MF → St → Prop} (J : St → Prop) (h1 : c → Sts C b1 σ (fun f σ' => f = .next ∧ J σ')) (h2 : ¬ c → Sts C b2 σ (fun f σ' => f = .next ∧ J σ')) (h : ∀ σ', J σ' → K .next σ') :
    if decide c = true then Sts C b1 σ K else Sts C b2 σ K := by
  have key : ∀ b : List Stmt, Sts C b σ (fun f σ' => f = .next ∧ J σ') → Sts C b σ K := fun b hb' => Tr.mono hb' fun f σ' ⟨e, hj⟩ => e ▸ h σ' hj
  by_cases hc : c
  · rw [if_pos (by simpa using hc)]; exact key _ (h1 hc)
  · rw [if_neg (by simpa using hc)]; exact key _ (h2 hc)
theorem Sub0s {B : MH} {a : Addr} {o : MO} (h : B a = none) : Sub0 B (setB B a o) := fun b o' hb' => by
  rw [setB_ne (fun e => by subst e; rw [h] at hb'; cases hb')]; exact hb'
theorem Sub0t {B B' B'' : MH} (h : Sub0 B B') (h' : Sub0 B' B'') : Sub0 B B'' := fun a o x => h' a o (h a o x)

/-- dict([(x, True) for x in iter]) -/
theorem Ex_dictTrue {iter : Expr} {k kk : Nat} {p1 p2 p3 p4 p5 p6 p7 : Pos} {Q : MV → St → Prop} (F : Fx C hb prog w sc n md fl) (hlim : hb.NoLimit) (gd : GlD hb) (hk : sc.names.lookup (Str.ofString "dict") = some .globalImplicit)
    (K : CompOk cs sc x) (hs : ∀ v, foldedSetIterable iter C.env v = pure v) (hx : okName x = true)
    (h : Ex C iter σ (fun v σ₁ => ∃ l : List Int, Itr σ₁ v (l.map MV.int) ∧ l.Nodup ∧ l.length ≤ lim ∧ ∀ B' d, Sub0 σ₁.B B' → B' d = none → d ∉ md → d ∉ σ₁.own.map (·.1) → Q (.ref d) ⟨σ₁.loc, B', (d, .dict (tks l)) :: σ₁.own⟩)) :
    Ex C (.Call (.Name "dict" p1) [.ListComp (.Tuple [.Name x p2, .Constant (.bool true) k p3] kk p4) [⟨.Name x p5, iter, [], 0⟩] cs p6] [] p7) σ Q := by
  refine Tr.post F ?_
  refine Ex_CallT F.ok gd (F.kind hk) rfl rfl ?_
  refine Exs_cons rfl ?_
  refine Ex_Comp F K hs (Tr.mono h fun v σ₁ hpat => ?_)
  obtain ⟨l, it, hnd, hl, hq⟩ := hpat
  refine ⟨l.map MV.int, fun i ys B' own' => own' = σ₁.own ∧ Sub0 σ₁.B B' ∧ ∃ ts, ys = ts.map MV.ref ∧ PairsIn B' ts (l.take i), it, by simpa using hl, ⟨rfl, Sub0.rfl' _, [], rfl, rfl, by simp⟩, ?_, ?_⟩
  · rintro C' F' i ys B' own' m ⟨rfl, hs', ts, rfl, hp⟩ hm
    rw [List.getElem?_map] at hm
    obtain ⟨z, hz, rfl⟩ := Option.map_eq_some_iff.mp hm
    refine CTs_nil ?_
    dsimp only
    refine if_tt ?_
    refine Ex_TupleF F' ?_
    refine Exs_cons rfl ?_
    refine Ex_loc F' (look_put_self _ _ _) hx ?_
    refine Exs_cons rfl ?_
    refine Ex_bool ?_
    refine Exs_nil ⟨by simp [lim], fun a ha => ?_⟩
    refine ⟨_, .frz ha.md, rfl, Sub0t hs' (Sub0s ha.B), ts ++ [a], by simp, ?_⟩
    have et : l.take (i + 1) = l.take i ++ [z] := by rw [List.take_add_one, hz]; rfl
    rw [et]
    exact (hp.mono (Sub0s ha.B)).snoc setB_self
  · rintro ys B' own' ⟨rfl, hs', ts, rfl, hp⟩ la hla
    rw [List.length_map, List.take_length] at hp
    refine Exs_nil ?_
    refine Call_dict F hlim (.inl (.head _)) (ts := ts) (kvs := tks l) (by rw [hp.1, tks_length]) (by rw [tks_keys]; exact nodup_map_some hnd) (fun i t p h1 h2 => ?_) fun d hd => ?_
    · unfold tks at h2
      rw [List.getElem?_map] at h2
      obtain ⟨z, hz, rfl⟩ := Option.map_eq_some_iff.mp h2
      exact .inr (hp.2 i t z h1 hz)
    · refine ⟨_, .own (List.Sublist.cons_cons _ (List.sublist_cons_self ..)), hq B' d hs' hd.B hd.md fun hm => hd.own (by simp at hm ⊢; exact .inr hm)⟩
end
end
set_option autoImplicit false
set_option linter.unusedVariables false
set_option linter.unusedSimpArgs false
set_option compiler.extract_closed false
open PySem
theorem Ex_CallB' {C : Cx} {hb : Heap} {σ : St} {prog : Program} {w : World} {sc : Scope} {n : Nat} {md : List Addr} {fl : Bool} {f : Str} {p pos : Pos} {e : Expr} {rest : List Expr} {T : String} {Q : MV → St → Prop} (F : Fx C hb prog w sc n md fl) (g : Gl hb f (.oth (.builtin T))) (hk : sc.names.lookup f = some .globalImplicit)
    (he : starEach (e :: rest) C.env = (false, eval e C.env) :: starEach rest C.env) (hplain : (backTo pos (starEach rest C.env)).any (·.1) = false)
    (h : Exs C pos (e :: rest) σ (fun vs σ₁ => CallV C (.builtin T) vs σ₁ Q)) : Ex C (.Call (.Name f p) (e :: rest) [] pos) σ Q := Ex_CallB F.ok g (F.kind hk) he hplain h
theorem Ex_CallT' {C : Cx} {hb : Heap} {σ : St} {prog : Program} {w : World} {sc : Scope} {n : Nat} {md : List Addr} {fl : Bool} {f : Str} {p pos : Pos} {e : Expr} {rest : List Expr} {T : String} {Q : MV → St → Prop} (F : Fx C hb prog w sc n md fl) (g : Gl hb f (.oth (.type T))) (hk : sc.names.lookup f = some .globalImplicit)
    (he : starEach (e :: rest) C.env = (false, eval e C.env) :: starEach rest C.env) (hplain : (backTo pos (starEach (e :: rest) C.env)).any (·.1) = false)
    (h : Exs C pos (e :: rest) σ (fun vs σ₁ => CallV C (.type T) vs σ₁ Q)) : Ex C (.Call (.Name f p) (e :: rest) [] pos) σ Q := Ex_CallT F.ok g (F.kind hk) he hplain h
theorem Call_max' {C : Cx} {hb : Heap} {σ : St} {prog : Program} {w : World} {sc : Scope} {n : Nat} {md : List Addr} {fl : Bool} {a b : Int} {Q : MV → St → Prop} (F : Fx C hb prog w sc n md fl) (h : Q (.int (max a b)) σ) : CallV C (.builtin "max") [.int a, .int b] σ Q := Call_max F.ok h
theorem Call_min' {C : Cx} {hb : Heap} {σ : St} {prog : Program} {w : World} {sc : Scope} {n : Nat} {md : List Addr} {fl : Bool} {a b : Int} {Q : MV → St → Prop} (F : Fx C hb prog w sc n md fl) (h : Q (.int (min a b)) σ) : CallV C (.builtin "min") [.int a, .int b] σ Q := Call_min F.ok h
local macro_rules | `(tactic| walk_at "m ne") => `(tactic| exact ofString_ne (by decide))
local macro_rules | `(tactic| walk_at "m look") => `(tactic| first | with_reducible exact look_hd | (refine' look_tl ?a ?b; (case a => walk_at "m ne"); (case b => walk_at "m look")))
local macro_rules | `(tactic| walk_at "m put") => `(tactic| first | with_reducible exact put_nil | with_reducible exact put_hd | (refine' put_tl ?a ?b; (case a => walk_at "m ne"); (case b => walk_at "m put")))
local macro_rules | `(tactic| walk_at "m capt") => `(tactic| first | with_reducible exact capt_nil | (refine' capt_keep ?a ?b; (case a => rfl); (case b => walk_at "m capt")) | (refine' capt_skip ?a ?b; (case a => decide); (case b => walk_at "m capt")))
local macro_rules | `(tactic| walk_at "m cex") => `(tactic| ((first | with_reducible refine' Ex_le ?a ?_ | with_reducible refine' Ts_le ?a ?_); (case a => refine' put_capt ?a ?b; (case a => walk_at "m capt"); (case b => walk_at "m put"))))
local macro_rules | `(tactic| walk_at "m compok") => `(tactic| exact ⟨rfl, by decide, by decide, by decide, rfl⟩)
local macro_rules | `(tactic| walk_at "m mem") => `(tactic| first | with_reducible exact mem_hd | ((with_reducible refine mem_tl ?_); walk_at "m mem"))
local macro_rules | `(tactic| walk_at "m upd") => `(tactic| first | with_reducible exact Upd.head | ((with_reducible refine' Upd.tail ?a); (case a => walk_at "m upd")))
local macro_rules | `(tactic| walk_at "m has") => `(tactic| first | with_reducible assumption | (refine Or.inr ?_; with_reducible assumption) | (refine Or.inl ?_; (try dsimp only); walk_at "m mem") | fail "x")
local macro_rules | `(tactic| walk_at "s") => `(tactic| first
  | with_reducible assumption
  | (guard_target = look _ _ = _; walk_at "m look")
  | (guard_target = put _ _ _ = _; walk_at "m put")
  | (guard_target = Has _ _ _; walk_at "m has")
  | (guard_target = Upd _ _ _ _ _; (try dsimp only); walk_at "m upd")
  | rfl
  | exact interactive_false (by assumption)
  | decide
  | omega
  | (refine log2_small ?_; omega)
  | decide +kernel
  | exact IntMulOk.of_right (by decide +kernel) | exact IntMulOk.of_left (by decide +kernel) | exact mul_small (by omega)
  | (simp only [List.length_map, List.length_append, List.length_cons, List.length_nil, lim]; omega)
  | fail "s")
local macro_rules | `(tactic| walk_at "m stm") => `(tactic| first
  | ((with_reducible refine' Stm_Assign ?a ?_); case a => walk_at "s")
  | ((with_reducible refine' Stm_Expr ?a ?b ?_); case a | b => walk_at "s")
  | ((with_reducible refine' Stm_SetI ?a ?_); case a => walk_at "s")
  | (with_reducible first | refine Stm_If ?_ | refine Stm_Return ?_ | fail "x")
  | fail "x")
local macro_rules | `(tactic| walk_at "m ex") => `(tactic| first
  | ((with_reducible refine' Ex_loc ?a ?b ?c ?_); case a | b | c => walk_at "s")
  | ((with_reducible refine' Ex_CallC ?a ?b ?c ?d ?e ?_); case a | b | c | d | e => walk_at "s")
  | ((with_reducible refine' Ex_CallO ?a ?b ?c ?d ?e ?_); case a | b | c | d | e => walk_at "s")
  | ((with_reducible refine' Ex_CallB' ?a ?b ?c ?d ?e ?_); case a | b | c | d | e => walk_at "s")
  | ((with_reducible refine' Ex_CallT' ?a ?b ?c ?d ?e ?_); case a | b | c | d | e => walk_at "s")
  | ((with_reducible refine' Ex_Subscript ?a ?_); case a => walk_at "s")
  | ((with_reducible refine' Ex_Compare ?a ?_); case a => walk_at "s")
  | ((with_reducible refine' Ex_glb ?a ?b ?c ?_); case a | b | c => walk_at "s")
  | ((with_reducible refine' Ex_ListF ?a ?_); case a => walk_at "s")
  | ((with_reducible refine' Ex_TupleF ?a ?_); case a => walk_at "s")
  | ((with_reducible refine' Ex_chain2 ?a ?_); case a => walk_at "s")
  | ((with_reducible refine' Ex_appG ?a ?b ?c ?d ?_); case a | b | c | d => walk_at "s")
  | (with_reducible first | refine Ex_int ?_ | refine Ex_str ?_ | refine Ex_BinOp ?_ | refine Ex_none ?_ | refine Ex_bool ?_ | refine Ex_And2 ?_ | refine Ex_UnaryOp ?_ | fail "x")
  | fail "x")
local macro_rules | `(tactic| walk_at "m ts") => `(tactic| first
  | ((with_reducible refine' Ts_Compare ?a ?_); case a => walk_at "s")
  | ((with_reducible refine' Ts_chain2 ?a ?_); case a => walk_at "s")
  | ((with_reducible refine' Ts_val ?a ?_); case a => walk_at "s")
  | (with_reducible first | refine Ts_Not ?_ | refine Ts_And ?_ | refine Ts_And_nil ?_ | refine Ts_Or ?_ | refine Ts_Or_nil ?_ | fail "x")
  | fail "x")
local macro_rules | `(tactic| walk_at "m bin") => `(tactic| first
  | ((with_reducible refine' Bin_mod ?a ?b ?_); case a | b => walk_at "s")
  | ((with_reducible refine' Bin_div ?a ?b ?_); case a | b => walk_at "s")
  | ((with_reducible refine' Bin_pow ?a ?b ?c ?_); case a | b | c => walk_at "s")
  | ((with_reducible refine' Bin_mul ?a ?_); case a => walk_at "s")
  | (with_reducible first | refine Bin_add ?_ | refine Bin_sub ?_ | fail "x")
  | fail "x")
local macro_rules | `(tactic| walk_at "m cmp") => `(tactic| first
  | ((with_reducible refine' Cmp_isNone ?a ?_); case a => walk_at "s")
  | ((with_reducible refine' Cmp_isNotNone ?a ?_); case a => walk_at "s")
  | ((with_reducible refine' Cmp_inDi ?a ?_); case a => walk_at "s")
  | ((with_reducible refine' Cmp_notInDi ?a ?_); case a => walk_at "s")
  | ((with_reducible refine' Cmp_inLi ?a ?_); case a => walk_at "s")
  | ((with_reducible refine' Cmp_notInLi ?a ?_); case a => walk_at "s")
  | (with_reducible first | refine Cmp_lt ?_ | refine Cmp_eq ?_ | refine Cmp_le ?_ | refine Cmp_gt ?_ | refine Cmp_ge ?_ | refine Cmp_ne ?_ | refine Cmp_eqStr ?_ | fail "x")
  | fail "x")
local macro_rules | `(tactic| walk_at "m store") => `(tactic| first
  | ((with_reducible refine' Store_loc ?a ?b ?c ?_); case a | b | c => walk_at "s")
  | ((with_reducible refine' Store_cel ?a ?b ?c ?_); case a | b | c => walk_at "s")
  | fail "x")
local macro_rules | `(tactic| walk_at "m call") => `(tactic| first
  | ((with_reducible refine' Call_len_list ?a ?_); case a => walk_at "s")
  | ((with_reducible refine' Call_len_tup ?a ?_); case a => walk_at "s")
  | ((with_reducible refine' isi_list_list ?a ?_); case a => walk_at "s")
  | ((with_reducible refine' Call_listF ?a ?b ?_); case a | b => walk_at "s")
  | ((with_reducible refine' Call_max' ?a ?_); case a => walk_at "s")
  | ((with_reducible refine' Call_min' ?a ?_); case a => walk_at "s")
  | ((with_reducible refine' Call_len_ro ?a ?_); case a => walk_at "s")
  | (with_reducible first | refine isi_int_int ?_ | refine isi_int_bool ?_ | refine Call_intBool ?_ | fail "x")
  | fail "x")
local macro_rules | `(tactic| walk_at "m ite") => `(tactic| first
  | ((with_reducible refine' and_lim ?a ?_); (case a => exact Nat.le_of_ble_eq_true rfl))
  | (with_reducible first | refine if_tt ?_ | refine if_ff ?_ | refine if_ntt ?_ | fail "x")
  | fail "x")
local macro_rules | `(tactic| walk_at "m1") => `(tactic| first
  | (guard_target = Ex _ _ _ _; walk_at "m ex")
  | (guard_target = Exs _ _ _ _ _; first | ((with_reducible refine' Exs_cons ?a ?_); (case a => rfl)) | with_reducible refine Exs_nil ?_)
  | (guard_target = Sts _ _ _ _; (with_reducible first | refine Sts_cons ?_ | refine Sts_nil ?_ | fail "x"))
  | (guard_target = Stm _ _ _ _; walk_at "m stm")
  | (guard_target = Ts _ _ _ _; walk_at "m ts")
  | (guard_target = Bin _ _ _ _ _ _; walk_at "m bin")
  | (guard_target = Cmp _ _ _ _ _ _; walk_at "m cmp")
  | (guard_target = Trt _ _ _ _; (with_reducible first | refine Trt_bool ?_ | fail "x"))
  | (guard_target = Store _ _ _ _ _; walk_at "m store")
  | (guard_target = CallV _ _ _ _ _; walk_at "m call")
  | (guard_target = SubG _ _ _ _ _; first | ((with_reducible refine' SubG_tup ?a ?b ?c ?_); (case a => walk_at "m has"); (case b => decide); (case c => rfl)) | ((with_reducible refine' SubG_list ?a ?b ?c ?_); (case a => walk_at "m has"); (case b => decide); (case c => rfl)))
  | (guard_target = Una _ _ _ _ _; (with_reducible first | refine Una_Not ?_ | fail "x"))
  | ((with_reducible refine' AppG_i ?a ?_); case a => walk_at "s")
  | ((with_reducible refine' App2_i ?a ?b ?_); case a | b => walk_at "s")
  | walk_at "m ite" | fail "x")
local macro_rules | `(tactic| walk_at "m") => `(tactic| repeat' (walk_at "m1"; (try dsimp only [List.nil_append, List.cons_append])))
section
set_option autoImplicit false
set_option linter.unusedVariables false
set_option linter.unusedSimpArgs false
open PySem PySem.SeqAt
section
variable {C : Cx} {hb : Heap} {σ : St} {prog : Program} {w : World} {sc cs : Scope} {n : Nat} {md : List Addr} {fl : Bool} {x : Str}

/-- an owned object is given up -/
theorem Holds.lose {s s' : Shared} {l : Loc} {B : MH} {a : Addr} {mo : MO} {own : Own} (OK : C.Ok hb) (H : Holds C ⟨l, B, (a, mo) :: own⟩ s) (ha : a ∉ C.mod)
    (e : ∀ b ob, b ≠ a → s.heap.get? b = some ob → s'.heap.get? b = some ob) (hg : s'.gens = s.gens) (hos : s'.os = s.os) : Holds C ⟨l, B, own⟩ s' := by
  have nd : (a :: (own.map (·.1) ++ C.fr)).Nodup := H.nodup
  have nd1 := List.nodup_cons.mp nd
  have ma' : a ∈ (((a, mo) :: own).map (·.1)) ++ C.fr := List.mem_append_left _ List.mem_cons_self
  have nal : ¬ C.al a := (H.ownNew (a, mo) (.head _)).resolve_right ha
  have nfr : ∀ b ∈ C.fr, b ≠ a := fun b hb' e' => by subst e'; exact nd1.1 (List.mem_append_right _ hb')
  have cne : ∀ x c, C.env.cells.lookup x = some c → c ≠ a := fun x c hc => by
    rcases OK.cellsIn x c hc with h | ⟨ob, h⟩
    · exact nfr c h
    · exact fun e' => H.apartK a ma' ob (e' ▸ h)
  have lne : C.env.locals ≠ a := nfr _ OK.locals
  exact {
    kp := fun b ob h => e _ _ (fun e' => H.apartK a ma' ob (e' ▸ h)) (H.kp _ _ h)
    names := fun x v h => (H.names x v h).extBut e lne (cne x)
    ns := let ⟨m, h⟩ := H.ns; ⟨m, h.extBut e lne⟩
    cells := fun x c h => let ⟨v, ob, h1, h2⟩ := H.cells x c h; ⟨v, ob, e _ _ (cne x c h) h1, h2⟩
    alive := fun b hb' => let ⟨ob, h⟩ := H.alive b hb'; ⟨ob, e _ _ (nfr b hb') h⟩
    B := fun b ob h => (H.B b ob h).at fun oo ho' => e _ _ (fun e' => by have h : B b = some ob := h; rw [e', show B a = none from H.apartB a ma'] at h; cases h) ho'
    own := fun p hp => (H.own p (.tail _ hp)).at fun oo ho' => e _ _ (fun e' => nd1.1 (List.mem_append_left _ (e' ▸ List.mem_map_of_mem (f := (·.1)) hp))) ho'
    nodup := nd1.2
    apartB := fun b hb' => H.apartB b (.tail _ hb')
    apartK := fun b hb' => H.apartK b (.tail _ hb')
    gens := hg.trans H.gens
    os := hos.trans H.os
    al := fun b hb' => let ⟨ob, hob⟩ := H.al b hb'; ⟨ob, e _ _ (fun e' => nal (e' ▸ hb')) hob⟩
    B0 := H.B0
    Bnew := H.Bnew
    noB := H.noB
    ownNew := fun p hp => H.ownNew p (.tail _ hp) }

theorem Holds.newAt {s s' : Shared} {a : Addr} {mo : MO} (H : Holds C σ s) (ha : s.heap.objs.size ≤ a) (e : ∀ b o, s.heap.get? b = some o → s'.heap.get? b = some o) (hg : s'.gens = s.gens) (hos : s'.os = s.os) (ho : OR s'.heap a mo) :
    Holds C { σ with own := (a, mo) :: σ.own } s' := (H.ext e hg hos).addO (H.far ha) ho
theorem Cmp_neList {a b : Addr} {xs ys : List MV} {e : Nat → Bool} {Q : MV → St → Prop} (OK : C.Ok hb) (ha : Has σ a (.list xs)) (hb' : Has σ b (.list ys)) (hlen : xs.length = ys.length)
    (he : ∀ i m m', xs[i]? = some m → ys[i]? = some m' → EqM σ m m' (e i)) (h : Q (.bool (!(List.range xs.length).all e)) σ) : Cmp C .NotEq (.ref a) (.ref b) σ Q := fun va vb hva hvb s H => by
  obtain rfl : va = _ := hva
  obtain rfl : vb = _ := hvb
  obtain ⟨vs, nn, hob, hr, hlim⟩ := H.has ha
  obtain ⟨us, nn', hob', hr', hlim'⟩ := H.has hb'
  have hsz : vs.size = xs.length := by have := hr.length; simp at this; exact this.symm
  have hsz' : us.size = ys.length := by have := hr'.length; simp at this; exact this.symm
  refine PySem.W.cmp_ofNotEq (RcNeAt.lists (items := vs) (items2 := us) (e := e) ⟨_, hob, rfl, nn, rfl⟩ ⟨_, hob', rfl, nn', rfl⟩ (by omega) (by have := OK.units; omega) (fun j h1 h2 => ?_) _ _ _ _ ?_)
  · obtain ⟨m, hm, hmr⟩ := hr.getv (i := j) (v := vs[j]) (by simp [h1])
    obtain ⟨m', hm', hmr'⟩ := hr'.getv (i := j) (v := us[j]) (by simp [h2])
    exact (he j m m' hm hm').at H hmr hmr' _
  · rw [hsz]; exact ⟨.bool _, σ, rfl, H, h⟩
theorem Cmp_neSame {a b : Addr} {xs : List MV} {Q : MV → St → Prop} (OK : C.Ok hb) (ha : Has σ a (.list xs)) (hb' : Has σ b (.list xs)) (hx : ∀ m ∈ xs, (∃ i, m = .int i) ∨ ∃ c, m = .ref c) (h : Q (.bool false) σ) : Cmp C .NotEq (.ref a) (.ref b) σ Q := by
  refine Cmp_neList OK ha hb' (e := fun _ => true) rfl (fun i m m' h1 h2 => ?_) (by rw [show (List.range xs.length).all (fun _ => true) = true from by simp]; exact h)
  rw [h1] at h2; cases h2
  rcases hx m (List.mem_of_getElem? h1) with ⟨j, rfl⟩ | ⟨c, rfl⟩
  · simpa using EqM.int (σ := σ) j j
  · exact .same c
theorem mv_ints (l : List Int) : ∀ m ∈ l.map MV.int, (∃ i, m = .int i) ∨ ∃ c, m = .ref c := fun m hm => by obtain ⟨j, _, rfl⟩ := List.mem_map.mp hm; exact .inl ⟨j, rfl⟩
theorem mv_refs (l : List Addr) : ∀ m ∈ l.map MV.ref, (∃ i, m = .int i) ∨ ∃ c, m = .ref c := fun m hm => by obtain ⟨j, _, rfl⟩ := List.mem_map.mp hm; exact .inr ⟨j, rfl⟩

/-! sorted -/
theorem intsAre_of {ns : List Int} {vs : List Value} (h : VsR (ns.map MV.int) vs) : PyProof.Rows.IntsAre vs ns := by
  induction ns generalizing vs with
  | nil => cases h; exact .nil
  | cons a ns ih =>
    cases h with
    | cons h1 h2 => obtain ⟨t, rfl⟩ := h1; exact .cons a t (ih h2)
theorem of_intsAre {ns : List Int} {vs : List Value} (h : PyProof.Rows.IntsAre vs ns) : VsR (ns.map MV.int) vs := by
  induction h with
  | nil => exact .nil
  | cons n t _ ih => exact .cons ⟨t, rfl⟩ ih
theorem Call_sorted {a : Addr} {ns : List Int} {Q : MV → St → Prop} (F : Fx C hb prog w sc n md fl) (hh : Has σ a (.list (ns.map MV.int))) (h64 : ns.length < 64)
    (h : ∀ (ns' : List Int) (b : Addr), ns'.Perm ns → ns'.Pairwise (· ≤ ·) → Fsh md σ b → Q (.ref b) { σ with own := (b, .list (ns'.map MV.int)) :: σ.own }) : CallV C (.builtin "sorted") [.ref a] σ Q := fun vs hvs s H => by
  obtain ⟨v, rfl, hv⟩ := hvs.one
  obtain rfl : v = .ref a := hv
  obtain ⟨⟨vs⟩, nn, hob, hr, hlim⟩ := H.has hh
  have hI := intsAre_of hr
  refine PyProof.Rows.sorted_ints (vs := vs) (ns := ns) ⟨_, hob, rfl, nn, rfl⟩ hI (by have := hr.length; simp at this; omega) fun out ns' h1 h2 h3 => ?_
  obtain ⟨e, he⟩ := PyProof.Rows.sortedAll_at s.heap vs out
  refine ⟨.ref _, _, rfl, H.newAt (a := s.heap.objs.size + 1) (s' := { s with heap := PyProof.Rows.sortedAll s.heap vs out }) (mo := .list (ns'.map MV.int)) (Nat.le_succ _) (fun b o hb' => PyProof.Rows.sortedAll_old hb') rfl rfl ⟨out, e, he, of_intsAre h1, ?_⟩, h ns' _ h2 h3 (F.emod ▸ H.fshAt F.ok (Nat.le_succ _))⟩
  simp only [List.length_map] at hlim ⊢
  rw [h2.length_eq]; exact hlim

/-! list(dict) -/
theorem vr_key {k : Option Int} {v : Value} (h : keyIs k v = true) : VR (keyMV k) v := by
  cases k with
  | none => cases v <;> simp [keyIs] at h <;> rfl
  | some i => cases v <;> simp [keyIs, Value.isInt] at h; subst h; exact ⟨_, rfl⟩
theorem vsR_of : ∀ (ms : List MV) (vs : List Value), vs.length = ms.length → (∀ (i : Nat) (v : Value), vs[i]? = some v → ∃ m, ms[i]? = some m ∧ VR m v) → VsR ms vs
  | [], [], _, _ => .nil
  | m :: ms, v :: vs, hl, h => by
    obtain ⟨m', e, hv⟩ := h 0 v rfl
    cases e
    exact .cons hv (vsR_of ms vs (by simpa using hl) fun i u hu => h (i + 1) u hu)
theorem Call_listDict {d : Addr} {kvs : KV} {Q : MV → St → Prop} (F : Fx C hb prog w sc n md fl) (hh : Has σ d (.dict kvs))
    (h : ∀ b, Fsh md σ b → Q (.ref b) { σ with own := (b, .list (kvs.map fun p => keyMV p.1)) :: σ.own }) : CallV C (.type "list") [.ref d] σ Q := fun vs hvs s H => by
  obtain ⟨v, rfl, hv⟩ := hvs.one
  obtain rfl : v = .ref d := hv
  obtain ⟨hms, vk, ⟨p0, w0, hdo⟩, hkv, hlim⟩ := H.has hh
  obtain ⟨ep, hd⟩ : ∃ ep, s.heap.DictAt (optKind C.prog C.w) d vk ep := (dictOf_any (p' := C.prog) (w' := C.w) hdo).dictAt
  refine PySem.W.kdl_call (PySem.W.kdl_dict (knd := optKind C.prog C.w) (kvs := vk) (ep := ep) hms) F.ok.handled hd (by rw [← hkv.length]; exact Nat.le_trans hlim lim_le) fun h' tk acc c' hk hD hacc => ?_
  refine ⟨.ref _, _, rfl, H.newAt (a := s.heap.objs.size) (s' := { s with heap := h', toks := tk }) (mo := .list (kvs.map fun p => keyMV p.1)) (Nat.le_refl _) hk rfl rfl ⟨acc, c', hD, vsR_of _ _ ?_ fun i v hv => ?_, by simpa using hlim⟩, h _ (F.emod ▸ H.fshAt F.ok (Nat.le_refl _))⟩
  · rw [Array.length_toList, hacc.1, List.length_map, ← hkv.length]
  · obtain ⟨k, u, hku, hkk⟩ := hacc.2 i v (by rw [← Array.getElem?_toList]; exact hv)
    have e1 : (kvs.map (·.1))[i]? = some k := by rw [hkv.k, List.getElem?_map, hku]; rfl
    rw [List.getElem?_map] at e1
    obtain ⟨q, hq, e2⟩ := Option.map_eq_some_iff.mp e1
    exact ⟨keyMV q.1, by rw [List.getElem?_map, hq]; rfl, by rw [e2]; exact vr_key hkk⟩
/-! list(reversed(list)) -/
theorem lri_no_len : typeLookup (.type "list_reverseiterator") "__len__" = pure none := by rw [typeLookup_type, builtinLookup_eq_fast]; kernel_rfl
theorem lri_hint : typeLookup (.type "list_reverseiterator") "__length_hint__" = pure (some (.builtin "list_reverseiterator.__length_hint__")) := by rw [typeLookup_type, builtinLookup_eq_fast]; kernel_rfl
theorem hint_lri {A : Around} {E : Value → Shared → Prop} {s : Shared} {r : Addr} {Q : Bool → Shared → Prop} (hT : s.TypeIs (.ref r) "list_reverseiterator") (h : Q false s) : wpAny (model prog w) A (Builtin.List.listLengthHint (.ref r)) Q E s := by
  unfold Builtin.List.listLengthHint
  refine wpAny_bind (wpAny_specialOf hT lri_no_len ?_)
  refine wpAny_bind (wpAny_specialOf (name := Str.ofString "__length_hint__") hT lri_hint ?_)
  generalize hid : ("list_reverseiterator.__length_hint__" : String) = id0
  wp_delta
  rw [show splitId id0 = some ("list_reverseiterator", "__length_hint__") from by subst hid; decide +kernel]
  subst hid
  refine wpAny_bind (wpAny_isInstance (T := "list_reverseiterator") (b := true) hT (by rw [isSubtype_type]; kernel_rfl) ?_)
  refine wpAny_ite_split (fun hab => absurd hab (by decide)) (fun _ => ?_)
  refine wpAny_ite_split (fun _ => ?_) (fun hab => absurd (by decide +kernel) hab)
  refine wpAny_ite_split (fun hab => absurd hab (by decide +kernel)) (fun _ => ?_)
  exact wpAny_pure h
theorem lri_extend {A : Around} {s : Shared} {R : Result → Shared → Prop} {I l S : Addr} {items : Array Value} (hh : A.handled = none) (hit : s.heap.IsRevIter I l ((items.size : Int) - 1)) (hl : s.heap.IsList l items) (hSI : S ≠ I) (hSl : S ≠ l) (hlI : l ≠ I) (res : Value) (c₀ : Nat)
    (hS : s.heap.get? S = some { cls := .type "list", data := .seq #[] c₀ })
    (hR : ∀ h' tk acc' c', (∀ b o, b ≠ S → b ≠ I → s.heap.get? b = some o → h'.get? b = some o) → h'.get? S = some { cls := .type "list", dict := none, data := .seq acc' c', slots := #[] } → ItemsOf (fun i v => items[items.size - 1 - i]? = some v) acc' items.size → R (.ok (.ret res)) { s with heap := h', toks := tk }) (hn : items.size ≤ sizeLine) :
    wpAny (model prog w) A.in1 (Builtin.List.listExtendWith (.ref S) (.ref I) res)
      (fun fin s' => match fin with | .done f => R (.ok f) s' | .again c' => c'.quiet = true ∧ codeAny (model prog w) A c' R s') (fun e s' => R (.error e) s') s := by
  have W := Walks.listRev (prog := prog) (w := w) (A := A.in1) hh I l hlI items
  have hSf : S ∉ [I, l] := by simp [hSI, hSl]
  unfold Builtin.List.listExtendWith
  refine wpAny_bind (wpAny_typeOf (T := "list_reverseiterator") hit.typeIs ?_)
  have h1 : Builtin.List.listSameRef (.ref S) (.ref I) = false := by simp [Builtin.List.listSameRef, hSI]
  have h2 : (Value.type "list_reverseiterator" == Value.type "list") = false := by decide
  have h3 : (Value.type "list_reverseiterator" == Value.type "tuple") = false := by decide
  simp only [h1, h2, h3, Bool.or_false, Bool.false_eq_true, if_false]
  refine wpAny_bind (wpAny_pyIter_revIter hit ?_)
  refine wpAny_bind (wpAny_holding (hint_lri hit.typeIs ?_))
  refine wpAny_ite_split (fun hab => absurd hab (by decide +kernel)) (fun _ => wpAny_pure ⟨plainId_quiet PySem.F.plain_extend_loop _, ?_⟩)
  refine codeAny_extend_loopS W.toS hn S hSf res items.size 0 _ #[] c₀ rfl (Nat.zero_le _) ⟨Nat.zero_le _, by simpa using hit, hl⟩ hS (ItemsOf.nil _) fun s' acc' c' hm hS' hacc => ?_
  rw [Moved.eq_with hm]
  refine hR s'.heap s'.toks acc' c' (fun b o hb hbI e => hm.heap b o (fun hmem => ?_) e) hS' hacc
  rcases List.mem_cons.mp hmem with e' | hmem
  · exact hb e'
  · exact hbI (List.mem_singleton.mp hmem)
theorem lri_call {A : Around} {E : Value → Shared → Prop} {s : Shared} {Q : Value → Shared → Prop} {I l : Addr} {items : Array Value} (hh : A.handled = none) (hit : s.heap.IsRevIter I l ((items.size : Int) - 1)) (hl : s.heap.IsList l items) (hlI : l ≠ I) (hn : items.size ≤ sizeLine)
    (hQ : ∀ h' tk acc' c', (∀ b o, b ≠ I → s.heap.get? b = some o → h'.get? b = some o) → h'.get? s.heap.objs.size = some { cls := .type "list", dict := none, data := .seq acc' c', slots := #[] } → ItemsOf (fun i v => items[items.size - 1 - i]? = some v) acc' items.size → Q (.ref s.heap.objs.size) { s with heap := h', toks := tk }) :
    wpAny (model prog w) A (call (.type "list") [.ref I]) Q E s := by
  refine callType_codes (Q₁ := fun obj s₁ => obj = .ref s.heap.objs.size ∧ s₁ = { s with heap := s.heap.push { cls := .type "list", data := .seq #[] } }) PySem.F.called_list (PySem.F.typeCall_list_1 _) PySem.F.entry_list_init
    (code_list_new _ ⟨rfl, rfl⟩) fun obj s₁ h₁ => ?_
  obtain ⟨rfl, rfl⟩ := h₁
  have hS : (s.heap.push { cls := .type "list", data := .seq #[] }).get? s.heap.objs.size = some { cls := .type "list", data := .seq #[] } := Heap.get?_push_size _ rfl
  obtain ⟨oI, hoI, hI2⟩ := id hit
  obtain ⟨ol, hol, hl2⟩ := id hl
  have hSI : s.heap.objs.size ≠ I := Nat.ne_of_gt (Heap.lt_size hoI)
  have hSl : s.heap.objs.size ≠ l := Nat.ne_of_gt (Heap.lt_size hol)
  refine ⟨⟨_, hS, rfl⟩, PySem.F.args_list_init_2 _ _, ?_⟩
  show wpAny _ _ (do let old ← Builtin.List.listItems (.ref s.heap.objs.size); Builtin.List.listUpdate (.ref s.heap.objs.size) (fun _ => #[]); letGo old.toList.reverse; Builtin.List.listExtendWith (.ref s.heap.objs.size) (.ref I) .none) _ _ _
  refine wpAny_bind ?_
  unfold Builtin.List.listItems
  refine wpAny_bind (wpAny_seqItems hS rfl (wpAny_pure ?_))
  show wpAny _ _ (updateSeq s.heap.objs.size (fun _ => #[]) >>= fun _ => letGo (#[] : Array Value).toList.reverse >>= fun _ => Builtin.List.listExtendWith (.ref s.heap.objs.size) (.ref I) .none) _ _ _
  refine wpAny_bind (wpAny_updateSeq hS rfl ?_)
  have hS₂ := Heap.get?_update_self (Obj.mapSeq (fun _ => (#[] : Array Value))) hS rfl
  have oth : ∀ b o, b ≠ s.heap.objs.size → s.heap.get? b = some o → ((s.heap.push { cls := .type "list", data := .seq #[] }).update s.heap.objs.size (Obj.mapSeq (fun _ => (#[] : Array Value)))).get? b = some o :=
    fun b o hb e => (Heap.get?_update_other _ _ (Ne.symm hb)).trans (Heap.get?_push_of_some _ e)
  refine wpAny_bind (wpAny_letGo ?_)
  refine lri_extend (A := A.in1) (l := l) hh ⟨oI, oth _ _ hSI.symm hoI, hI2⟩ ⟨ol, oth _ _ hSl.symm hol, hl2⟩ hSI hSl hlI .none _ hS₂ (fun h' tk acc' c' hk hS' hacc => ?_) hn
  exact ⟨rfl, hQ h' tk acc' c' (fun b o hb e => hk b o (Nat.ne_of_lt (Heap.lt_size e)) hb (oth b o (Nat.ne_of_lt (Heap.lt_size e)) e)) hS' hacc⟩
theorem Call_reversed {a : Addr} {xs : List MV} {Q : MV → St → Prop} (F : Fx C hb prog w sc n md fl) (hh : Has σ a (.list xs))
    (h : ∀ b, Fsh md σ b → Q (.ref b) { σ with own := (b, .raw (revObj a ((xs.length : Int) - 1))) :: σ.own }) : CallV C (.type "reversed") [.ref a] σ Q := fun vs hvs s H => by
  obtain ⟨v, rfl, hv⟩ := hvs.one
  obtain rfl : v = .ref a := hv
  obtain ⟨vs, nn, hob, hr, hlim⟩ := H.has hh
  have hsz : vs.size = xs.length := by have := hr.length; simp at this; exact this.symm
  refine call_reversed_list (items := vs) ⟨_, hob, rfl, nn, rfl⟩ ?_
  rw [hsz]
  exact ⟨.ref _, _, rfl, H.new (mo := .raw _) (Heap.get?_push_size _ rfl), h _ (F.emod ▸ H.fsh F.ok)⟩
theorem Call_listRev {a b : Addr} {xs : List MV} {l : Loc} {B : MH} {own : Own} {Q : MV → St → Prop} (F : Fx C hb prog w sc n md fl) (hm : b ∉ md) (hh : Has ⟨l, B, own⟩ a (.list xs))
    (h : ∀ d, Fsh md ⟨l, B, own⟩ d → Q (.ref d) ⟨l, B, (d, .list xs.reverse) :: own⟩) : CallV C (.type "list") [.ref b] ⟨l, B, (b, .raw (revObj a ((xs.length : Int) - 1))) :: own⟩ Q := fun vs hvs s H => by
  obtain ⟨v, rfl, hv⟩ := hvs.one
  obtain rfl : v = .ref b := hv
  have hrev : s.heap.get? b = some (revObj a ((xs.length : Int) - 1)) := H.own (b, _) (.head _)
  have hh' : Has ⟨l, B, (b, .raw (revObj a ((xs.length : Int) - 1))) :: own⟩ a (.list xs) := hh.imp (fun h => .tail _ h) id
  obtain ⟨vs, nn, hob, hr, hlim⟩ := H.has hh'
  have hsz : vs.size = xs.length := by have := hr.length; simp at this; exact this.symm
  have hab : a ≠ b := fun e => by subst e; rw [hob] at hrev; have := congrArg (Option.map (·.cls)) hrev; simp [revObj] at this
  refine lri_call (l := a) (items := vs) F.ok.handled ⟨_, hrev, rfl, by rw [hsz]; rfl⟩ ⟨_, hob, rfl, nn, rfl⟩ hab (by rw [hsz]; exact Nat.le_trans hlim lim_le) fun h' tk acc c' hk hD hacc => ?_
  have hlt : b < s.heap.objs.size := Heap.lt_size hrev
  have H0 : Holds C ⟨l, B, own⟩ { s with heap := h', toks := tk } := H.lose F.ok (by rw [F.emod]; exact hm) hk rfl rfl
  have H1 : Holds C ⟨l, B, own⟩ s := H.drop (Sub0.rfl' _) H.B0 (List.sublist_cons_self ..)
  have hf := H1.fshAt F.ok (Nat.le_refl s.heap.objs.size)
  refine ⟨.ref _, ⟨l, B, (s.heap.objs.size, .list xs.reverse) :: own⟩, rfl, ?_, h _ (F.emod ▸ hf)⟩
  refine H0.addO (fresh_facts H1) ⟨acc, c', hD, vsR_of _ _ (by rw [Array.length_toList, hacc.1, List.length_reverse, hsz]) fun i v hv => ?_, by simpa using hlim⟩
  have hi := (List.getElem?_eq_some_iff.mp hv).1
  rw [Array.length_toList, hacc.1] at hi
  have hx := hacc.2 i v (by rw [← Array.getElem?_toList]; exact hv)
  have hi' : i < xs.length := by omega
  replace hx : vs[vs.size - 1 - i]? = some v := hx
  rw [← Array.getElem?_toList] at hx
  have hlen := hr.length
  refine ⟨xs.reverse[i]'(by simpa using hi'), by simp [hi'], ?_⟩
  obtain ⟨u, hu, hur⟩ := hr.get (i := vs.size - 1 - i) (m := xs[xs.length - 1 - i]'(by omega)) (by rw [hsz]; exact List.getElem?_eq_getElem (by omega))
  rw [hx] at hu
  cases hu
  rw [List.getElem_reverse]
  exact hur
end
end
section
set_option autoImplicit false
set_option linter.unusedVariables false
set_option linter.unusedSimpArgs false
open PySem
section
/-- a walk of so many steps -/
inductive Wk (E : Int → Int → Prop) (ok : Int → Prop) (st : Prop) (s : Int) : Nat → Int → Prop
  | zero : st → Wk E ok st s 0 s
  | succ {k : Nat} {a b : Int} : Wk E ok st s k a → E a b → ok b → Wk E ok st s (k + 1) b
variable {E : Int → Int → Prop} {ok : Int → Prop} {st : Prop} {s : Int} {n : Nat}
theorem Wk.rch {k : Nat} {x : Int} (h : Wk E ok st s k x) : Rch E ok s x := by
  induction h with
  | zero => exact .refl
  | succ _ e o ih => exact .step ih e o
theorem Wk.hst {k : Nat} {x : Int} (h : Wk E ok st s k x) : st := by
  induction h with
  | zero h => exact h
  | succ _ _ _ ih => exact ih
theorem Rch.wk {x : Int} (hst : st) (h : Rch E ok s x) : ∃ k, Wk E ok st s k x := by
  induction h with
  | refl => exact ⟨0, .zero hst⟩
  | step _ e o ih => obtain ⟨k, hk⟩ := ih; exact ⟨k + 1, .succ hk e o⟩

/-! breadth first: node, node before, level -/
abbrev BL := List (Int × Option Int × Nat)
structure BInv (E : Int → Int → Prop) (ok : Int → Prop) (s : Int) (n : Nat) (L : BL) (pr : Nat) (rest : List (Option Int)) : Prop where
  hd : L[0]? = some (s, none, 1)
  nd : (L.map (·.1)).Nodup
  rng : ∀ x : Int, x ∈ L.map (·.1) → 0 ≤ x ∧ x < n
  par : ∀ (j : Nat) (x p : Int) (l : Nat), L[j]? = some (x, some p, l) → ∃ (i : Nat) (q : Option Int) (l' : Nat), i < j ∧ i < pr ∧ L[i]? = some (p, q, l') ∧ l = l' + 1 ∧ E p x ∧ ok x
  root : ∀ (j : Nat) (x : Int) (l : Nat), L[j]? = some (x, none, l) → j = 0
  mono : ∀ (i j : Nat) (t u : Int × Option Int × Nat), i ≤ j → L[i]? = some t → L[j]? = some u → t.2.2 ≤ u.2.2
  top : ∀ (i j : Nat) (t u : Int × Option Int × Nat), i + 1 = pr → L[i]? = some t → L[j]? = some u → u.2.2 ≤ t.2.2 + 1
  fst : pr = 0 → L.length = 1
  ple : pr ≤ L.length
  clo : ∀ (i : Nat) (t : Int × Option Int × Nat), i < pr → L[i]? = some t → ∀ b, E t.1 b → ok b → (∃ (j : Nat) (u : Int × Option Int × Nat), L[j]? = some u ∧ u.1 = b ∧ u.2.2 ≤ t.2.2 + 1) ∨ (i + 1 = pr ∧ some b ∈ rest)
variable {L : BL} {pr : Nat} {rest : List (Option Int)}
theorem BInv.init (h0 : 0 ≤ s) (h1 : s < n) : BInv E ok s n [(s, none, 1)] 0 [] where
  hd := rfl
  nd := by simp
  rng := fun x hx => by simp at hx; subst hx; exact ⟨h0, h1⟩
  par := fun j x p l h => by
    cases j with
    | zero => simp at h
    | succ j => simp at h
  root := fun j x l h => by
    cases j with
    | zero => rfl
    | succ j => simp at h
  mono := fun i j t u hij hi hj => by
    have := (List.getElem?_eq_some_iff.mp hi).1
    have := (List.getElem?_eq_some_iff.mp hj).1
    simp at *
    obtain rfl : i = 0 := by omega
    obtain rfl : j = 0 := by omega
    rw [hi] at hj; cases hj; exact Nat.le_refl _
  top := fun i j t u h => absurd h (Nat.succ_ne_zero _)
  fst := fun _ => rfl
  ple := by simp
  clo := fun i t h => absurd h (Nat.not_lt_zero _)
theorem BInv.enter {c : Int} {q : Option Int} {l : Nat} {succ : List (Option Int)} (D : BInv E ok s n L pr []) (hc : L[pr]? = some (c, q, l)) (hs : ∀ b, E c b → some b ∈ succ) : BInv E ok s n L (pr + 1) succ where
  hd := D.hd
  nd := D.nd
  rng := D.rng
  par := fun j x p l h => let ⟨i, q, l', h1, h2, h3⟩ := D.par j x p l h; ⟨i, q, l', h1, Nat.lt_succ_of_lt h2, h3⟩
  root := D.root
  mono := D.mono
  top := fun i j t u hi ht hu => by
    obtain rfl : i = pr := Nat.succ.inj hi
    rw [hc] at ht; cases ht
    cases i with
    | zero =>
      have := D.fst rfl
      have hj := (List.getElem?_eq_some_iff.mp hu).1
      obtain rfl : j = 0 := by omega
      rw [hc] at hu; cases hu; exact Nat.le_succ _
    | succ i =>
      have hi' : i < L.length := Nat.lt_of_succ_lt (List.getElem?_eq_some_iff.mp hc).1
      have e := List.getElem?_eq_getElem hi'
      have h1 := D.top i j _ u rfl e hu
      have h2 := D.mono i (i + 1) _ _ (Nat.le_succ i) e hc
      dsimp only at h2 ⊢
      exact Nat.le_trans h1 (Nat.succ_le_succ h2)
  fst := fun h => absurd h (Nat.succ_ne_zero _)
  ple := (List.getElem?_eq_some_iff.mp hc).1
  clo := fun i t hi ht b e o => by
    by_cases hp : i < pr
    · rcases D.clo i t hp ht b e o with h | ⟨_, h⟩
      · exact .inl h
      · simp at h
    · obtain rfl : i = pr := Nat.le_antisymm (Nat.le_of_lt_succ hi) (Nat.not_lt.mp hp)
      rw [hc] at ht; cases ht
      exact .inr ⟨rfl, hs b e⟩
theorem BInv.skip {o : Option Int} (D : BInv E ok s n L (pr + 1) (o :: rest)) {c : Int} {q : Option Int} {l : Nat} (hc : L[pr]? = some (c, q, l)) (h : ∀ b, o = some b → ok b → b ∈ L.map (·.1)) : BInv E ok s n L (pr + 1) rest where
  hd := D.hd
  nd := D.nd
  rng := D.rng
  par := D.par
  root := D.root
  mono := D.mono
  top := D.top
  fst := D.fst
  ple := D.ple
  clo := fun i t hi ht b e o' => by
    rcases D.clo i t hi ht b e o' with h' | ⟨h', h''⟩
    · exact .inl h'
    · rcases List.mem_cons.mp h'' with h3 | h3
      · left
        obtain ⟨u, hu, e1⟩ := List.mem_map.mp (h b h3.symm o')
        obtain ⟨j, hj⟩ := List.mem_iff_getElem?.mp hu
        exact ⟨j, u, hj, e1, D.top i j t u h' ht hj⟩
      · exact .inr ⟨h', h3⟩
theorem BInv.add {b c : Int} {q : Option Int} {l : Nat} (D : BInv E ok s n L (pr + 1) (some b :: rest)) (hc : L[pr]? = some (c, q, l)) (he : E c b) (ho : ok b) (hb : b ∉ L.map (·.1)) (h0 : 0 ≤ b) (h1 : b < n) : BInv E ok s n (L ++ [(b, some c, l + 1)]) (pr + 1) rest := by
  have old : ∀ {i : Nat} {t : Int × Option Int × Nat}, L[i]? = some t → (L ++ [(b, some c, l + 1)])[i]? = some t := fun {i t} h => by
    rw [List.getElem?_append_left (List.getElem?_eq_some_iff.mp h).1]; exact h
  have new : ∀ {i : Nat} {t : Int × Option Int × Nat}, (L ++ [(b, some c, l + 1)])[i]? = some t → L[i]? = some t ∨ (i = L.length ∧ t = (b, some c, l + 1)) := fun {i t} h => by
    by_cases hi : i < L.length
    · rw [List.getElem?_append_left hi] at h; exact .inl h
    · rw [List.getElem?_append_right (Nat.not_lt.mp hi)] at h
      have e : i - L.length = 0 := by
        have := (List.getElem?_eq_some_iff.mp h).1
        simp at this; omega
      rw [e] at h; simp at h
      exact .inr ⟨by omega, h.symm⟩
  have hpl : pr < L.length := (List.getElem?_eq_some_iff.mp hc).1
  exact {
    hd := old D.hd
    nd := by
      rw [List.map_append]
      exact List.nodup_append.mpr ⟨D.nd, by simp, fun x hx y hy e => by simp at hy; subst hy; subst e; exact hb hx⟩
    rng := fun x hx => by
      rw [List.map_append] at hx
      rcases List.mem_append.mp hx with h | h
      · exact D.rng x h
      · simp at h; subst h; exact ⟨h0, h1⟩
    par := fun j x p l' h => by
      rcases new h with h' | ⟨rfl, h'⟩
      · obtain ⟨i, q, l'', a1, a2, a3, a4⟩ := D.par j x p l' h'
        exact ⟨i, q, l'', a1, a2, old a3, a4⟩
      · cases h'
        exact ⟨pr, q, l, hpl, Nat.lt_succ_self _, old hc, rfl, he, ho⟩
    root := fun j x l' h => by
      rcases new h with h' | ⟨rfl, h'⟩
      · exact D.root j x l' h'
      · cases h'
    mono := fun i j t u hij hi hj => by
      rcases new hi with hi | ⟨rfl, rfl⟩
      · rcases new hj with hj | ⟨rfl, rfl⟩
        · exact D.mono i j t u hij hi hj
        · exact D.top pr i _ t rfl hc hi
      · rcases new hj with hj | ⟨rfl, rfl⟩
        · have := (List.getElem?_eq_some_iff.mp hj).1; exact absurd hij (Nat.not_le.mpr this)
        · exact Nat.le_refl _
    top := fun i j t u hi ht hu => by
      obtain rfl : i = pr := Nat.succ.inj hi
      rw [old hc] at ht; cases ht
      rcases new hu with hu | ⟨rfl, rfl⟩
      · exact D.top i j _ u rfl hc hu
      · exact Nat.le_refl _
    fst := fun h => absurd h (Nat.succ_ne_zero _)
    ple := by rw [List.length_append]; exact Nat.le_trans D.ple (Nat.le_add_right ..)
    clo := fun i t hi ht b' e o' => by
      rcases new ht with ht | ⟨rfl, _⟩
      · rcases D.clo i t hi ht b' e o' with ⟨j, u, hj, hu⟩ | ⟨h', h''⟩
        · exact .inl ⟨j, u, old hj, hu⟩
        · rcases List.mem_cons.mp h'' with h3 | h3
          · cases h3
            obtain rfl : i = pr := Nat.succ.inj h'
            rw [hc] at ht; cases ht
            exact .inl ⟨L.length, (b, some c, l + 1), by simp, rfl, Nat.le_refl _⟩
          · exact .inr ⟨h', h3⟩
      · exact absurd hi (Nat.not_lt.mpr hpl) }
theorem BInv.len (D : BInv E ok s n L pr rest) : L.length ≤ n := by
  have := length_le_of_nodup n (L.map (·.1)) D.nd D.rng
  simpa using this
theorem BInv.lvl (D : BInv E ok s n L pr rest) : ∀ (j : Nat) (x : Int) (p : Option Int) (l : Nat), L[j]? = some (x, p, l) → l ≤ j + 1 := by
  intro j
  induction j using Nat.strongRecOn with
  | _ j ih =>
    intro x p l h
    cases p with
    | none =>
      obtain rfl := D.root j x l h
      rw [D.hd] at h; cases h; exact Nat.le_refl _
    | some p =>
      obtain ⟨i, q, l', h1, h2, h3, h4, h5, h6⟩ := D.par j x p l h
      have := ih i h1 p q l' h3
      rw [h4]; exact Nat.succ_le_succ (Nat.le_trans this h1)
theorem BInv.oks (D : BInv E ok s n L pr rest) (h0 : ok s) {x : Int} (hx : x ∈ L.map (·.1)) : ok x := by
  obtain ⟨⟨y, p, l⟩, hm, rfl⟩ := List.mem_map.mp hx
  obtain ⟨j, hj⟩ := List.mem_iff_getElem?.mp hm
  cases p with
  | none =>
    obtain rfl := D.root j y l hj
    rw [D.hd] at hj; cases hj; exact h0
  | some p => obtain ⟨i, q, l', h1, h2, h3, h4, h5, h6⟩ := D.par j y p l hj; exact h6
theorem BInv.sound (D : BInv E ok s n L pr rest) (hst : st) : ∀ (j : Nat) (x : Int) (p : Option Int) (l : Nat), L[j]? = some (x, p, l) → ∃ k, l = k + 1 ∧ Wk E ok st s k x := by
  intro j
  induction j using Nat.strongRecOn with
  | _ j ih =>
    intro x p l h
    cases p with
    | none =>
      obtain rfl := D.root j x l h
      rw [D.hd] at h; cases h
      exact ⟨0, rfl, .zero hst⟩
    | some p =>
      obtain ⟨i, q, l', h1, h2, h3, h4, h5, h6⟩ := D.par j x p l h
      obtain ⟨k, hk, hw⟩ := ih i h1 p q l' h3
      exact ⟨k + 1, by rw [h4, hk], .succ hw h5 h6⟩
theorem BInv.near (D : BInv E ok s n L pr []) : ∀ (k : Nat) (x : Int), Wk E ok st s k x → (∃ (j : Nat) (t : Int × Option Int × Nat), L[j]? = some t ∧ t.1 = x ∧ t.2.2 ≤ k + 1) ∨ ∀ (i : Nat) (t : Int × Option Int × Nat), i < pr → L[i]? = some t → t.2.2 < k + 1 := by
  intro k x h
  induction h with
  | zero _ => exact .inl ⟨0, _, D.hd, rfl, Nat.le_refl _⟩
  | @succ k a b _ e o ih =>
    rcases ih with ⟨j, t, hj, rfl, hl⟩ | h
    · by_cases hp : j < pr
      · rcases D.clo j t hp hj b e o with ⟨i, u, hi, hu, hlu⟩ | ⟨_, h⟩
        · exact .inl ⟨i, u, hi, hu, Nat.le_trans hlu (Nat.succ_le_succ hl)⟩
        · simp at h
      · right
        intro i u hi hu
        have := D.mono i j u t (Nat.le_trans (Nat.le_of_lt hi) (Nat.not_lt.mp hp)) hu hj
        exact Nat.lt_succ_of_le (Nat.le_trans this hl)
    · right
      intro i t hi ht
      have := h i t hi ht
      exact Nat.lt_succ_of_lt this
theorem nodup_get {L : BL} (hn : (L.map (·.1)).Nodup) {i j : Nat} {t u : Int × Option Int × Nat} (hi : L[i]? = some t) (hj : L[j]? = some u) (e : t.1 = u.1) : t = u := by
  have h1 : (L.map (·.1))[i]? = some t.1 := by rw [List.getElem?_map, hi]; rfl
  have h2 : (L.map (·.1))[j]? = some t.1 := by rw [List.getElem?_map, hj, e]; rfl
  have hl1 := (List.getElem?_eq_some_iff.mp h1).1
  have : i = j := (List.getElem?_inj hl1 hn).mp (h1.trans h2.symm)
  subst this
  rw [hi] at hj; exact Option.some.inj hj
theorem BInv.least (D : BInv E ok s n L pr []) {g : Nat} {x : Int} {p : Option Int} {l k : Nat} (hg : L[g]? = some (x, p, l)) (hw : Wk E ok st s k x) : l ≤ k + 1 := by
  cases p with
  | none =>
    obtain rfl := D.root g x l hg
    rw [D.hd] at hg; cases hg; exact Nat.succ_le_succ (Nat.zero_le k)
  | some p =>
    obtain ⟨i, q, l', h1, h2, h3, h4, h5, h6⟩ := D.par g x p l hg
    rcases D.near k x hw with ⟨j, t, hj, hx, hl⟩ | h
    · have := nodup_get D.nd hj hg hx
      subst this; exact hl
    · have := h i _ h2 h3
      dsimp only at this
      rw [h4]; exact this
theorem BInv.all (D : BInv E ok s n L L.length []) {k : Nat} {x : Int} (hw : Wk E ok st s k x) : x ∈ L.map (·.1) := by
  induction hw with
  | zero _ => exact List.mem_map.mpr ⟨_, List.mem_of_getElem? D.hd, rfl⟩
  | @succ k a b _ e o ih =>
    obtain ⟨t, ht, rfl⟩ := List.mem_map.mp ih
    obtain ⟨i, hi⟩ := List.mem_iff_getElem?.mp ht
    rcases D.clo i t (List.getElem?_eq_some_iff.mp hi).1 hi b e o with ⟨j, u, hj, rfl, _⟩ | ⟨_, h⟩
    · exact List.mem_map.mpr ⟨u, List.mem_of_getElem? hj, rfl⟩
    · simp at h

/-! the way back -/
structure Back (E : Int → Int → Prop) (ok : Int → Prop) (g : Int) (found : List Int) : Prop where
  hd : ∀ x, found[0]? = some x → x = g
  lk : ∀ (i : Nat) (a b : Int), found[i]? = some a → found[i + 1]? = some b → E b a ∧ ok a
theorem Back.snoc {g c : Int} {found : List Int} (h : Back E ok g found) (h0 : found = [] → c = g) (hl : ∀ a, found.getLast? = some a → E c a ∧ ok a) : Back E ok g (found ++ [c]) where
  hd := fun x hx => by
    cases found with
    | nil => simp at hx; subst hx; exact h0 rfl
    | cons a found => exact h.hd x (by simpa using hx)
  lk := fun i a b ha hb => by
    by_cases hi : i + 1 < found.length
    · rw [List.getElem?_append_left (by omega)] at ha
      rw [List.getElem?_append_left hi] at hb
      exact h.lk i a b ha hb
    · have hb' := (List.getElem?_eq_some_iff.mp hb).1
      simp at hb'
      have e : i + 1 = found.length := by omega
      rw [List.getElem?_append_left (by omega)] at ha
      rw [e] at hb; simp at hb; subst hb
      refine hl a ?_
      rw [List.getLast?_eq_getElem?, ← ha]; congr 1; omega

/-! rounds -/
structure RInv (E : Int → Int → Prop) (ok : Int → Prop) (st : Prop) (s : Int) (n t : Nat) (K : List (Int × Nat)) : Prop where
  nd : (K.map (·.1)).Nodup
  rng : ∀ x : Int, x ∈ K.map (·.1) → 0 ≤ x ∧ x < n
  sound : ∀ x v, (x, v) ∈ K → ∃ k, v = k + 1 ∧ k ≤ t ∧ Wk E ok st s k x ∧ ∀ j, Wk E ok st s j x → k ≤ j
  full : ∀ k x, Wk E ok st s k x → k ≤ t → x ∈ K.map (·.1)
  size : (∀ a ∈ K.map (·.1), ∀ b, E a b → ok b → b ∈ K.map (·.1)) ∨ t + 1 ≤ K.length
theorem RInv.init0 (h : ¬ st) : RInv E ok st s n 0 [] where
  nd := by simp
  rng := by simp
  sound := by simp
  full := fun k x hw _ => absurd hw.hst h
  size := .inl (by simp)
theorem RInv.init1 (h : st) (h0 : 0 ≤ s) (h1 : s < n) : RInv E ok st s n 0 [(s, 1)] where
  nd := by simp
  rng := fun x hx => by simp at hx; subst hx; exact ⟨h0, h1⟩
  sound := fun x v hx => by simp at hx; obtain ⟨rfl, rfl⟩ := hx; exact ⟨0, rfl, Nat.le_refl _, .zero h, fun _ _ => Nat.zero_le _⟩
  full := fun k x hw hk => by
    obtain rfl : k = 0 := Nat.le_zero.mp hk
    cases hw; simp
  size := .inr (by simp)
/-- one turn: fresh ones -/
structure FInv (E : Int → Int → Prop) (ok : Int → Prop) (st : Prop) (s : Int) (n t : Nat) (K : List (Int × Nat)) (fr : List Int) (pr : Nat) (rest : List Int) : Prop where
  nd : fr.Nodup
  new : ∀ x ∈ fr, x ∉ K.map (·.1) ∧ 0 ≤ x ∧ x < n ∧ Wk E ok st s (t + 1) x ∧ ∃ a ∈ K.map (·.1), E a x ∧ ok x
  clo : ∀ (i : Nat) (a : Int × Nat), i < pr → K[i]? = some a → ∀ b, E a.1 b → ok b → b ∈ K.map (·.1) ∨ b ∈ fr ∨ (i + 1 = pr ∧ b ∈ rest)
variable {t : Nat} {K : List (Int × Nat)} {fr : List Int} {rs : List Int}
theorem FInv.init : FInv E ok st s n t K [] 0 [] := ⟨by simp, by simp, fun i a h => absurd h (Nat.not_lt_zero _)⟩
theorem FInv.enter {a : Int × Nat} {succ : List Int} (D : FInv E ok st s n t K fr pr []) (ha : K[pr]? = some a) (hs : ∀ b, E a.1 b → b ∈ succ) : FInv E ok st s n t K fr (pr + 1) succ :=
  ⟨D.nd, D.new, fun i c hi hc b e o => by
    by_cases hp : i < pr
    · rcases D.clo i c hp hc b e o with h | h | ⟨_, h⟩
      · exact .inl h
      · exact .inr (.inl h)
      · simp at h
    · obtain rfl : i = pr := Nat.le_antisymm (Nat.le_of_lt_succ hi) (Nat.not_lt.mp hp)
      rw [ha] at hc; cases hc
      exact .inr (.inr ⟨rfl, hs b e⟩)⟩
theorem FInv.skip {b : Int} (D : FInv E ok st s n t K fr (pr + 1) (b :: rs)) (h : ok b → b ∈ K.map (·.1) ∨ b ∈ fr) : FInv E ok st s n t K fr (pr + 1) rs :=
  ⟨D.nd, D.new, fun i c hi hc b' e o => by
    rcases D.clo i c hi hc b' e o with h' | h' | ⟨h', h''⟩
    · exact .inl h'
    · exact .inr (.inl h')
    · rcases List.mem_cons.mp h'' with rfl | h3
      · rcases h o with h | h
        · exact .inl h
        · exact .inr (.inl h)
      · exact .inr (.inr ⟨h', h3⟩)⟩
theorem RInv.next (R : RInv E ok st s n t K) {a b : Int} {v : Nat} (ha : (a, v) ∈ K) (he : E a b) (ho : ok b) (hb : b ∉ K.map (·.1)) : v = t + 1 ∧ Wk E ok st s (t + 1) b := by
  obtain ⟨k, rfl, hk, hw, _⟩ := R.sound a v ha
  have hw' := Wk.succ hw he ho
  have : ¬ (k + 1 ≤ t) := fun h => hb (R.full _ _ hw' h)
  obtain rfl : k = t := Nat.le_antisymm hk (Nat.le_of_lt_succ (Nat.not_le.mp this))
  exact ⟨rfl, hw'⟩
theorem FInv.add {b : Int} {a : Int × Nat} (R : RInv E ok st s n t K) (D : FInv E ok st s n t K fr (pr + 1) (b :: rs)) (ha : K[pr]? = some a) (he : E a.1 b) (ho : ok b) (hb : b ∉ K.map (·.1)) (hf : b ∉ fr) (h0 : 0 ≤ b) (h1 : b < n) : FInv E ok st s n t K (fr ++ [b]) (pr + 1) rs where
  nd := List.nodup_append.mpr ⟨D.nd, by simp, fun x hx y hy e => by simp at hy; subst hy; subst e; exact hf hx⟩
  new := fun x hx => by
    rcases List.mem_append.mp hx with h | h
    · exact D.new x h
    · simp at h; subst h
      have hm := List.mem_of_getElem? ha
      exact ⟨hb, h0, h1, (R.next hm he ho hb).2, a.1, List.mem_map.mpr ⟨a, hm, rfl⟩, he, ho⟩
  clo := fun i c hi hc b' e o => by
    rcases D.clo i c hi hc b' e o with h' | h' | ⟨h', h''⟩
    · exact .inl h'
    · exact .inr (.inl (List.mem_append_left _ h'))
    · rcases List.mem_cons.mp h'' with rfl | h3
      · exact .inr (.inl (by simp))
      · exact .inr (.inr ⟨h', h3⟩)
theorem RInv.step (R : RInv E ok st s n t K) (D : FInv E ok st s n t K fr K.length []) : RInv E ok st s n (t + 1) (K ++ fr.map (·, t + 2)) := by
  have em : (K ++ fr.map (·, t + 2)).map (·.1) = K.map (·.1) ++ fr := by simp [List.map_append, Function.comp_def]
  have clo' : ∀ a ∈ K.map (·.1), ∀ b, E a b → ok b → b ∈ K.map (·.1) ∨ b ∈ fr := fun a ha b e o => by
    obtain ⟨p, hp, rfl⟩ := List.mem_map.mp ha
    obtain ⟨i, hi⟩ := List.mem_iff_getElem?.mp hp
    rcases D.clo i p (List.getElem?_eq_some_iff.mp hi).1 hi b e o with h | h | ⟨_, h⟩
    · exact .inl h
    · exact .inr h
    · simp at h
  exact {
    nd := by
      rw [em]
      exact List.nodup_append.mpr ⟨R.nd, D.nd, fun x hx y hy e => by subst e; exact (D.new x hy).1 hx⟩
    rng := fun x hx => by
      rw [em] at hx
      rcases List.mem_append.mp hx with h | h
      · exact R.rng x h
      · exact ⟨(D.new x h).2.1, (D.new x h).2.2.1⟩
    sound := fun x v hx => by
      rcases List.mem_append.mp hx with h | h
      · obtain ⟨k, h1, h2, h3⟩ := R.sound x v h
        exact ⟨k, h1, Nat.le_succ_of_le h2, h3⟩
      · obtain ⟨y, hy, e⟩ := List.mem_map.mp h
        cases e
        obtain ⟨a1, a2, a3, a4, a5⟩ := D.new x hy
        refine ⟨t + 1, rfl, Nat.le_refl _, a4, fun j hj => ?_⟩
        by_cases h : j ≤ t
        · exact absurd (R.full j x hj h) a1
        · exact Nat.not_le.mp h
    full := fun k x hw hk => by
      rw [em]
      by_cases h : k ≤ t
      · exact List.mem_append_left _ (R.full k x hw h)
      · obtain rfl : k = t + 1 := Nat.le_antisymm hk (Nat.not_le.mp h)
        cases hw with
        | succ hw e o =>
          rcases clo' _ (R.full t _ hw (Nat.le_refl _)) x e o with h | h
          · exact List.mem_append_left _ h
          · exact List.mem_append_right _ h
    size := by
      rw [em]
      rcases R.size with h | h
      · left
        have : fr = [] := by
          cases fr with
          | nil => rfl
          | cons y fr =>
            obtain ⟨a1, _, _, _, a, ha, e, o⟩ := D.new y List.mem_cons_self
            exact absurd (h a ha y e o) a1
        subst this
        simpa using h
      · cases fr with
        | nil =>
          left
          intro a ha b e o
          rw [List.append_nil] at ha ⊢
          rcases clo' a ha b e o with h | h
          · exact h
          · simp at h
        | cons y fr => right; simp; omega }
theorem RInv.done (R : RInv E ok st s n n K) (x : Int) : x ∈ K.map (·.1) ↔ ∃ k, Wk E ok st s k x := by
  have hclo : ∀ a ∈ K.map (·.1), ∀ b, E a b → ok b → b ∈ K.map (·.1) := by
    rcases R.size with h | h
    · exact h
    · have := length_le_of_nodup n (K.map (·.1)) R.nd R.rng
      simp at this; omega
  constructor
  · intro hx
    obtain ⟨⟨y, v⟩, hp, rfl⟩ := List.mem_map.mp hx
    obtain ⟨k, _, _, hw, _⟩ := R.sound y v hp
    exact ⟨k, hw⟩
  · rintro ⟨k, hw⟩
    induction hw with
    | zero h => exact R.full 0 s (.zero h) (Nat.zero_le _)
    | succ _ e o ih => exact hclo _ ih _ e o

/-- sorted lists with the same members -/
theorem sorted_ext : ∀ {l l' : List Int}, l.Pairwise (· ≤ ·) → l'.Pairwise (· ≤ ·) → l.Nodup → l'.Nodup → (∀ x, x ∈ l ↔ x ∈ l') → l = l'
  | [], [], _, _, _, _, _ => rfl
  | [], b :: l', _, _, _, _, h => absurd ((h b).mpr List.mem_cons_self) (by simp)
  | a :: l, [], _, _, _, _, h => absurd ((h a).mp List.mem_cons_self) (by simp)
  | a :: l, b :: l', h1, h2, n1, n2, h => by
    have p1 := List.pairwise_cons.mp h1
    have p2 := List.pairwise_cons.mp h2
    have q1 := List.nodup_cons.mp n1
    have q2 := List.nodup_cons.mp n2
    have hab : a = b := by
      have ha := (h a).mp List.mem_cons_self
      have hb := (h b).mpr List.mem_cons_self
      rcases List.mem_cons.mp ha with e | ha
      · exact e
      · rcases List.mem_cons.mp hb with e | hb
        · exact e.symm
        · exact Int.le_antisymm (p1.1 b hb) (p2.1 a ha)
    subst hab
    congr 1
    refine sorted_ext p1.2 p2.2 q1.2 q2.2 fun x => ?_
    constructor
    · intro hx
      rcases List.mem_cons.mp ((h x).mp (List.mem_cons_of_mem _ hx)) with e | h'
      · subst e; exact absurd hx q1.1
      · exact h'
    · intro hx
      rcases List.mem_cons.mp ((h x).mpr (List.mem_cons_of_mem _ hx)) with e | h'
      · subst e; exact absurd hx q2.1
      · exact h'
end
end
section
set_option autoImplicit false
set_option linter.unusedVariables false
set_option linter.unusedSimpArgs false
set_option maxRecDepth 100000
open PySem
abbrev P := PySem.Challenge.pw_uf010028_03
abbrev i_come_to : Nat := 1
abbrev i_is_number : Nat := 8
abbrev i_is_within : Nat := 9
abbrev i_is_row : Nat := 10
abbrev i_need_rows : Nat := 11
abbrev i_nexts : Nat := 12
abbrev i_goings : Nat := 14
abbrev i_live_rows : Nat := 15
abbrev i_reached : Nat := 16
abbrev i_way : Nat := 17
abbrev i_cell_at : Nat := 19
abbrev i_number_by : Nat := 20
abbrev i_near : Nat := 21
abbrev i_row_by : Nat := 22
abbrev i_rows_by : Nat := 23
abbrev i_law_ints : Nat := 25
abbrev i_law_ahead : Nat := 26
abbrev i_law_rounds : Nat := 27
abbrev i_law_is_way : Nat := 28
abbrev i_law : Nat := 29
abbrev FnAt (hb : Heap) (f : Addr) (i : Nat) : Prop := FnIs hb f (paramsAt P i) (bodyAt P i) (scopeAt P i)
variable {hb : Heap} {w : World} {f : Addr} {n : Nat}
def cellZ (ns : List Int) (k : Int) : Int := ns.getD k.toNat 0
def S_cell : Spec := fun args B own Q => own = [] ∧ ∃ a ns k, args = [.ref a, .int k] ∧ B a = some (.ro (ns.map MV.int)) ∧ 0 ≤ k ∧ Q (.int (cellZ ns k)) B []
theorem ct_cell (F : FnAt hb f i_cell_at) (hlim : hb.NoLimit) (glen : Gl hb "len" (.oth (.builtin "len"))) : Contract P w hb (.ref f) (n + 1) S_cell := by
  refine Contract.of F hlim (by rintro args B own Q ⟨_, a, ns, k, e, _⟩; subst e; rfl) ?_
  rintro C args B own Q F' ⟨rfl, a, ns, k, rfl, hB, hk, hQ⟩
  show Sts C (bodyAt P i_cell_at) ⟨[(Str.ofString "_law_script", _), (Str.ofString "_law_k", _)], B, []⟩ _
  refine Sts_cons ?_
  walk_at "m"
  refine if_dec (fun hc => ?_) (fun hc => ?_)
  · walk_at "m"
    simp at hc
    have hlt : k.toNat < ns.length := by omega
    refine SubG_ro (by walk_at "m has") hk (m := .int (cellZ ns k)) (by simp [cellZ, hlt]) ?_
    exact ⟨_, .refl _, hQ⟩
  · walk_at "m"
    simp at hc
    have hge : ns.length ≤ k.toNat := by omega
    refine ⟨_, .refl _, ?_⟩
    have : cellZ ns k = 0 := by simp [cellZ, List.getElem?_eq_none hge]
    rw [this] at hQ; exact hQ
theorem fmod_bounds (a : Int) {b : Int} (h : 0 < b) : 0 ≤ a.fmod b ∧ a.fmod b < b := ⟨Int.fmod_nonneg_of_pos a h, Int.fmod_lt_of_pos a h⟩
def Bits (c : Int) : Prop := Builtin.Int.intBits c ≤ 2000000
def S_number : Spec := fun args B own Q => own = [] ∧ ∃ c, args = [.int c] ∧ Bits c ∧ ∀ z, Q (.int z) B []
theorem mul_ok {c : Int} (h : Bits c) : IntMulOk c (10 ^ (59 : Int).toNat + 7) := by
  unfold IntMulOk
  intro h'
  simp only [Bool.and_eq_true] at h'
  have h2 := h'.2
  unfold Bits at h
  have hb : Builtin.Int.intBits (10 ^ (59 : Int).toNat + 7) ≤ 200 := by decide +kernel
  unfold Builtin.Int.intTooBig at h2
  have h3 := of_decide_eq_true h2
  unfold bitsLine at h3
  omega
theorem ct_number (F : FnAt hb f i_number_by) (hlim : hb.NoLimit) : Contract P w hb (.ref f) (n + 1) S_number := by
  refine Contract.of F hlim (by rintro args B own Q ⟨_, a, e, _⟩; subst e; rfl) ?_
  rintro C args B own Q F' ⟨rfl, c, rfl, hb, hQ⟩
  show Sts C (bodyAt P i_number_by) ⟨[(Str.ofString "_law_cell", _)], B, []⟩ _
  have hm := mul_ok hb
  have b2 := fmod_bounds (c.fdiv 9) (b := 2) (by decide)
  refine Sts_cons ?_
  walk_at "m"
  refine if_dec (fun hc => ?_) (fun hc => ?_)
  · walk_at "m"
    exact ⟨_, .refl _, hQ _⟩
  · walk_at "m"
    exact ⟨_, .refl _, hQ _⟩
def S_near : Spec := fun args B own Q => own = [] ∧ ∃ k m many, args = [.int k, .int m, .int many] ∧ 0 ≤ k ∧ k < many ∧ ∀ z, 0 ≤ z → z ≤ many → Q (.int z) B []
theorem ct_near (F : FnAt hb f i_near) (hlim : hb.NoLimit) (gmax : Gl hb "max" (.oth (.builtin "max"))) (gmin : Gl hb "min" (.oth (.builtin "min"))) : Contract P w hb (.ref f) (n + 1) S_near := by
  refine Contract.of F hlim (by rintro args B own Q ⟨_, a, b, c, e, _⟩; subst e; rfl) ?_
  rintro C args B own Q F' ⟨rfl, k, m, many, rfl, h0, h1, hQ⟩
  show Sts C (bodyAt P i_near) ⟨[(Str.ofString "_law_k", _), (Str.ofString "_law_mixed", _), (Str.ofString "_law_many", _)], B, []⟩ _
  have b4 := fmod_bounds (m.fdiv 5) (b := 4) (by decide)
  have b3 := fmod_bounds (m.fdiv 5) (b := 3) (by decide)
  refine Sts_cons ?_
  walk_at "m"
  refine if_dec (fun hc => ?_) (fun hc => ?_)
  · walk_at "m"
    exact ⟨_, .refl _, hQ _ (by omega) (by omega)⟩
  · walk_at "m"
    exact ⟨_, .refl _, hQ _ (by omega) (by omega)⟩
structure Rw where
  add : Bool
  box : Int
  z : Int
  y : Int
def Rw.word (r : Rw) : Str := if r.add then Str.ofString "add" else Str.ofString "more"
def Rw.mv (r : Rw) : List MV := [.str r.word, .int r.box, .int r.z, .int r.y]
def Rw.Ok (many : Int) (r : Rw) : Prop := 0 ≤ r.box ∧ r.box < 4 ∧ 0 ≤ r.y ∧ r.y ≤ many ∧ (r.add = false → 0 ≤ r.z ∧ r.z ≤ many)
def S_row_by : Spec := fun args B own Q => own = [] ∧ ∃ c k many, args = [.int c, .int k, .int many] ∧ Bits c ∧ 0 ≤ k ∧ k < many ∧ many ≤ 20 ∧
  ∀ a r, Rw.Ok many r → B a = none → Q (.ref a) (setB B a (.tup (Rw.mv r))) []
theorem intBits_eq {b : Int} (h : b ≠ 0) : Builtin.Int.intBits b = Nat.log2 b.natAbs + 1 := by
  unfold Builtin.Int.intBits; simp [h]
theorem intBits_mono {a b : Int} (h : a.natAbs ≤ b.natAbs) : Builtin.Int.intBits a ≤ Builtin.Int.intBits b := by
  by_cases h0 : b = 0
  · have : a = 0 := by omega
    subst this; subst h0; exact Nat.le_refl _
  · have hlt : b.natAbs < 2 ^ (Nat.log2 b.natAbs + 1) := Nat.lt_log2_self
    have h1 : Builtin.Int.intBits a ≤ Nat.log2 b.natAbs + 1 := PyProof.Rows.intBits_le (by omega)
    rw [intBits_eq h0]; exact h1
theorem natAbs_fdiv_le (c : Int) {k : Int} (hk : 1 ≤ k) : (c.fdiv k).natAbs ≤ c.natAbs := by
  rw [Int.fdiv_eq_ediv_of_nonneg c (Int.le_trans (by decide) hk)]; exact Int.natAbs_ediv_le_natAbs c k
theorem bits_div3 {c : Int} (h : Bits c) : Bits (c.fdiv 3) := Nat.le_trans (intBits_mono (natAbs_fdiv_le c (by decide))) h
theorem ct_row_by (F : FnAt hb f i_row_by) (hlim : hb.NoLimit) (hnear : FnC P w hb "_law_near" 1 S_near) (hnum : FnC P w hb "_law_number_by" 1 S_number) : Contract P w hb (.ref f) 2 S_row_by := by
  refine Contract.of F hlim (by rintro args B own Q ⟨_, a, b, c, e, _⟩; subst e; rfl) ?_
  rintro C args B own Q F' ⟨rfl, c, k, many, rfl, hbits, h0, h1, h2, hQ⟩
  show Sts C (bodyAt P i_row_by) ⟨[(Str.ofString "_law_cell", _), (Str.ofString "_law_k", _), (Str.ofString "_law_many", _)], B, []⟩ _
  refine Sts_cons ?_
  walk_at "m"
  generalize (c * 48271 + 7919 * k).fmod 1000003 = mixed
  have hm1 : 0 < many + 1 := by omega
  have y1 := fmod_bounds (mixed.fdiv 12) (b := many + 1) hm1
  have n1 := fmod_bounds ((mixed.fdiv 12).fdiv (many + 1)) (b := many + 1) hm1
  generalize (mixed.fdiv 12).fmod (many + 1) = yes at y1 ⊢
  generalize ((mixed.fdiv 12).fdiv (many + 1)).fmod (many + 1) = no at n1 ⊢
  have bx := fmod_bounds (mixed.fdiv 3) (b := 4) (by decide)
  have y2 : yes ≤ many := Int.le_of_lt_add_one y1.2
  have n2 : no ≤ many := Int.le_of_lt_add_one n1.2
  refine ite_cut (fun σ' => ∃ yes no : Int, σ' = ⟨[(Str.ofString "_law_cell", .int c), (Str.ofString "_law_k", .int k), (Str.ofString "_law_many", .int many), (Str.ofString "_law_mixed", .int mixed), (Str.ofString "_law_yes", .int yes), (Str.ofString "_law_no", .int no)], B, []⟩ ∧ (0 ≤ yes ∧ yes ≤ many) ∧ 0 ≤ no ∧ no ≤ many) (fun hc => ?_) (fun hc => ?_) ?_
  · walk_at "m"
    refine ⟨rfl, _, _, _, rfl, h0, h1, fun yes' q1 q2 => ?_⟩
    walk_at "m"
    refine ⟨rfl, _, _, _, rfl, h0, h1, fun no' q3 q4 => ?_⟩
    walk_at "m"
    exact ⟨rfl, yes', no', rfl, ⟨q1, q2⟩, q3, q4⟩
  · walk_at "m"
    exact ⟨rfl, yes, no, rfl, ⟨y1.1, y2⟩, n1.1, n2⟩
  rintro _ ⟨yes', no', rfl, q1, q2⟩
  dsimp only
  walk_at "m"
  refine if_dec (fun hc => ?_) (fun hc => ?_)
  · walk_at "m"
    refine ⟨rfl, _, rfl, bits_div3 hbits, fun z => ?_⟩
    walk_at "m"
    exact fun a ha => ⟨_, .frz ha.md, hQ a ⟨true, _, _, _⟩ ⟨bx.1, bx.2, q1.1, q1.2, by simp⟩ ha.B⟩
  · walk_at "m"
    exact fun a ha => ⟨_, .frz ha.md, hQ a ⟨false, _, _, _⟩ ⟨bx.1, bx.2, q2.1, q2.2, fun _ => q1⟩ ha.B⟩
def TupsAt (B : MH) (as : List Addr) (rs : List Rw) : Prop := as.length = rs.length ∧ ∀ (i : Nat) (c : Addr) (r : Rw), as[i]? = some c → rs[i]? = some r → B c = some (.tup (Rw.mv r))
def RowsAt (B : MH) (b : Addr) (rs : List Rw) : Prop := ∃ as : List Addr, B b = some (.list (as.map MV.ref)) ∧ TupsAt B as rs
def RowsOk (rs : List Rw) : Prop := 1 ≤ rs.length ∧ rs.length ≤ 20 ∧ ∀ r ∈ rs, Rw.Ok rs.length r
theorem TupsAt.mono {B B' : MH} {as : List Addr} {rs : List Rw} (h : TupsAt B as rs) (s : Sub0 B B') : TupsAt B' as rs := ⟨h.1, fun i c r h1 h2 => s _ _ (h.2 i c r h1 h2)⟩
theorem RowsAt.mono {B B' : MH} {b : Addr} {rs : List Rw} (h : RowsAt B b rs) (s : Sub0 B B') : RowsAt B' b rs := let ⟨as, h1, h2⟩ := h; ⟨as, s _ _ h1, h2.mono s⟩
theorem TupsAt.snoc {B : MH} {as : List Addr} {rs : List Rw} {c : Addr} {r : Rw} (h : TupsAt B as rs) (hc : B c = some (.tup (Rw.mv r))) : TupsAt B (as ++ [c]) (rs ++ [r]) := by
  refine ⟨by simp [h.1], fun i c' r' h1 h2 => ?_⟩
  rcases Nat.lt_trichotomy i as.length with hi | hi | hi
  · rw [List.getElem?_append_left hi] at h1
    rw [List.getElem?_append_left (h.1 ▸ hi)] at h2
    exact h.2 i c' r' h1 h2
  · subst hi
    rw [List.getElem?_append_right (Nat.le_refl _)] at h1
    rw [h.1, List.getElem?_append_right (Nat.le_refl _)] at h2
    simp at h1 h2; subst h1 h2; exact hc
  · rw [List.getElem?_eq_none (by simp; omega)] at h1; cases h1
theorem Sub0.set {B : MH} {a : Addr} {o : MO} (h : B a = none) : Sub0 B (setB B a o) := fun b o' hb' => by
  rw [setB_ne fun e => by subst e; rw [h] at hb'; cases hb']; exact hb'
theorem Sub0.trans {B B' B'' : MH} (h : Sub0 B B') (h' : Sub0 B' B'') : Sub0 B B'' := fun a o x => h' a o (h a o x)
theorem range_item {k i : Nat} {m : MV} (h : ((List.range k).map fun (j : Nat) => MV.int (j : Int))[i]? = some m) : i < k ∧ m = .int i := by
  rw [List.getElem?_map] at h
  by_cases hi : i < k
  · rw [List.getElem?_range hi] at h; simp at h; exact ⟨hi, h.symm⟩
  · rw [List.getElem?_eq_none (by simp; omega)] at h; cases h
theorem Sub0.none {B B' : MH} (h : Sub0 B B') {b : Addr} (e : B' b = .none) : B b = .none := by
  cases e' : B b with
  | none => rfl
  | some o => rw [h b o e'] at e; cases e
def S_rows_by : Spec := fun args B own Q => own = [] ∧ ∃ (a : Addr) (ns : List Int), args = [.ref a] ∧ B a = some (.ro (ns.map MV.int)) ∧ (∀ z ∈ ns, Bits z) ∧
  ∀ (b : Addr) (B' : MH) (rs : List Rw), RowsOk rs → Sub0 B B' → RowsAt B' b rs → B b = none → Q (.ref b) B' []
theorem bits_cell {ns : List Int} (h : ∀ z ∈ ns, Bits z) (k : Int) : Bits (cellZ ns k) := by
  unfold cellZ
  rw [List.getD_eq_getElem?_getD]
  cases e : ns[k.toNat]? with
  | none => show Bits 0; unfold Bits; decide +kernel
  | some z => exact h z (List.mem_of_getElem? e)
theorem ct_rows_by (F : FnAt hb f i_rows_by) (hlim : hb.NoLimit) (hcell : FnC P w hb "_law_cell_at" 1 S_cell) (hrow : FnC P w hb "_law_row_by" 2 S_row_by) (grange : Gl hb "range" (.oth (.type "range"))) : Contract P w hb (.ref f) 3 S_rows_by := by
  refine Contract.of F hlim (by rintro args B own Q ⟨_, a, b, e, _⟩; subst e; rfl) ?_
  rintro C args B own Q F' ⟨rfl, a, ns, rfl, hB, hbits, hQ⟩
  show Sts C (bodyAt P i_rows_by) ⟨[(Str.ofString "_law_script", _)], B, []⟩ _
  refine Sts_cons ?_
  walk_at "m"
  refine ⟨rfl, _, _, _, rfl, hB, by decide, ?_⟩
  walk_at "m"
  refine ⟨rfl, _, _, _, rfl, hB, by decide, ?_⟩
  walk_at "m"
  have m1 := fmod_bounds (cellZ ns 0) (b := 6) (by decide)
  have m2 := fmod_bounds (cellZ ns 0) (b := 14) (by decide)
  refine ite_cut (fun σ' => ∃ many : Int, σ' = ⟨[(Str.ofString "_law_script", .ref a), (Str.ofString "_law_many", .int many)], B, []⟩ ∧ 1 ≤ many ∧ many ≤ 20) (fun hc => ?_) (fun hc => ?_) ?_
  · walk_at "m"
    refine ⟨rfl, _, _, _, rfl, hB, by decide, ?_⟩
    walk_at "m"
    exact ⟨rfl, 7 + (cellZ ns 0).fmod 14, rfl, by omega, by omega⟩
  · walk_at "m"
    exact ⟨rfl, 1 + (cellZ ns 0).fmod 6, rfl, by omega, by omega⟩
  rintro _ ⟨many, rfl, q1, q2⟩
  dsimp only
  walk_at "m"
  refine Ex_ListComp F' (by walk_at "m compok") (fun _ => rfl) ?_
  walk_at "m"
  refine Call_range (by omega) (by unfold lim; omega) fun ra => ?_
  have hrm : (many.toNat : Int) = many := by omega
  refine ⟨_, fun i ys σ' => ∃ (as : List Addr) (rs : List Rw) (B' : MH), σ' = ⟨[(Str.ofString "_law_script", .ref a), (Str.ofString "_law_many", .int many)], B', [(ra, .range many.toNat)]⟩ ∧ Sub0 B B' ∧ ys = as.map MV.ref ∧ rs.length = i ∧ TupsAt B' as rs ∧ (∀ r ∈ rs, Rw.Ok many r),
    ⟨ra, rfl, .inr (.inr ⟨_, .inl (.head _), rfl⟩)⟩, by simp; unfold lim; omega, ⟨[], [], B, rfl, Sub0.rfl' B, rfl, rfl, ⟨rfl, by simp⟩, by simp⟩, ?_, ?_⟩
  · rintro C' F1 i ys σ' m ⟨as, rs, B', rfl, hs, rfl, hi, ht, hok⟩ hm
    obtain ⟨hib, rfl⟩ := range_item hm
    refine CTs_nil ?_
    dsimp only
    refine if_tt ?_
    walk_at "m cex"
    walk_at "m"
    refine ⟨rfl, _, _, _, rfl, hs _ _ hB, by omega, ?_⟩
    walk_at "m"
    refine ⟨rfl, _, _, _, rfl, bits_cell hbits _, by omega, by omega, q2, fun c r hr hc => ?_⟩
    dsimp only [List.nil_append]
    refine ⟨as ++ [c], rs ++ [r], _, rfl, hs.trans (Sub0.set hc), by simp, by simp [hi], (ht.mono (Sub0.set hc)).snoc setB_self, fun r' hr' => ?_⟩
    rcases List.mem_append.mp hr' with h | h
    · exact hok r' h
    · simp at h; subst h; exact hr
  · rintro ys σ' ⟨as, rs, B', rfl, hs, rfl, hi, ht, hok⟩ b hb'
    simp at hi
    have hlen : (rs.length : Int) = many := by omega
    refine ⟨_, .trans (.frz hb'.md) (.own (List.nil_sublist _)), hQ b _ rs ⟨by omega, by omega, by rw [hlen]; exact hok⟩ (hs.trans (Sub0.set hb'.B)) ⟨as, setB_self, ht.mono (Sub0.set hb'.B)⟩ (hs.none hb'.B)⟩
def S_is_number : Spec := fun args B own Q => own = [] ∧ ∃ i : Int, args = [.int i] ∧ Q (.bool true) B []
theorem ct_is_number (F : FnAt hb f i_is_number) (hlim : hb.NoLimit) (g1 : Gl hb "isinstance" (.oth (.builtin "isinstance"))) (g2 : Gl hb "int" (.oth (.type "int"))) (g3 : Gl hb "bool" (.oth (.type "bool"))) : Contract P w hb (.ref f) (n + 1) S_is_number := by
  refine Contract.of F hlim (by rintro args B own Q ⟨_, a, e, _⟩; subst e; rfl) ?_
  rintro C args B own Q F' ⟨rfl, i, rfl, hQ⟩
  show Sts C (bodyAt P i_is_number) ⟨[(Str.ofString "thing", _)], B, []⟩ _
  refine Sts_cons ?_
  walk_at "m"
  exact ⟨_, .refl _, hQ⟩
def S_is_within : Spec := fun args B own Q => own = [] ∧ ∃ i a b : Int, args = [.int i, .int a, .int b] ∧ Q (.bool (decide (a ≤ i ∧ i ≤ b))) B []
theorem ct_is_within (F : FnAt hb f i_is_within) (hlim : hb.NoLimit) (h1 : FnC P w hb "is_number" 1 S_is_number) : Contract P w hb (.ref f) 2 S_is_within := by
  refine Contract.of F hlim (by rintro args B own Q ⟨_, a, b, c, e, _⟩; subst e; rfl) ?_
  rintro C args B own Q F' ⟨rfl, i, a, b, rfl, hQ⟩
  show Sts C (bodyAt P i_is_within) ⟨[(Str.ofString "thing", _), (Str.ofString "least", _), (Str.ofString "most", _)], B, []⟩ _
  refine Sts_cons ?_
  walk_at "m"
  refine ⟨rfl, _, rfl, ?_⟩
  walk_at "m"
  refine if_dec (fun hc => ?_) (fun hc => ?_)
  · walk_at "m"
    refine ⟨_, .refl _, ?_⟩
    have e : decide (a ≤ i ∧ i ≤ b) = decide (i ≤ b) := by simp [hc]
    rw [e] at hQ; exact hQ
  · refine ⟨_, .refl _, ?_⟩
    have e : decide (a ≤ i ∧ i ≤ b) = decide (a ≤ i) := by simp [hc]
    rw [e] at hQ; exact hQ
def S_is_row : Spec := fun args B own Q => own = [] ∧ ∃ (c : Addr) (many : Int) (r : Rw), args = [.ref c, .int many] ∧ B c = some (.tup (Rw.mv r)) ∧ Rw.Ok many r ∧ Q (.bool true) B []
theorem word_add {r : Rw} (h : r.add = true) : r.word = Str.ofString "add" := by simp [Rw.word, h]
theorem word_more {r : Rw} (h : r.add = false) : r.word = Str.ofString "more" := by simp [Rw.word, h]
theorem ct_is_row (F : FnAt hb f i_is_row) (hlim : hb.NoLimit) (h1 : FnC P w hb "is_number" 1 S_is_number) (h2 : FnC P w hb "is_within" 2 S_is_within) (glen : Gl hb "len" (.oth (.builtin "len"))) (gb : Gl hb "BOXES" (.int 4)) : Contract P w hb (.ref f) 3 S_is_row := by
  refine Contract.of F hlim (by rintro args B own Q ⟨_, a, b, c, e, _⟩; subst e; rfl) ?_
  rintro C args B own Q F' ⟨rfl, c, many, r, rfl, hB, ⟨o1, o2, o3, o4, o5⟩, hQ⟩
  show Sts C (bodyAt P i_is_row) ⟨[(Str.ofString "row", _), (Str.ofString "size", _)], B, []⟩ _
  refine Sts_cons ?_
  walk_at "m"
  refine if_ntrue (by rfl) ?_
  walk_at "m"
  refine ⟨rfl, _, _, _, rfl, ?_⟩
  walk_at "m"
  refine if_ntrue ⟨by omega, by omega⟩ ?_
  walk_at "m"
  refine ⟨rfl, _, _, _, rfl, ?_⟩
  walk_at "m"
  refine if_ntrue ⟨o3, o4⟩ ?_
  walk_at "m"
  cases hr : r.add with
  | true =>
    refine if_pos' (word_add hr) ?_
    walk_at "m"
    refine ⟨rfl, _, rfl, ?_⟩
    exact ⟨_, .refl _, hQ⟩
  | false =>
    refine if_neg' (by rw [word_more hr]; exact ofString_ne (by decide)) ?_
    walk_at "m"
    refine if_pos' (word_more hr) ?_
    walk_at "m"
    refine ⟨rfl, _, _, _, rfl, ⟨_, .refl _, ?_⟩⟩
    have e : decide (0 ≤ r.z ∧ r.z ≤ many) = true := by simpa using o5 hr
    rw [e]; exact hQ
theorem TupsAt.get {B : MH} {as : List Addr} {rs : List Rw} (h : TupsAt B as rs) {i : Nat} {r : Rw} (hr : rs[i]? = some r) : ∃ c, as[i]? = some c ∧ B c = some (.tup (Rw.mv r)) := by
  have hi : i < rs.length := (List.getElem?_eq_some_iff.mp hr).1
  have hi' : i < as.length := by rw [h.1]; exact hi
  have : as[i]? = some as[i] := List.getElem?_eq_getElem hi'
  exact ⟨_, this, h.2 i _ r this hr⟩
theorem TupsAt.geta {B : MH} {as : List Addr} {rs : List Rw} (h : TupsAt B as rs) {i : Nat} {c : Addr} (hr : as[i]? = some c) : ∃ r, rs[i]? = some r ∧ B c = some (.tup (Rw.mv r)) := by
  have hi : i < as.length := (List.getElem?_eq_some_iff.mp hr).1
  have hi' : i < rs.length := by rw [← h.1]; exact hi
  have : rs[i]? = some rs[i] := List.getElem?_eq_getElem hi'
  exact ⟨_, this, h.2 i c _ hr this⟩
def S_need_rows : Spec := fun args B own Q => own = [] ∧ ∃ (b : Addr) (rs : List Rw), args = [.ref b] ∧ RowsAt B b rs ∧ RowsOk rs ∧ Q .none B []
theorem ct_need_rows (F : FnAt hb f i_need_rows) (hlim : hb.NoLimit) (h1 : FnC P w hb "is_row" 3 S_is_row) (glen : Gl hb "len" (.oth (.builtin "len"))) (gm : Gl hb "MOST_ROWS" (.int 20)) : Contract P w hb (.ref f) 4 S_need_rows := by
  refine Contract.of F hlim (by rintro args B own Q ⟨_, a, b, e, _⟩; subst e; rfl) ?_
  rintro C args B own Q F' ⟨rfl, b, rs, rfl, ⟨as, hB, ht⟩, ⟨k1, k2, k3⟩, hQ⟩
  show Sts C (bodyAt P i_need_rows) ⟨[(Str.ofString "rows", _)], B, []⟩ _
  refine Sts_cons ?_
  have hl := ht.1
  walk_at "m"
  refine if_pos' (by simp; omega) ?_
  walk_at "m"
  refine if_ntrue (by simp; omega) ?_
  walk_at "m"
  refine Stm_ForC F' (fun _ => rfl) ?_
  walk_at "m"
  refine ⟨_, fun _ σ' => σ' = ⟨[(Str.ofString "rows", .ref b)], B, []⟩, ⟨b, rfl, .inl hB⟩, ⟨_, .refl _, rfl⟩, ?_, ?_⟩
  · rintro C' F1 i σ' m rfl hm
    rw [List.getElem?_map] at hm
    cases e : as[i]? with
    | none => rw [e] at hm; cases hm
    | some c =>
      rw [e] at hm; simp at hm; subst hm
      obtain ⟨r, hr, hc⟩ := ht.geta e
      walk_at "m"
      refine ⟨rfl, _, _, r, rfl, hc, by rw [List.length_map, hl]; exact k3 r (List.mem_of_getElem? hr), ?_⟩
      walk_at "m"
      exact ⟨_, .pre [(Str.ofString "row", .ref c)] rfl, rfl⟩
  · rintro C' F1 σ' rfl
    walk_at "m"
    exact ⟨_, .refl _, hQ⟩
def Rw.nx (r : Rw) : List Int := if r.add then [r.y] else [r.z, r.y]
def S_nexts : Spec := fun args B own Q => own = [] ∧ ∃ (c : Addr) (r : Rw), args = [.ref c] ∧ B c = some (.tup (Rw.mv r)) ∧ ∀ a, B a = none → Q (.ref a) (setB B a (.list (r.nx.map MV.int))) []
theorem ct_nexts (F : FnAt hb f i_nexts) (hlim : hb.NoLimit) : Contract P w hb (.ref f) (n + 1) S_nexts := by
  refine Contract.of F hlim (by rintro args B own Q ⟨_, a, b, e, _⟩; subst e; rfl) ?_
  rintro C args B own Q F' ⟨rfl, c, r, rfl, hB, hQ⟩
  show Sts C (bodyAt P i_nexts) ⟨[(Str.ofString "row", _)], B, []⟩ _
  refine Sts_cons ?_
  walk_at "m"
  cases hr : r.add with
  | true =>
    refine if_pos' (word_add hr) ?_
    walk_at "m"
    intro a ha
    have e : r.nx = [r.y] := by simp [Rw.nx, hr]
    rw [e] at hQ
    exact ⟨_, .frz ha.md, hQ a ha.B⟩
  | false =>
    refine if_neg' (by rw [word_more hr]; exact ofString_ne (by decide)) ?_
    walk_at "m"
    intro a ha
    have e : r.nx = [r.z, r.y] := by simp [Rw.nx, hr]
    rw [e] at hQ
    exact ⟨_, .frz ha.md, hQ a ha.B⟩
def S_law_ints : Spec := fun args B own Q => ∃ (a b : Addr) (xs : List Int), args = [.ref a, .ref b] ∧ Has ⟨[], B, own⟩ a (.list (xs.map MV.int)) ∧ Has ⟨[], B, own⟩ b (.list (xs.map MV.int)) ∧ xs.length ≤ 1000 ∧ Q (.bool true) B own
theorem ct_law_ints (F : FnAt hb f i_law_ints) (hlim : hb.NoLimit) (glen : Gl hb "len" (.oth (.builtin "len"))) (gr : Gl hb "range" (.oth (.type "range"))) (g1 : Gl hb "isinstance" (.oth (.builtin "isinstance"))) (g2 : Gl hb "int" (.oth (.type "int"))) (g3 : Gl hb "bool" (.oth (.type "bool"))) (g4 : Gl hb "list" (.oth (.type "list"))) :
    Contract P w hb (.ref f) (n + 1) S_law_ints := by
  refine Contract.of F hlim (by rintro args B own Q ⟨_, _, _, e, _⟩; subst e; rfl) ?_
  rintro C args B own Q F' ⟨a, b, xs, rfl, ha, hb', hlen, hQ⟩
  show Sts C (bodyAt P i_law_ints) ⟨[(Str.ofString "_law_found", _), (Str.ofString "_law_due", _)], B, own⟩ _
  have ha2 : ∀ l o, Has ⟨l, B, o ++ own⟩ a (.list (xs.map MV.int)) := fun l o => ha.imp (fun h => List.mem_append_right _ h) id
  have hb2 : ∀ l o, Has ⟨l, B, o ++ own⟩ b (.list (xs.map MV.int)) := fun l o => hb'.imp (fun h => List.mem_append_right _ h) id
  have ha3 : ∀ l, Has ⟨l, B, own⟩ a (.list (xs.map MV.int)) := fun l => ha2 l []
  have hb3 : ∀ l, Has ⟨l, B, own⟩ b (.list (xs.map MV.int)) := fun l => hb2 l []
  refine Sts_cons ?_
  walk_at "m"
  refine isi_list_list (ha3 _) ?_
  walk_at "m"
  refine Call_len_list (ha3 _) ?_
  walk_at "m"
  refine Call_len_list (hb3 _) ?_
  walk_at "m"
  refine if_ntrue rfl ?_
  walk_at "m"
  refine Stm_ForC F' (fun _ => rfl) ?_
  walk_at "m"
  refine Call_len_list (hb3 _) ?_
  walk_at "m"
  refine Call_range (Int.natCast_nonneg _) (by rw [List.length_map]; exact Nat.le_of_succ_le (lim_ok (Nat.le_refl _) hlen)) fun ra => ?_
  refine ⟨_, fun _ σ' => σ' = ⟨[(Str.ofString "_law_found", .ref a), (Str.ofString "_law_due", .ref b)], B, own⟩, ⟨ra, rfl, .inr (.inr ⟨_, .inl (.head _), rfl⟩)⟩, ⟨_, .tl, rfl⟩, ?_, ?_⟩
  · rintro C' F1 i σ' m rfl hm
    obtain ⟨hib, rfl⟩ := range_item hm
    have hi : i < xs.length := by simp at hib; exact hib
    have hx : (xs.map MV.int)[(i : Int).toNat]? = some (.int (xs[i]'hi)) := by simp [hi]
    walk_at "m"
    refine SubG_list (ha3 _) (Int.natCast_nonneg _) hx ?_
    walk_at "m"
    refine SubG_list (ha3 _) (Int.natCast_nonneg _) hx ?_
    walk_at "m"
    refine SubG_list (ha3 _) (Int.natCast_nonneg _) hx ?_
    walk_at "m"
    refine SubG_list (hb3 _) (Int.natCast_nonneg _) hx ?_
    walk_at "m"
    refine if_ntrue rfl ?_
    walk_at "m"
    exact ⟨_, .pre [_] rfl, rfl⟩
  · rintro C' F1 σ' rfl
    walk_at "m"
    exact ⟨_, .refl _, hQ⟩
abbrev Gs := List (List (Option Int))
def GoesAt (B : MH) (g : Addr) (gs : Gs) : Prop := ∃ as : List Addr, B g = some (.list (as.map MV.ref)) ∧ as.length = gs.length ∧ ∀ (i : Nat) (c : Addr) (l : List (Option Int)), as[i]? = some c → gs[i]? = some l → B c = some (.list (l.map keyMV))
def edge (gs : Gs) (a b : Int) : Prop := 0 ≤ a ∧ ∃ l, gs[a.toNat]? = some l ∧ some b ∈ l
def inD (rk : KV) (b : Int) : Prop := (dget rk (some b)).isSome = true
def S_come_to : Spec := fun args B own Q => own = [] ∧ ∃ (g r : Addr) (st : Int) (gs : Gs) (rk : KV), args = [.ref g, .int st, .ref r] ∧ GoesAt B g gs ∧ B r = some (.dict rk) ∧ gs.length ≤ 1000 ∧ 0 ≤ st ∧ st < gs.length ∧
  (∀ i, inD rk i → 0 ≤ i ∧ i < gs.length) ∧ ∀ found : List Int, found.Nodup → (∀ a, a ∈ found ↔ Rch (edge gs) (inD rk) st a) → (∀ a ∈ found, 0 ≤ a ∧ a < gs.length) → ∀ d, B d = none → Q (.ref d) (setB B d (.dict (tks found))) []
theorem ct_come_to (F : FnAt hb f i_come_to) (hlim : hb.NoLimit) (glen : Gl hb "len" (.oth (.builtin "len"))) : Contract P w hb (.ref f) (n + 1) S_come_to := by
  refine Contract.of F hlim (by rintro args B own Q ⟨_, _, _, _, _, _, e, _⟩; subst e; rfl) ?_
  rintro C args B own Q F' ⟨rfl, g, r, st, gs, rk, rfl, ⟨as, hg, hlen, hgs⟩, hr, hsz, h0, h1, hrk, hQ⟩
  show Sts C (bodyAt P i_come_to) ⟨[(Str.ofString "goes", _), (Str.ofString "start", _), (Str.ofString "region", _)], B, []⟩ _
  refine Sts_cons ?_
  walk_at "m"
  refine Ex_Dict1 F' hlim fun d hd => ?_
  walk_at "m"
  refine ⟨_, _, rfl, .head, ?_⟩
  walk_at "m"
  intro wa hwa
  walk_at "m"
  refine Stm_WhileC F' (fun k σ' => ∃ (found W : List Int) (c : Int), σ' = ⟨[(Str.ofString "goes", .ref g), (Str.ofString "start", .int st), (Str.ofString "region", .ref r), (Str.ofString "found", .ref d), (Str.ofString "waiting", .ref wa)], B, [(wa, .list (W.map MV.int)), (d, .dict (tks found))]⟩ ∧
      DInv (edge gs) (inD rk) st gs.length found W c [] ∧ found.length + k = gs.length + W.length ∧ k ≤ gs.length) ?_ gs.length ⟨_, .refl _, [st], [st], st, rfl, .init h0 h1, Nat.add_comm _ _, Nat.le_refl _⟩
  rintro k σ' ⟨found, W, c, rfl, D, hk, hkn⟩
  walk_at "m"
  refine if_dec (fun hc => ?_) (fun hc => ?_)
  · obtain ⟨W', e, rfl⟩ : ∃ W' e, W = W' ++ [e] := by
      rcases List.eq_nil_or_concat W with rfl | ⟨W', e, rfl⟩
      · simp at hc
      · exact ⟨W', e, by simp⟩
    refine Sts_cons ?_
    refine Stm_ForC F' (fun _ => rfl) ?_
    walk_at "m"
    refine Ex_pop F' rfl rfl ?_
    walk_at "m"
    refine ⟨wa, W'.map MV.int, .int e, _, rfl, by rw [List.map_append]; exact .head, ?_⟩
    have he := D.rng e (D.sub e (by simp))
    obtain ⟨succ, hsu⟩ := get_in (l := gs) he.1 he.2
    obtain ⟨sa, hsa⟩ := get_in (l := as) he.1 (by rw [hlen]; exact he.2)
    rw [List.length_append] at hk
    have hk1 := dfs1 hk D.len
    refine SubG_list (.inr hg) he.1 (m := .ref sa) (by rw [List.getElem?_map, hsa]; rfl) ?_
    refine ⟨succ.map keyMV, fun i σ' => ∃ (found W : List Int), σ' = ⟨[(Str.ofString "goes", .ref g), (Str.ofString "start", .int st), (Str.ofString "region", .ref r), (Str.ofString "found", .ref d), (Str.ofString "waiting", .ref wa)], B, [(wa, .list (W.map MV.int)), (d, .dict (tks found))]⟩ ∧
      DInv (edge gs) (inD rk) st gs.length found W e (succ.drop i) ∧ found.length + (k - 1) = gs.length + W.length, ⟨sa, rfl, .inl (hgs _ _ _ hsa hsu)⟩, ⟨_, .refl _, found, W', rfl, ?_, hk1.1⟩, ?_, ?_⟩
    · refine D.pop fun b => ?_
      constructor
      · rintro ⟨_, l, hl, hb'⟩; rw [hsu] at hl; cases hl; simpa using hb'
      · intro hb'; exact ⟨he.1, succ, hsu, by simpa using hb'⟩
    · rintro C' F2 i σ' m ⟨found, W, rfl, D, hk⟩ hm
      rw [List.getElem?_map] at hm
      obtain ⟨o, ho, rfl⟩ := Option.map_eq_some_iff.mp hm
      have hdr : succ.drop i = o :: succ.drop (i + 1) := by
        have hlt := (List.getElem?_eq_some_iff.mp ho).1
        rw [List.drop_eq_getElem_cons hlt]; congr 1; rw [List.getElem?_eq_getElem hlt] at ho; exact Option.some.inj ho
      rw [hdr] at D
      cases o with
      | none =>
        show Store C' _ MV.none _ _
        walk_at "m"
        refine ⟨_, .pre [(_, _)] rfl, found, W, rfl, D.skip (fun b e => by cases e), hk⟩
      | some b =>
        show Store C' _ (MV.int b) _ _
        walk_at "m"
        refine if_b (fun hin => ?_) (fun hin => ?_)
        · walk_at "m"
          rw [dget_tks]
          refine if_ndec (fun hnf => ?_) (fun hf => ?_)
          · have hbr := hrk b hin
            have D2 := D.add hin hnf hbr.1 hbr.2
            have hl1 := D.len
            have hwl := lim_map (g := MV.int) (dfs3 hk hl1 (Nat.le_trans (Nat.sub_le k 1) hkn) hsz)
            walk_at "m"
            refine SetG_dicti F2 (.tail .head) (by rw [tks_length]; exact lim_ok hl1 hsz) ?_
            walk_at "m"
            rw [dput_tks hnf]
            rw [show List.map MV.int W ++ [MV.int b] = (W ++ [b]).map MV.int from by simp]
            exact ⟨_, .pre [(_, _)] rfl, found ++ [b], W ++ [b], rfl, D2, by rw [List.length_append, List.length_append]; exact dfs2 hk⟩
          · walk_at "m"
            exact ⟨_, .pre [(_, _)] rfl, found, W, rfl, D.skip (fun b' e _ => by cases e; exact hf), hk⟩
        · walk_at "m"
          exact ⟨_, .pre [(_, _)] rfl, found, W, rfl, D.skip (fun b' e h => by cases e; rw [inD, hin] at h; cases h), hk⟩
    · rintro C' F2 σ' ⟨found2, W2, rfl, D2, hk2⟩
      refine Sts_nil ?_
      refine Sts_nil ?_
      refine ⟨_, .refl _, k - 1, hk1.2, found2, W2, e, rfl, ?_, hk2, Nat.le_trans (Nat.sub_le k 1) hkn⟩
      · simpa using D2
  · have : W = [] := by
      cases W with
      | nil => rfl
      | cons a W => simp at hc
    subst this
    walk_at "m"
    refine ⟨_, .trans Cv.tl (.frz hd.md), ?_⟩
    exact hQ found D.nd D.done D.rng d hd.B
def goO (N : Int) (z : Int) : Option Int := if z = N then none else some z
def gsOf (rs : List Rw) : Gs := rs.map fun r => r.nx.map (goO rs.length)
def LsAt (B : MH) (as : List Addr) (gs : Gs) : Prop := as.length = gs.length ∧ ∀ (i : Nat) (c : Addr) (l : List (Option Int)), as[i]? = some c → gs[i]? = some l → B c = some (.list (l.map keyMV))
theorem LsAt.mono {B B' : MH} {as : List Addr} {gs : Gs} (h : LsAt B as gs) (s : Sub0 B B') : LsAt B' as gs := ⟨h.1, fun i c l h1 h2 => s _ _ (h.2 i c l h1 h2)⟩
theorem LsAt.snoc {B : MH} {as : List Addr} {gs : Gs} {c : Addr} {l : List (Option Int)} (h : LsAt B as gs) (hc : B c = some (.list (l.map keyMV))) : LsAt B (as ++ [c]) (gs ++ [l]) := by
  refine ⟨by simp [h.1], fun i c' l' h1 h2 => ?_⟩
  by_cases hi : i < as.length
  · rw [List.getElem?_append_left hi] at h1
    rw [List.getElem?_append_left (by rw [← h.1]; exact hi)] at h2
    exact h.2 i c' l' h1 h2
  · rw [List.getElem?_append_right (by omega)] at h1
    rw [List.getElem?_append_right (by rw [← h.1]; omega), ← h.1] at h2
    have e : i - as.length = 0 := by
      have := (List.getElem?_eq_some_iff.mp h1).1
      simp at this; omega
    rw [e] at h1 h2
    simp at h1 h2
    subst h1; subst h2; exact hc
def S_goings : Spec := fun args B own Q => own = [] ∧ ∃ (b : Addr) (rs : List Rw), args = [.ref b] ∧ RowsAt B b rs ∧ rs.length ≤ 20 ∧
  ∀ (g : Addr) (B' : MH), Sub0 B B' → GoesAt B' g (gsOf rs) → Q (.ref g) B' []
theorem ct_goings (F : FnAt hb f i_goings) (hlim : hb.NoLimit) (hnx : FnC P w hb "nexts" 1 S_nexts) (glen : Gl hb "len" (.oth (.builtin "len"))) (gint : Gl hb "int" (.oth (.type "int"))) : Contract P w hb (.ref f) 2 S_goings := by
  refine Contract.of F hlim (by rintro args B own Q ⟨_, _, _, e, _⟩; subst e; rfl) ?_
  rintro C args B own Q F' ⟨rfl, b, rs, rfl, ⟨ts, hb1, ht⟩, h20, hQ⟩
  show Sts C (bodyAt P i_goings) ⟨[(Str.ofString "rows", _)], B, []⟩ _
  refine Sts_cons ?_
  walk_at "m"
  intro fo hfo
  walk_at "m"
  refine Stm_ForC F' (fun _ => rfl) ?_
  walk_at "m"
  refine ⟨ts.map MV.ref, fun i σ' => ∃ (as : List Addr) (B' : MH), σ' = ⟨[(Str.ofString "rows", .ref b), (Str.ofString "found", .ref fo)], B', [(fo, .list (as.map MV.ref))]⟩ ∧ Sub0 B B' ∧ LsAt B' as ((gsOf rs).take i), ⟨b, rfl, .inl hb1⟩, ⟨_, .refl _, [], B, rfl, Sub0.rfl' B, ⟨rfl, by simp⟩⟩, ?_, ?_⟩
  · rintro C' F2 i σ' m ⟨as, B', rfl, hs, hls⟩ hm
    rw [List.getElem?_map] at hm
    obtain ⟨c, hc, rfl⟩ := Option.map_eq_some_iff.mp hm
    obtain ⟨r, hr, hrB⟩ := ht.geta hc
    have hi : i < rs.length := (List.getElem?_eq_some_iff.mp hr).1
    have hal : (as.map MV.ref).length + 1 ≤ lim := lim_map (lim_ok (by rw [hls.1]; exact Nat.le_trans (List.length_take_le' ..) (by rw [gsOf, List.length_map]; exact h20)) (by decide))
    walk_at "m"
    refine Ex_Comp F2 (by walk_at "m compok") (fun _ => rfl) ?_
    walk_at "m"
    refine ⟨rfl, c, r, rfl, hs _ _ hrB, fun na hna => ?_⟩
    have hs2 : Sub0 B (setB B' na (.list (r.nx.map MV.int))) := hs.trans (Sub0.set hna)
    refine ⟨r.nx.map MV.int, fun i ys B'' own'' => B'' = setB B' na (.list (r.nx.map MV.int)) ∧ own'' = [(fo, .list (as.map MV.ref))] ∧ ys = ((r.nx.take i).map (goO rs.length)).map keyMV, ⟨na, rfl, .inl setB_self⟩, by simp [Rw.nx]; split <;> simp [lim], ⟨rfl, rfl, rfl⟩, ?_, ?_⟩
    · rintro C3 F3 i ys B'' own'' m ⟨rfl, rfl, rfl⟩ hm
      rw [List.getElem?_map] at hm
      obtain ⟨z, hz, rfl⟩ := Option.map_eq_some_iff.mp hm
      refine CTs_nil ?_
      dsimp only
      refine if_tt ?_
      walk_at "m cex"
      walk_at "m"
      intro la hla
      have hb2 := hs2 _ _ hb1
      walk_at "m"
      have e1 : ((ts.map MV.ref).length : Int) = rs.length := by simp [ht.1]
      rw [e1]
      have et : r.nx.take (i + 1) = r.nx.take i ++ [z] := by rw [List.take_add_one, hz]; rfl
      by_cases hz1 : z = rs.length
      · rw [if_pos (by simpa using hz1)]
        refine SubG_list (.inl (.head _)) (by decide) (m := .none) rfl ?_
        exact ⟨_, Cv.tl, rfl, rfl, by rw [et]; simp [goO, hz1, keyMV]⟩
      · rw [if_neg (by simpa using hz1)]
        refine SubG_list (.inl (.head _)) (by decide) (m := .int z) rfl ?_
        exact ⟨_, Cv.tl, rfl, rfl, by rw [et]; simp [goO, hz1, keyMV]⟩
    · rintro ys B'' own'' ⟨rfl, rfl, rfl⟩ la hla
      walk_at "m"
      rw [show as.map MV.ref ++ [MV.ref la] = (as ++ [la]).map MV.ref from by simp, show r.nx.take (r.nx.map MV.int).length = r.nx from by simp]
      refine ⟨_, .trans (.pre [(_, _)] rfl) (.frz hla.md), as ++ [la], setB (setB B' na (.list (r.nx.map MV.int))) la (.list ((r.nx.map (goO rs.length)).map keyMV)), rfl, hs2.trans (Sub0.set hla.B), ?_⟩
      · have eg : (gsOf rs).take (i + 1) = (gsOf rs).take i ++ [r.nx.map (goO rs.length)] := by
          rw [List.take_add_one]; congr 1; simp [gsOf, hr]
        rw [eg]
        exact ((hls.mono (Sub0.set hna)).mono (Sub0.set hla.B)).snoc setB_self
  · rintro C' F2 σ' ⟨as, B', rfl, hs, hls⟩
    refine Sts_facts fun hfa _ => ?_
    have hfb : B' fo = none := hfa fo (by simp)
    walk_at "m"
    refine ⟨_, .frz hfo.md, hQ fo _ (hs.trans (Sub0.set hfb)) ⟨as, setB_self, ?_⟩⟩
    rw [List.length_map, ht.1] at hls
    have : (gsOf rs).take rs.length = gsOf rs := List.take_of_length_le (by simp [gsOf])
    rw [this] at hls
    exact hls.mono (Sub0.set hfb)
theorem length_gsOf (rs : List Rw) : (gsOf rs).length = rs.length := by simp [gsOf]
theorem inD_nums0 {N : Nat} {b : Int} : inD (tks (nums0 N)) b ↔ 0 ≤ b ∧ b < N := by unfold inD; rw [dget_tks]; simp [mem_nums0]
def goTo (rs : List Rw) (a b : Int) : Prop := 0 ≤ a ∧ ∃ r, rs[a.toNat]? = some r ∧ b ∈ r.nx
def inR (rs : List Rw) (without : List Int) (b : Int) : Prop := b < rs.length ∧ b ∉ without
theorem nx_rng {rs : List Rw} (h : RowsOk rs) {i : Nat} {r : Rw} (hr : rs[i]? = some r) {b : Int} (hb : b ∈ r.nx) : 0 ≤ b ∧ b ≤ rs.length := by
  have ok := h.2.2 r (List.mem_of_getElem? hr)
  unfold Rw.nx at hb
  unfold Rw.Ok at ok
  cases e : r.add with
  | true => rw [e] at hb; simp at hb; subst hb; exact ⟨ok.2.2.1, ok.2.2.2.1⟩
  | false =>
    rw [e] at hb; simp at hb
    rcases hb with rfl | rfl
    · exact ok.2.2.2.2 e
    · exact ⟨ok.2.2.1, ok.2.2.2.1⟩
theorem rch_goTo {rs : List Rw} (hok : RowsOk rs) {a b : Int} (ha : 0 ≤ a ∧ a < rs.length) : Rch (edge (gsOf rs)) (inD (tks (nums0 rs.length))) a b ↔ Rch (goTo rs) (inR rs []) a b := by
  have key : ∀ x y : Int, (edge (gsOf rs) x y ∧ inD (tks (nums0 rs.length)) y) ↔ (goTo rs x y ∧ inR rs [] y) := by
    intro x y
    rw [inD_nums0]
    unfold edge goTo inR gsOf
    constructor
    · rintro ⟨⟨h0, l, hl, hy⟩, h1, h2⟩
      rw [List.getElem?_map] at hl
      obtain ⟨r, hr, rfl⟩ := Option.map_eq_some_iff.mp hl
      obtain ⟨z, hz, e⟩ := List.mem_map.mp hy
      unfold goO at e
      split at e
      · cases e
      · cases e; exact ⟨⟨h0, r, hr, hz⟩, h2, by simp⟩
    · rintro ⟨⟨h0, r, hr, hy⟩, h2, _⟩
      have hn := nx_rng hok hr hy
      refine ⟨⟨h0, r.nx.map (goO rs.length), by rw [List.getElem?_map, hr]; rfl, ?_⟩, hn.1, h2⟩
      refine List.mem_map.mpr ⟨y, hy, ?_⟩
      unfold goO
      rw [if_neg (by omega)]
  exact ⟨Rch.mono fun x y h1 h2 => (key x y).mp ⟨h1, h2⟩, Rch.mono fun x y h1 h2 => (key x y).mpr ⟨h1, h2⟩⟩
end
section
set_option autoImplicit false
set_option linter.unusedVariables false
set_option linter.unusedSimpArgs false
set_option maxRecDepth 100000
open PySem
variable {hb : Heap} {w : World} {f : Addr} {n : Nat}

theorem mem_keys_of_isSome {kvs : KV} {k : Option Int} : (dget kvs k).isSome = decide (k ∈ kvs.map (·.1)) := by
  induction kvs with
  | nil => simp [dget]
  | cons p kvs ih =>
    obtain ⟨y, v⟩ := p
    simp only [dget]
    by_cases e : y = k
    · simp [e]
    · rw [if_neg e, ih]; simp [Ne.symm e]
theorem dget_at {kvs : KV} {i : Nat} {k : Option Int} {m : MV} (hn : (kvs.map (·.1)).Nodup) (h : kvs[i]? = some (k, m)) : dget kvs k = some m := by
  induction kvs generalizing i with
  | nil => simp at h
  | cons p kvs ih =>
    obtain ⟨y, v⟩ := p
    simp only [List.map_cons, List.nodup_cons] at hn
    simp only [dget]
    cases i with
    | zero => simp at h; obtain ⟨rfl, rfl⟩ := h; simp
    | succ i =>
      simp at h
      rw [if_neg (fun e => hn.1 (by rw [e]; exact List.mem_map.mpr ⟨_, List.mem_of_getElem? h, rfl⟩))]
      exact ih hn.2 h
theorem dput_new {kvs : KV} {k : Option Int} {m : MV} (h : k ∉ kvs.map (·.1)) : dput kvs k m = kvs ++ [(k, m)] := by
  induction kvs with
  | nil => rfl
  | cons p kvs ih =>
    obtain ⟨y, v⟩ := p
    simp only [List.map_cons, List.mem_cons, not_or] at h
    simp only [dput]
    rw [if_neg (Ne.symm h.1), ih h.2]; rfl
theorem dput_same {kvs : KV} {k : Option Int} {m : MV} (h : dget kvs k = some m) : dput kvs k m = kvs := by
  induction kvs with
  | nil => simp [dget] at h
  | cons p kvs ih =>
    obtain ⟨y, v⟩ := p
    simp only [dget] at h
    simp only [dput]
    split at h
    · rename_i e; rw [if_pos e]; cases h; rfl
    · rename_i e; rw [if_neg e, ih h]

/-- known: row and how far -/
def knOf (K : List (Int × Nat)) : KV := K.map fun p => (some p.1, MV.int p.2)
theorem knOf_keys (K : List (Int × Nat)) : (knOf K).map (·.1) = (K.map (·.1)).map some := by simp [knOf, Function.comp_def]
theorem knOf_in (K : List (Int × Nat)) (b : Int) : (dget (knOf K) (some b)).isSome = decide (b ∈ K.map (·.1)) := by
  rw [mem_keys_of_isSome, knOf_keys]; simp
theorem knOf_get {K : List (Int × Nat)} (hn : (K.map (·.1)).Nodup) {i : Nat} {x : Int} {v : Nat} (h : K[i]? = some (x, v)) : dget (knOf K) (some x) = some (.int v) :=
  dget_at (i := i) (by rw [knOf_keys]; exact nodup_map_some hn) (by simp [knOf, h])
theorem knOf_put {K : List (Int × Nat)} {x : Int} {v : Nat} (h : x ∉ K.map (·.1)) : dput (knOf K) (some x) (.int v) = knOf (K ++ [(x, v)]) := by
  rw [dput_new (by rw [knOf_keys]; simpa using h)]; simp [knOf]
theorem knOf_length (K : List (Int × Nat)) : (knOf K).length = K.length := by simp [knOf]
/-- fresh: rows, all as far -/
def frOf (v : Int) (fr : List Int) : KV := fr.map fun x => (some x, MV.int v)
theorem frOf_keys (v : Int) (fr : List Int) : (frOf v fr).map (·.1) = fr.map some := by simp [frOf, Function.comp_def]
theorem frOf_get {v : Int} {fr : List Int} (hn : fr.Nodup) {x : Int} (h : x ∈ fr) : dget (frOf v fr) (some x) = some (.int v) := by
  obtain ⟨i, hi⟩ := List.mem_iff_getElem?.mp h
  exact dget_at (i := i) (by rw [frOf_keys]; exact nodup_map_some hn) (by simp [frOf, hi])
theorem frOf_put {v : Int} {fr : List Int} {x : Int} (h : x ∉ fr) : dput (frOf v fr) (some x) (.int v) = frOf v (fr ++ [x]) := by
  rw [dput_new (by rw [frOf_keys]; simpa using h)]; simp [frOf]
theorem frOf_put' {v : Int} {fr : List Int} (hn : fr.Nodup) {x : Int} (h : x ∈ fr) : dput (frOf v fr) (some x) (.int v) = frOf v fr := dput_same (frOf_get hn h)
theorem frOf_length (v : Int) (fr : List Int) : (frOf v fr).length = fr.length := by simp [frOf]

def S_law_ahead : Spec := fun args B own Q => own = [] ∧ ∃ (c : Addr) (r : Rw), args = [.ref c] ∧ B c = some (.tup (Rw.mv r)) ∧ ∀ a, B a = none → Q (.ref a) (setB B a (.list (r.nx.map MV.int))) []
theorem ct_law_ahead (F : FnAt hb f i_law_ahead) (hlim : hb.NoLimit) : Contract P w hb (.ref f) (n + 1) S_law_ahead := by
  refine Contract.of F hlim (by rintro args B own Q ⟨_, a, b, e, _⟩; subst e; rfl) ?_
  rintro C args B own Q F' ⟨rfl, c, r, rfl, hB, hQ⟩
  show Sts C (bodyAt P i_law_ahead) ⟨[(Str.ofString "_law_row", _)], B, []⟩ _
  refine Sts_cons ?_
  walk_at "m"
  cases hr : r.add with
  | true =>
    refine if_neg' (by rw [word_add hr]; exact ofString_ne (by decide)) ?_
    walk_at "m"
    intro a ha
    refine ⟨_, .frz ha.md, ?_⟩
    have := hQ a ha.B
    rw [show r.nx = [r.y] from by simp [Rw.nx, hr]] at this
    exact this
  | false =>
    refine if_pos' (word_more hr) ?_
    walk_at "m"
    intro a ha
    refine ⟨_, .frz ha.md, ?_⟩
    have := hQ a ha.B
    rw [show r.nx = [r.z, r.y] from by simp [Rw.nx, hr]] at this
    exact this

theorem Sub0.unB {B B' : MH} {d : Addr} (h : Sub0 B B') (hd : B d = Option.none) : Sub0 B (Mine.unB B' d) := fun a o ha => by
  rw [unB_ne (fun e => by subst e; rw [hd] at ha; cases ha)]; exact h a o ha

def S_law_rounds : Spec := fun args B own Q => own = [] ∧ ∃ (b wi : Addr) (st : Int) (rs : List Rw) (wo : List Int), args = [.ref b, .int st, .ref wi] ∧ RowsAt B b rs ∧ RowsOk rs ∧ B wi = some (.list (wo.map MV.int)) ∧ 0 ≤ st ∧ st < rs.length ∧
  ∀ (K : List (Int × Nat)) (d : Addr) (B' : MH), Sub0 B B' → B' d = some (.dict (knOf K)) → RInv (goTo rs) (inR rs wo) (st ∉ wo) st rs.length rs.length K → Q (.ref d) B' []

theorem ct_law_rounds (F : FnAt hb f i_law_rounds) (hlim : hb.NoLimit) (h1 : FnC P w hb "_law_ahead" 1 S_law_ahead) (glen : Gl hb "len" (.oth (.builtin "len"))) (gr : Gl hb "range" (.oth (.type "range"))) : Contract P w hb (.ref f) 2 S_law_rounds := by
  refine Contract.of F hlim (by rintro args B own Q ⟨_, _, _, _, _, _, e, _⟩; subst e; rfl) ?_
  rintro C args B own Q F' ⟨rfl, b, wi, st, rs, wo, rfl, ⟨as, hb1, ht⟩, hok, hwi, h0, h1', hQ⟩
  show Sts C (bodyAt P i_law_rounds) ⟨[(Str.ofString "_law_rows", _), (Str.ofString "_law_start", _), (Str.ofString "_law_without", _)], B, []⟩ _
  have h20 := hok.2.1
  have el : ((as.map MV.ref).length : Int) = (rs.length : Nat) := by simp [ht.1]
  refine Sts_cons ?_
  walk_at "m"
  refine Ex_Dict0 F' hlim fun d hd => ?_
  walk_at "m store"
  dsimp only
  refine Sts_cons ?_
  refine Stm_mono (Q := fun f σ' => f = .next ∧ ∃ K, σ' = ⟨[(Str.ofString "_law_rows", .ref b), (Str.ofString "_law_start", .int st), (Str.ofString "_law_without", .ref wi), (Str.ofString "_law_known", .ref d)], B, [(d, .dict (knOf K))]⟩ ∧ RInv (goTo rs) (inR rs wo) (st ∉ wo) st rs.length 0 K) ?_ ?_
  · walk_at "m"
    refine if_ndec (fun hin => ?_) (fun hin => ?_)
    · walk_at "m"
      refine SetG_dicti F' .head (by simp [lim]) ?_
      walk_at "m"
      exact ⟨rfl, [(st, 1)], rfl, .init1 hin h0 h1'⟩
    · walk_at "m"
      exact ⟨rfl, [], rfl, .init0 (by simpa using hin)⟩
  rintro _ _ ⟨rfl, K0, rfl, R0⟩
  dsimp only
  refine Sts_cons ?_
  refine Stm_ForC F' (fun _ => rfl) ?_
  walk_at "m"
  rw [el]
  refine Call_range (Int.natCast_nonneg _) (lim20 h20) fun ra => ?_
  rw [Int.toNat_natCast]
  refine ⟨_, fun t σ' => ∃ K B', σ' = ⟨[(Str.ofString "_law_rows", .ref b), (Str.ofString "_law_start", .int st), (Str.ofString "_law_without", .ref wi), (Str.ofString "_law_known", .ref d)], B', [(d, .dict (knOf K))]⟩ ∧ Sub0 B B' ∧ RInv (goTo rs) (inR rs wo) (st ∉ wo) st rs.length t K, ⟨ra, rfl, .inr (.inr ⟨_, .inl (.head _), (range_nums0 _).symm⟩)⟩, ⟨_, .tl, K0, B, rfl, Sub0.rfl' _, R0⟩, ?_, ?_⟩
  · rintro C1 F1 t σ' m ⟨K, B', rfl, hs, R⟩ hm
    rw [List.getElem?_map] at hm
    obtain ⟨z, hz, rfl⟩ := Option.map_eq_some_iff.mp hm
    clear hm
    walk_at "m"
    refine Ex_Dict0 F1 hlim fun fd hfd => ?_
    walk_at "m store"
    dsimp only
    have hKl : K.length ≤ rs.length := by have := length_le_of_nodup rs.length (K.map (·.1)) R.nd R.rng; simpa using this
    refine Sts_cons ?_
    refine Stm_mono (Q := fun f σ' => f = .next ∧ ∃ fr B'', σ' = ⟨[(Str.ofString "_law_rows", .ref b), (Str.ofString "_law_start", .int st), (Str.ofString "_law_without", .ref wi), (Str.ofString "_law_known", .ref d), (Str.ofString "_law_turn", .int z), (Str.ofString "_law_fresh", .ref fd)], B'', [(d, .dict (knOf K)), (fd, .dict (frOf ((t : Int) + 2) fr))]⟩ ∧ Sub0 B B'' ∧ FInv (goTo rs) (inR rs wo) (st ∉ wo) st rs.length t K fr K.length []) ?_ ?_
    · refine Stm_cv F1 (.perm (List.Perm.swap ..)) ?_
      refine Stm_facts fun hfa _ => ?_
      have hBd : B' d = none := hfa d (by simp)
      refine Tr.borrow F1 hd.md ?_
      have hs1 : Sub0 B (setB B' d (.dict (knOf K))) := hs.trans (Sub0.set hBd)
      have hd1 : setB B' d (.dict (knOf K)) d = some (.dict (knOf K)) := setB_self
      revert hs1 hd1
      generalize setB B' d (.dict (knOf K)) = B1
      intro hs1 hd1
      refine gStm ?_
      refine Stm_ForC F1 (fun _ => rfl) ?_
      walk_at "m"
      refine ⟨_, fun i σ' => ∃ fr B'', σ' = ⟨[(Str.ofString "_law_rows", .ref b), (Str.ofString "_law_start", .int st), (Str.ofString "_law_without", .ref wi), (Str.ofString "_law_known", .ref d), (Str.ofString "_law_turn", .int z), (Str.ofString "_law_fresh", .ref fd)], B'', [(fd, .dict (frOf ((t : Int) + 2) fr))]⟩ ∧ Sub0 B1 B'' ∧ FInv (goTo rs) (inR rs wo) (st ∉ wo) st rs.length t K fr i [], ⟨d, rfl, .inr (.inl (.inr ⟨_, hd1, rfl⟩))⟩, ⟨_, .refl _, [], B1, rfl, Sub0.rfl' _, .init⟩, ?_, ?_⟩
      · rintro C2 F2 i σ' m ⟨fr, B2, rfl, hs2, D⟩ hm
        rw [List.getElem?_map] at hm
        obtain ⟨p, hp, rfl⟩ := Option.map_eq_some_iff.mp hm
        unfold knOf at hp
        rw [List.getElem?_map] at hp
        obtain ⟨⟨x, v⟩, hx, rfl⟩ := Option.map_eq_some_iff.mp hp
        show Store C2 _ (MV.int x) _ _
        have hxr := R.rng x (List.mem_map.mpr ⟨_, List.mem_of_getElem? hx, rfl⟩)
        obtain ⟨r, hr⟩ := get_in (l := rs) hxr.1 hxr.2
        have hsB := hs1.trans hs2
        obtain ⟨rA, hrA, hrB⟩ := (ht.mono hsB).get hr
        walk_at "m store"
        dsimp only
        refine Sts_cons ?_
        refine Stm_ForC F2 (fun _ => rfl) ?_
        walk_at "m"
        refine SubG_list (.inr (hsB _ _ hb1)) hxr.1 (m := .ref rA) (by rw [List.getElem?_map, hrA]; rfl) ?_
        walk_at "m"
        refine ⟨rfl, rA, r, rfl, hrB, fun na hna => ?_⟩
        have hs3 : Sub0 B2 (setB B2 na (.list (r.nx.map MV.int))) := Sub0.set hna
        have hn3 : setB B2 na (.list (r.nx.map MV.int)) na = some (.list (r.nx.map MV.int)) := setB_self
        revert hs3 hn3
        generalize setB B2 na (.list (r.nx.map MV.int)) = B3
        intro hs3 hn3
        have hsB3 := hsB.trans hs3
        have hb3 := hsB3 _ _ hb1
        have hw3 := hsB3 _ _ hwi
        have hd3 := (hs2.trans hs3) _ _ hd1
        have D0 := D.enter (a := (x, v)) hx (succ := r.nx) fun b' ⟨_, r', hr', hb'⟩ => by rw [hr] at hr'; cases hr'; exact hb'
        refine ⟨_, fun j σ' => ∃ fr, σ' = ⟨[(Str.ofString "_law_rows", .ref b), (Str.ofString "_law_start", .int st), (Str.ofString "_law_without", .ref wi), (Str.ofString "_law_known", .ref d), (Str.ofString "_law_turn", .int z), (Str.ofString "_law_fresh", .ref fd), (Str.ofString "_law_row", .int x)], B3, [(fd, .dict (frOf ((t : Int) + 2) fr))]⟩ ∧ FInv (goTo rs) (inR rs wo) (st ∉ wo) st rs.length t K fr (i + 1) (r.nx.drop j), ⟨na, rfl, .inl hn3⟩, ⟨_, .refl _, fr, rfl, D0⟩, ?_, ?_⟩
        · rintro C3 F3 j σ' m ⟨fr, rfl, D⟩ hm
          rw [List.getElem?_map] at hm
          obtain ⟨o, ho, rfl⟩ := Option.map_eq_some_iff.mp hm
          have hdr : r.nx.drop j = o :: r.nx.drop (j + 1) := by
            have hlt := (List.getElem?_eq_some_iff.mp ho).1
            rw [List.drop_eq_getElem_cons hlt]; congr 1; rw [List.getElem?_eq_getElem hlt] at ho; exact Option.some.inj ho
          rw [hdr] at D
          have hom := List.mem_of_getElem? ho
          have hor := nx_rng hok hr hom
          have hfl : fr.length ≤ rs.length := length_le_of_nodup rs.length fr D.nd fun y hy => ⟨(D.new y hy).2.1, (D.new y hy).2.2.1⟩
          walk_at "m"
          rw [el]
          refine if_dec (fun hlt => ?_) (fun hlt => ?_)
          · walk_at "m"
            rw [knOf_in]
            refine if_ndec (fun hnk => ?_) (fun hk => ?_)
            · walk_at "m"
              refine if_ndec (fun hnw => ?_) (fun hw => ?_)
              · have hgo : goTo rs x o := ⟨hxr.1, r, hr, hom⟩
                obtain ⟨hv, -⟩ := R.next (List.mem_of_getElem? hx) hgo ⟨hlt, hnw⟩ hnk
                walk_at "m"
                refine SubG_dicti (.inr hd3) (knOf_get R.nd hx) ?_
                walk_at "m"
                rw [show ((v : Nat) : Int) + 1 = (t : Int) + 2 by omega]
                by_cases hf : o ∈ fr
                · refine SetG_dicti F3 .head (by rw [frOf_length]; exact lim_ok hfl (k20 h20)) ?_
                  walk_at "m"
                  rw [frOf_put' D.nd hf]
                  exact ⟨_, .pre [(_, _)] rfl, fr, rfl, D.skip fun _ => .inr hf⟩
                · refine SetG_dicti F3 .head (by rw [frOf_length]; exact lim_ok hfl (k20 h20)) ?_
                  walk_at "m"
                  rw [frOf_put hf]
                  exact ⟨_, .pre [(_, _)] rfl, fr ++ [o], rfl, D.add R hx hgo ⟨hlt, hnw⟩ hnk hf hor.1 hlt⟩
              · walk_at "m"
                exact ⟨_, .pre [(_, _)] rfl, fr, rfl, D.skip fun h => absurd hw h.2⟩
            · walk_at "m"
              exact ⟨_, .pre [(_, _)] rfl, fr, rfl, D.skip fun h => .inl hk⟩
          · walk_at "m"
            exact ⟨_, .pre [(_, _)] rfl, fr, rfl, D.skip fun h => absurd h.1 hlt⟩
        · rintro C3 F3 σ' ⟨fr, rfl, D⟩
          refine Sts_nil ?_
          refine Sts_nil ?_
          rw [List.length_map, List.drop_length] at D
          exact ⟨_, .pre [(_, _)] rfl, fr, B3, rfl, hs2.trans hs3, D⟩
      · rintro C2 F2 σ' ⟨fr, B2, rfl, hs2, D⟩
        refine Sts_nil ?_
        refine ⟨hs2 _ _ hd1, rfl, fr, unB B2 d, rfl, (hs1.trans hs2).unB hd.B, ?_⟩
        rw [List.length_map, knOf_length] at D
        exact D
    rintro _ _ ⟨rfl, fr, B2, rfl, hs2, D⟩
    dsimp only
    have hfl : fr.length ≤ rs.length := length_le_of_nodup rs.length fr D.nd fun y hy => ⟨(D.new y hy).2.1, (D.new y hy).2.2.1⟩
    refine Sts_facts fun hfa _ => ?_
    have hB2 : B2 fd = none := hfa fd (by simp)
    refine Sts_cv F1 (.trans (.perm (List.Perm.swap ..)) (.frz hfd.md)) ?_
    have hs3 : Sub0 B (setB B2 fd (.dict (frOf ((t : Int) + 2) fr))) := hs2.trans (Sub0.set hB2)
    have hf3 : setB B2 fd (.dict (frOf ((t : Int) + 2) fr)) fd = some (.dict (frOf ((t : Int) + 2) fr)) := setB_self
    revert hs3 hf3
    generalize setB B2 fd (.dict (frOf ((t : Int) + 2) fr)) = B3
    intro hs3 hf3
    refine Sts_cons ?_
    refine Stm_ForC F1 (fun _ => rfl) ?_
    walk_at "m"
    refine ⟨_, fun i σ' => σ' = ⟨[(Str.ofString "_law_rows", .ref b), (Str.ofString "_law_start", .int st), (Str.ofString "_law_without", .ref wi), (Str.ofString "_law_known", .ref d), (Str.ofString "_law_turn", .int z), (Str.ofString "_law_fresh", .ref fd)], B3, [(d, .dict (knOf (K ++ (fr.take i).map (·, t + 2))))]⟩, ⟨fd, rfl, .inr (.inl (.inr ⟨_, hf3, rfl⟩))⟩, ⟨_, .refl _, by simp⟩, ?_, ?_⟩
    · rintro C2 F2 i σ' m rfl hm
      rw [List.getElem?_map] at hm
      obtain ⟨p, hp, rfl⟩ := Option.map_eq_some_iff.mp hm
      unfold frOf at hp
      rw [List.getElem?_map] at hp
      obtain ⟨x, hx, rfl⟩ := Option.map_eq_some_iff.mp hp
      show Store C2 _ (MV.int x) _ _
      have hxm := List.mem_of_getElem? hx
      have et : fr.take (i + 1) = fr.take i ++ [x] := by rw [List.take_add_one, hx]; rfl
      have hnew : x ∉ (K ++ (fr.take i).map (·, t + 2)).map (·.1) := by
        have e : (K ++ (fr.take i).map (·, t + 2)).map (·.1) = K.map (·.1) ++ fr.take i := by simp [List.map_append, Function.comp_def]
        rw [e]
        intro hm
        rcases List.mem_append.mp hm with h | h
        · exact (D.new x hxm).1 h
        · have hnd : (fr.take (i + 1)).Nodup := D.nd.sublist (List.take_sublist ..)
          rw [et] at hnd
          exact (List.nodup_append.mp hnd).2.2 x h x (by simp) rfl
      walk_at "m"
      rw [knOf_in]
      refine if_nfalse hnew ?_
      walk_at "m"
      refine SubG_dicti (.inr hf3) (frOf_get D.nd hxm) ?_
      walk_at "m"
      refine SetG_dicti F2 .head (by rw [knOf_length, List.length_append, List.length_map]; exact lim_ok (n := rs.length + rs.length) (Nat.add_le_add hKl (Nat.le_trans (List.length_take_le' ..) hfl)) (Nat.le_trans (Nat.add_le_add h20 h20) (by decide))) ?_
      walk_at "m"
      rw [show ((t : Int) + 2) = ((t + 2 : Nat) : Int) from by omega, knOf_put hnew]
      exact ⟨_, .pre [(_, _)] rfl, by rw [et, List.map_append, ← List.append_assoc]; rfl⟩
    · rintro C2 F2 σ' rfl
      refine Sts_nil ?_
      refine Sts_nil ?_
      rw [List.length_map, frOf_length, List.take_length]
      exact ⟨_, .pre [(_, _), (_, _)] rfl, K ++ fr.map (·, t + 2), B3, rfl, hs3, R.step D⟩
  · rintro C1 F1 σ' ⟨K, B', rfl, hs, R⟩
    refine Sts_facts fun hfa _ => ?_
    have hBd : B' d = none := hfa d (by simp)
    rw [List.length_map, length_nums0] at R
    walk_at "m"
    exact ⟨_, .frz hd.md, hQ K d _ (hs.trans (Sub0.set hBd)) setB_self R⟩
end
section
set_option autoImplicit false
set_option linter.unusedVariables false
set_option linter.unusedSimpArgs false
set_option maxRecDepth 100000
open PySem
variable {hb : Heap} {w : World} {f : Addr} {n : Nat}

theorem tks_mv (l : List Int) : (tks l).map (fun p => keyMV p.1) = l.map MV.int := by simp [tks, keyMV, Function.comp_def]

def S_live_rows : Spec := fun args B own Q => own = [] ∧ ∃ (b : Addr) (rs : List Rw), args = [.ref b] ∧ RowsAt B b rs ∧ RowsOk rs ∧
  ∀ (a : Addr) (ns : List Int) (B' : MH), Sub0 B B' → B' a = some (.list (ns.map MV.int)) → ns.Pairwise (· ≤ ·) → ns.Nodup → ns.length ≤ rs.length → (∀ x, x ∈ ns ↔ Rch (goTo rs) (inR rs []) 0 x) → Q (.ref a) B' []
theorem ct_live_rows (F : FnAt hb f i_live_rows) (hlim : hb.NoLimit) (h2 : FnC P w hb "goings" 2 S_goings) (h3 : FnC P w hb "come_to" 1 S_come_to) (gd : GlD hb) (glen : Gl hb "len" (.oth (.builtin "len"))) (gr : Gl hb "range" (.oth (.type "range"))) (gli : Gl hb "list" (.oth (.type "list"))) (gso : Gl hb "sorted" (.oth (.builtin "sorted"))) : Contract P w hb (.ref f) 3 S_live_rows := by
  refine Contract.of F hlim (by rintro args B own Q ⟨_, _, _, e, _⟩; subst e; rfl) ?_
  rintro C args B own Q F' ⟨rfl, b, rs, rfl, ⟨as, hb1, ht⟩, hok, hQ⟩
  show Sts C (bodyAt P i_live_rows) ⟨[(Str.ofString "rows", _)], B, []⟩ _
  have h20 := hok.2.1
  have h01 := hok.1
  have el : ((as.map MV.ref).length : Int) = (rs.length : Nat) := by simp [ht.1]
  refine Sts_cons ?_
  walk_at "m"
  refine Ex_dictTrue F' hlim gd rfl (by walk_at "m compok") (fun _ => rfl) (by decide) ?_
  walk_at "m"
  rw [el]
  refine Call_range (Int.natCast_nonneg _) (lim20 h20) fun ra => ?_
  refine ⟨nums0 rs.length, ⟨ra, rfl, .inr (.inr ⟨_, .inl (.head _), by rw [Int.toNat_natCast]; exact (range_nums0 _).symm⟩)⟩, nodup_nums0 _, by rw [length_nums0]; exact lim20 h20, fun B2 d hs2 hd hdm hdo => ?_⟩
  have hs3 : Sub0 B (setB B2 d (.dict (tks (nums0 rs.length)))) := hs2.trans (Sub0.set hd)
  have hd3 : (setB B2 d (.dict (tks (nums0 rs.length)))) d = some (.dict (tks (nums0 rs.length))) := setB_self
  refine Store_cv F' (.trans (.frz hdm) Cv.none) ?_
  revert hs3 hd3
  generalize setB B2 d (.dict (tks (nums0 rs.length))) = B3
  intro hs3 hd3
  walk_at "m"
  refine ⟨rfl, _, _, rfl, RowsAt.mono ⟨as, hb1, ht⟩ hs3, h20, fun g B4 hs4 hg => ?_⟩
  walk_at "m"
  refine ⟨rfl, g, d, 0, gsOf rs, _, rfl, hg, hs4 _ _ hd3, by rw [length_gsOf]; exact k20 h20, Int.le_refl _, by rw [length_gsOf]; exact Int.ofNat_lt.mpr h01, fun i hi => by rw [length_gsOf]; exact inD_nums0.mp hi, fun found hnd hfo hrng e he => ?_⟩
  have hs5 : Sub0 B4 (setB B4 e (.dict (tks found))) := Sub0.set he
  have he5 : (setB B4 e (.dict (tks found))) e = some (.dict (tks found)) := setB_self
  revert hs5 he5
  generalize setB B4 e (.dict (tks found)) = B5
  intro hs5 he5
  have hfl : found.length ≤ rs.length := by
    have := length_le_of_nodup (gsOf rs).length found hnd hrng
    rw [length_gsOf] at this; exact this
  walk_at "m"
  refine Call_listDict F' (.inr he5) fun l1 hl1 => ?_
  rw [tks_mv]
  walk_at "m"
  refine Call_sorted F' (.inl (.head _)) (Nat.lt_of_le_of_lt (Nat.le_trans hfl h20) (by decide)) fun ns l2 hp hso hl2 => ?_
  refine ⟨_, .trans (.frz hl2.md) Cv.none, hQ l2 ns _ ((hs3.trans (hs4.trans hs5)).trans (Sub0.set hl2.B)) setB_self hso (hp.nodup_iff.mpr hnd) (by rw [hp.length_eq]; exact hfl) fun x => ?_⟩
  rw [hp.mem_iff, hfo x]
  exact rch_goTo hok ⟨Int.le_refl _, Int.ofNat_lt.mpr h01⟩

theorem ct_reached (F : FnAt hb f i_reached) (hlim : hb.NoLimit) (h1 : FnC P w hb "need_rows" 4 S_need_rows) (h2 : FnC P w hb "live_rows" 3 S_live_rows) : Contract P w hb (.ref f) 5 S_live_rows := by
  refine Contract.of F hlim (by rintro args B own Q ⟨_, _, _, e, _⟩; subst e; rfl) ?_
  rintro C args B own Q F' ⟨rfl, b, rs, rfl, hR, hok, hQ⟩
  show Sts C (bodyAt P i_reached) ⟨[(Str.ofString "rows", _)], B, []⟩ _
  refine Sts_cons ?_
  walk_at "m"
  refine ⟨rfl, _, _, rfl, hR, hok, ?_⟩
  walk_at "m"
  refine ⟨rfl, _, _, rfl, hR, hok, fun a ns B' h1 h2 h3 h4 h5 h6 => ?_⟩
  walk_at "m"
  exact ⟨_, .refl _, hQ a ns B' h1 h2 h3 h4 h5 h6⟩

theorem Wk.mono {E E' : Int → Int → Prop} {ok ok' : Int → Prop} {st : Prop} {s : Int} (h : ∀ a b, E a b → ok b → E' a b ∧ ok' b) {k : Nat} {x : Int} (hw : Wk E ok st s k x) : Wk E' ok' st s k x := by
  induction hw with
  | zero h => exact .zero h
  | succ _ e o ih => exact .succ ih (h _ _ e o).1 (h _ _ e o).2
theorem edge_goTo {rs : List Rw} (hok : RowsOk rs) (wo : List Int) (x y : Int) : (edge (gsOf rs) x y ∧ y ∉ wo) ↔ (goTo rs x y ∧ inR rs wo y) := by
  unfold edge goTo inR gsOf
  constructor
  · rintro ⟨⟨h0, l, hl, hy⟩, h1⟩
    rw [List.getElem?_map] at hl
    obtain ⟨r, hr, rfl⟩ := Option.map_eq_some_iff.mp hl
    obtain ⟨z, hz, e⟩ := List.mem_map.mp hy
    unfold goO at e
    split at e
    · cases e
    · cases e; have := nx_rng hok hr hz; exact ⟨⟨h0, r, hr, hz⟩, by omega, h1⟩
  · rintro ⟨⟨h0, r, hr, hy⟩, h2, h3⟩
    have hn := nx_rng hok hr hy
    refine ⟨⟨h0, r.nx.map (goO rs.length), by rw [List.getElem?_map, hr]; rfl, ?_⟩, h3⟩
    refine List.mem_map.mpr ⟨y, hy, ?_⟩
    unfold goO
    rw [if_neg (by omega)]

/-- came: row and row before -/
def cameOf (L : BL) : KV := L.map fun t => (some t.1, keyMV t.2.1)
theorem cameOf_keys (L : BL) : (cameOf L).map (·.1) = (L.map (·.1)).map some := by simp [cameOf, Function.comp_def]
theorem cameOf_in (L : BL) (b : Int) : (dget (cameOf L) (some b)).isSome = decide (b ∈ L.map (·.1)) := by
  rw [mem_keys_of_isSome, cameOf_keys]; simp
theorem cameOf_get {L : BL} (hn : (L.map (·.1)).Nodup) {i : Nat} {x : Int} {p : Option Int} {l : Nat} (h : L[i]? = some (x, p, l)) : dget (cameOf L) (some x) = some (keyMV p) :=
  dget_at (i := i) (by rw [cameOf_keys]; exact nodup_map_some hn) (by simp [cameOf, h])
theorem cameOf_put {L : BL} {x p : Int} {l : Nat} (h : x ∉ L.map (·.1)) : dput (cameOf L) (some x) (.int p) = cameOf (L ++ [(x, some p, l)]) := by
  rw [dput_new (by rw [cameOf_keys]; simpa using h)]; simp [cameOf, keyMV]
theorem cameOf_length (L : BL) : (cameOf L).length = L.length := by simp [cameOf]

structure IsWay (rs : List Rw) (wo : List Int) (start goal : Int) (p : List Int) : Prop where
  len : ∃ k, p.length = k + 1 ∧ Wk (goTo rs) (inR rs wo) (start ∉ wo) start k goal ∧ ∀ j, Wk (goTo rs) (inR rs wo) (start ∉ wo) start j goal → k ≤ j
  hd : p[0]? = some start
  lst : p[p.length - 1]? = some goal
  lk : ∀ (i : Nat) (a b : Int), p[i]? = some a → p[i + 1]? = some b → goTo rs a b
  rng : ∀ x ∈ p, 0 ≤ x ∧ x < (rs.length : Nat) ∧ x ∉ wo
def S_way : Spec := fun args B own Q => own = [] ∧ ∃ (b wi : Addr) (start goal : Int) (rs : List Rw) (wo : List Int), args = [.ref b, .int start, .int goal, .ref wi] ∧ RowsAt B b rs ∧ RowsOk rs ∧ B wi = some (.list (wo.map MV.int)) ∧ 0 ≤ start ∧ start < rs.length ∧ 0 ≤ goal ∧ goal < rs.length ∧
  ((∀ k, ¬ Wk (goTo rs) (inR rs wo) (start ∉ wo) start k goal) → ∀ B', Sub0 B B' → Q .none B' []) ∧
  (∀ (a : Addr) (p : List Int) (B' : MH), Sub0 B B' → B' a = some (.list (p.map MV.int)) → IsWay rs wo start goal p → Q (.ref a) B' [])

theorem ct_way (F : FnAt hb f i_way) (hlim : hb.NoLimit) (h1 : FnC P w hb "need_rows" 4 S_need_rows) (h2 : FnC P w hb "goings" 2 S_goings) (glen : Gl hb "len" (.oth (.builtin "len"))) (gli : Gl hb "list" (.oth (.type "list"))) (grv : Gl hb "reversed" (.oth (.type "reversed"))) : Contract P w hb (.ref f) 5 S_way := by
  refine Contract.of F hlim (by rintro args B own Q ⟨_, _, _, _, _, _, _, e, _⟩; subst e; rfl) ?_
  rintro C args B own Q F' ⟨rfl, b, wi, start, goal, rs, wo, rfl, hR, hok, hwi, h0, h0', hg0, hg1, hQn, hQs⟩
  show Sts C (bodyAt P i_way) ⟨[(Str.ofString "rows", _), (Str.ofString "start", _), (Str.ofString "goal", _), (Str.ofString "without", _)], B, []⟩ _
  have h20 := hok.2.1
  refine Sts_cons ?_
  walk_at "m"
  refine ⟨rfl, _, _, rfl, hR, hok, ?_⟩
  walk_at "m"
  refine if_dec (fun hin => ?_) (fun hin => ?_)
  · walk_at "m"
    exact ⟨_, .refl _, hQn (fun k hw => hw.hst hin) _ (Sub0.rfl' _)⟩
  walk_at "m"
  refine if_dec (fun hin2 => ?_) (fun hin2 => ?_)
  · walk_at "m"
    refine ⟨_, .refl _, hQn (fun k hw => ?_) _ (Sub0.rfl' _)⟩
    cases hw with
    | zero h => exact h hin2
    | succ _ _ o => exact o.2 hin2
  walk_at "m"
  refine ⟨rfl, _, _, rfl, hR, h20, fun g B1 hs1 hg => ?_⟩
  obtain ⟨as, hgB, hlen, hgs⟩ := hg
  rw [length_gsOf] at hlen
  have hw1 := hs1 _ _ hwi
  walk_at "m"
  refine Ex_Dict1 F' hlim fun cd hcd => ?_
  walk_at "m"
  refine ⟨_, _, rfl, .head, ?_⟩
  walk_at "m"
  intro wa hwa
  walk_at "m"
  refine Stm_WhileC F' (fun k σ' => ∃ (L : BL) (pr : Nat), σ' = ⟨[(Str.ofString "rows", .ref b), (Str.ofString "start", .int start), (Str.ofString "goal", .int goal), (Str.ofString "without", .ref wi), (Str.ofString "goes", .ref g), (Str.ofString "came", .ref cd), (Str.ofString "waiting", .ref wa), (Str.ofString "at", .int pr)], B1, [(wa, .list ((L.map (·.1)).map MV.int)), (cd, .dict (cameOf L))]⟩ ∧
      BInv (edge (gsOf rs)) (· ∉ wo) start rs.length L pr [] ∧ k + pr = rs.length) ?_ rs.length ⟨_, .refl _, [(start, none, 1)], 0, rfl, .init h0 h0', rfl⟩
  rintro k σ' ⟨L, pr, rfl, D, hk⟩
  refine Ts_mono (Q := fun c σ₁ => σ₁ = ⟨[(Str.ofString "rows", .ref b), (Str.ofString "start", .int start), (Str.ofString "goal", .int goal), (Str.ofString "without", .ref wi), (Str.ofString "goes", .ref g), (Str.ofString "came", .ref cd), (Str.ofString "waiting", .ref wa), (Str.ofString "at", .int pr)], B1, [(wa, .list ((L.map (·.1)).map MV.int)), (cd, .dict (cameOf L))]⟩ ∧ (c = true → pr < L.length) ∧ (c = false → pr = L.length ∨ goal ∈ L.map (·.1))) ?_ ?_
  · walk_at "m"
    refine if_dec (fun hc => ?_) (fun hc => ?_)
    · simp only [List.length_map] at hc
      walk_at "m"
      rw [cameOf_in]
      refine if_ndec (fun hnc => ?_) (fun hnc => ?_)
      · walk_at "m"
        exact ⟨rfl, fun _ => Int.ofNat_lt.mp hc, fun h => by cases h⟩
      · walk_at "m"
        exact ⟨rfl, fun h => (by cases h), fun _ => .inr hnc⟩
    · simp only [List.length_map] at hc
      walk_at "m"
      exact ⟨rfl, fun h => (by cases h), fun _ => .inl (Nat.le_antisymm D.ple (Nat.not_lt.mp fun h => hc (Int.ofNat_lt.mpr h)))⟩
  rintro c _ ⟨rfl, hct, hcf⟩
  cases c with
  | true =>
    have hpr := hct rfl
    refine if_tt ?_
    refine Sts_cons ?_
    refine Stm_ForC F' (fun _ => rfl) ?_
    obtain ⟨⟨e, q, l⟩, hL⟩ : ∃ t, L[pr]? = some t := ⟨L[pr], by simp⟩
    have her := D.rng e (List.mem_map.mpr ⟨_, List.mem_of_getElem? hL, rfl⟩)
    obtain ⟨succ, hsu⟩ := get_in (l := gsOf rs) her.1 (by rw [length_gsOf]; exact her.2)
    obtain ⟨sa, hsa⟩ := get_in (l := as) her.1 (by rw [hlen]; exact her.2)
    have hwl : ((L.map (·.1)).map MV.int)[((pr : Nat) : Int).toNat]? = some (.int e) := by simp [hL]
    walk_at "m"
    refine SubG_list (.inl (.head _)) (Int.natCast_nonneg _) hwl ?_
    walk_at "m"
    refine SubG_list (.inr hgB) her.1 (m := .ref sa) (by rw [List.getElem?_map, hsa]; rfl) ?_
    refine ⟨succ.map keyMV, fun i σ' => ∃ (L : BL), σ' = ⟨[(Str.ofString "rows", .ref b), (Str.ofString "start", .int start), (Str.ofString "goal", .int goal), (Str.ofString "without", .ref wi), (Str.ofString "goes", .ref g), (Str.ofString "came", .ref cd), (Str.ofString "waiting", .ref wa), (Str.ofString "at", .int pr)], B1, [(wa, .list ((L.map (·.1)).map MV.int)), (cd, .dict (cameOf L))]⟩ ∧
      BInv (edge (gsOf rs)) (· ∉ wo) start rs.length L (pr + 1) (succ.drop i) ∧ L[pr]? = some (e, q, l), ⟨sa, rfl, .inl (hgs _ _ _ hsa hsu)⟩, ⟨_, .refl _, L, rfl, D.enter hL fun b' ⟨_, l', hl', hb'⟩ => by rw [hsu] at hl'; cases hl'; simpa using hb', hL⟩, ?_, ?_⟩
    · rintro C' F2 i σ' m ⟨L, rfl, D, hL⟩ hm
      rw [List.getElem?_map] at hm
      obtain ⟨o, ho, rfl⟩ := Option.map_eq_some_iff.mp hm
      have hdr : succ.drop i = o :: succ.drop (i + 1) := by
        have hlt := (List.getElem?_eq_some_iff.mp ho).1
        rw [List.drop_eq_getElem_cons hlt]; congr 1; rw [List.getElem?_eq_getElem hlt] at ho; exact Option.some.inj ho
      rw [hdr] at D
      have hwl : ((L.map (·.1)).map MV.int)[((pr : Nat) : Int).toNat]? = some (.int e) := by simp [hL]
      have hLl := D.len
      cases o with
      | none =>
        show Store C' _ MV.none _ _
        walk_at "m"
        refine ⟨_, .pre [(_, _)] rfl, L, rfl, D.skip hL (fun b e => by cases e), hL⟩
      | some o =>
        have hed : edge (gsOf rs) e o := ⟨her.1, succ, hsu, List.mem_of_getElem? ho⟩
        show Store C' _ (MV.int o) _ _
        walk_at "m"
        refine if_ndec (fun hnw => ?_) (fun hw => ?_)
        · walk_at "m"
          rw [cameOf_in]
          refine if_ndec (fun hnf => ?_) (fun hf => ?_)
          · have hor : 0 ≤ o ∧ o < rs.length := by
              obtain ⟨⟨_, r, hr, hn⟩, hi⟩ := (edge_goTo hok wo e o).mp ⟨hed, hnw⟩
              exact ⟨(nx_rng hok hr hn).1, hi.1⟩
            have D2 := D.add hL hed hnw hnf hor.1 hor.2
            have hwm := lim_map (g := MV.int) (l := L.map (·.1)) (by rw [List.length_map]; exact lim_ok hLl (k20 h20))
            walk_at "m"
            refine SubG_list (.inl (.head _)) (Int.natCast_nonneg _) hwl ?_
            walk_at "m"
            refine SetG_dicti F2 (.tail .head) (by rw [cameOf_length]; exact lim_ok hLl (k20 h20)) ?_
            walk_at "m"
            rw [cameOf_put (l := l + 1) hnf]
            rw [show List.map MV.int (L.map (·.1)) ++ [MV.int o] = ((L ++ [(o, some e, l + 1)]).map (·.1)).map MV.int from by simp]
            exact ⟨_, .pre [(_, _)] rfl, L ++ [(o, some e, l + 1)], rfl, D2, by rw [List.getElem?_append_left (List.getElem?_eq_some_iff.mp hL).1]; exact hL⟩
          · walk_at "m"
            exact ⟨_, .pre [(_, _)] rfl, L, rfl, D.skip hL (fun b' e _ => by cases e; exact hf), hL⟩
        · walk_at "m"
          exact ⟨_, .pre [(_, _)] rfl, L, rfl, D.skip hL (fun b' e h => by cases e; exact absurd hw h), hL⟩
    · rintro C' F2 σ' ⟨L2, rfl, D2, hL2⟩
      rw [List.length_map, List.drop_length] at D2
      have hple := D2.ple
      have hLl := D2.len
      walk_at "m"
      refine ⟨_, .refl _, k - 1, (bfs1 hk (Nat.le_trans hple hLl)).2, L2, pr + 1, ?_, D2, (bfs1 hk (Nat.le_trans hple hLl)).1⟩
      rfl
  | false =>
    refine if_ff ?_
    have hcf := hcf rfl
    clear hct
    have key := edge_goTo hok wo
    have wk1 : ∀ {j x}, Wk (edge (gsOf rs)) (· ∉ wo) (start ∉ wo) start j x → Wk (goTo rs) (inR rs wo) (start ∉ wo) start j x := fun {j x} h => h.mono fun a b e o => (key a b).mp ⟨e, o⟩
    have wk2 : ∀ {j x}, Wk (goTo rs) (inR rs wo) (start ∉ wo) start j x → Wk (edge (gsOf rs)) (· ∉ wo) (start ∉ wo) start j x := fun {j x} h => h.mono fun a b e o => (key a b).mpr ⟨e, o⟩
    refine Sts_nil ?_
    walk_at "m"
    rw [cameOf_in]
    refine if_ndec (fun hnc => ?_) (fun hc => ?_)
    · walk_at "m"
      refine ⟨_, .none, hQn (fun k hw => ?_) _ hs1⟩
      obtain rfl := hcf.resolve_right hnc
      exact hnc (D.all (wk2 hw))
    · obtain ⟨⟨g', q0, lg⟩, hm0, rfl⟩ := List.mem_map.mp hc
      obtain ⟨gi, hgi⟩ := List.mem_iff_getElem?.mp hm0
      dsimp only at *
      obtain ⟨kg, hkg, hwg⟩ := D.sound (st := start ∉ wo) hin gi g' q0 lg hgi
      walk_at "m"
      intro fo hfo
      walk_at "m"
      refine Stm_WhileC F' (fun k σ' => ∃ (found : List Int) (cur : Option Int), σ' = ⟨[(Str.ofString "rows", .ref b), (Str.ofString "start", .int start), (Str.ofString "goal", keyMV cur), (Str.ofString "without", .ref wi), (Str.ofString "goes", .ref g), (Str.ofString "came", .ref cd), (Str.ofString "waiting", .ref wa), (Str.ofString "at", .int pr), (Str.ofString "found", .ref fo)], B1, [(fo, .list (found.map MV.int)), (wa, .list ((L.map (·.1)).map MV.int)), (cd, .dict (cameOf L))]⟩ ∧
        Back (edge (gsOf rs)) (· ∉ wo) g' found ∧ (∀ x ∈ found, x ∈ L.map (·.1)) ∧ found.length + k = lg ∧ (match cur with
          | some c => ∃ (j : Nat) (q : Option Int), L[j]? = some (c, q, k) ∧ (found = [] → c = g') ∧ ∀ a, found.getLast? = some a → edge (gsOf rs) c a ∧ a ∉ wo
          | none => k = 0 ∧ found.getLast? = some start)) ?_ lg ⟨_, .refl _, [], some g', rfl, ⟨by simp, by simp⟩, by simp, by simp, gi, q0, hgi, fun _ => rfl, by simp⟩
      rintro k2 σ' ⟨found, cur, rfl, hB, hmem, hk2, hcur⟩
      have hlgn : lg ≤ rs.length := by
        exact Nat.le_trans (D.lvl gi g' q0 lg hgi) (Nat.le_trans (List.getElem?_eq_some_iff.mp hgi).1 D.len)
      cases cur with
      | some c =>
        obtain ⟨j, q, hj, hz, hlast⟩ := hcur
        have hfm := lim_map (g := MV.int) (l := found) (lim_ok (Nat.le_trans (Nat.le_add_right ..) (hk2 ▸ hlgn)) (k20 h20))
        dsimp only [keyMV]
        walk_at "m"
        refine SubG_dicti (.inl (by simp)) (cameOf_get D.nd hj) ?_
        walk_at "m"
        rw [show List.map MV.int found ++ [MV.int c] = (found ++ [c]).map MV.int from by simp]
        have hcm : c ∈ L.map (·.1) := List.mem_map.mpr ⟨_, List.mem_of_getElem? hj, rfl⟩
        have hmem' : ∀ x ∈ found ++ [c], x ∈ L.map (·.1) := fun x hx => by
          rcases List.mem_append.mp hx with h | h
          · exact hmem x h
          · simp at h; subst h; exact hcm
        cases q with
        | none =>
          obtain rfl := D.root j c k2 hj
          have hh := D.hd
          rw [hj] at hh; cases hh
          exact ⟨_, .refl _, 0, Nat.zero_lt_one, found ++ [start], none, rfl, hB.snoc hz hlast, hmem', by rw [List.length_append]; exact hk2, rfl, by simp⟩
        | some p =>
          obtain ⟨i, q', l', a1, a2, a3, a4, a5, a6⟩ := D.par j c p k2 hj
          exact ⟨_, .refl _, l', by rw [a4]; exact Nat.lt_succ_self _, found ++ [c], some p, rfl, hB.snoc hz hlast, hmem', by rw [List.length_append]; rw [a4] at hk2; exact (Nat.add_right_comm _ _ _).trans hk2, i, q', a3, fun h => (by simp at h), fun a ha => by simp at ha; subst ha; exact ⟨a5, a6⟩⟩
      | none =>
        obtain ⟨rfl, hlast⟩ := hcur
        dsimp only [keyMV]
        walk_at "m"
        refine Call_reversed F' (.inl (.head _)) fun rv hrv => ?_
        walk_at "m"
        refine Call_listRev F' hrv.md (.inl (.head _)) fun rd hrd => ?_
        walk_at "m"
        refine ⟨_, .trans (.frz hrd.md) .none, hQs rd found.reverse _ (hs1.trans (Sub0.set hrd.B)) (by rw [← List.map_reverse]; exact setB_self) ?_⟩
        have hfl : found.length = lg := hk2
        refine ⟨⟨kg, by rw [List.length_reverse]; exact hfl.trans hkg, wk1 hwg, fun j hw => Nat.le_of_succ_le_succ (Nat.le_trans (Nat.le_of_eq hkg.symm) (D.least hgi (wk2 hw)))⟩, ?_, ?_, fun i a b' ha hb' => ?_, fun x hx => ?_⟩
        · rw [← List.head?_eq_getElem?, List.head?_reverse]; exact hlast
        · rw [← List.getLast?_eq_getElem?, List.getLast?_reverse]
          cases found with
          | nil => simp at hlast
          | cons y found => rw [hB.hd y rfl]; rfl
        · obtain ⟨j, hj1, hj2⟩ := rev_lk ha hb'
          have h := hB.lk j b' a hj1 hj2
          exact ((key a b').mp h).1
        · have hm := hmem x (List.mem_reverse.mp hx)
          have hr := D.rng x hm
          exact ⟨hr.1, hr.2, D.oks (ok := (· ∉ wo)) hin hm⟩
end
section
set_option autoImplicit false
set_option linter.unusedVariables false
set_option linter.unusedSimpArgs false
set_option maxRecDepth 100000
open PySem
variable {hb : Heap} {w : World} {f : Addr} {n : Nat}

def S_law_is_way : Spec := fun args B own Q => own = [] ∧ ∃ (a b wi : Addr) (start goal : Int) (rs : List Rw) (wo p : List Int) (size : Int), args = [.ref a, .ref b, .int start, .int goal, .ref wi, .int size] ∧ B a = some (.list (p.map MV.int)) ∧ RowsAt B b rs ∧ RowsOk rs ∧ B wi = some (.list (wo.map MV.int)) ∧ IsWay rs wo start goal p ∧ size = p.length ∧ p.length ≤ 1000 ∧
  ∀ B' : MH, Sub0 B B' → Q (.bool true) B' []
theorem ct_law_is_way (F : FnAt hb f i_law_is_way) (hlim : hb.NoLimit) (h1 : FnC P w hb "_law_ahead" 1 S_law_ahead) (glen : Gl hb "len" (.oth (.builtin "len"))) (gr : Gl hb "range" (.oth (.type "range"))) (g1 : Gl hb "isinstance" (.oth (.builtin "isinstance"))) (g2 : Gl hb "int" (.oth (.type "int"))) (g3 : Gl hb "bool" (.oth (.type "bool"))) (g4 : Gl hb "list" (.oth (.type "list"))) : Contract P w hb (.ref f) 2 S_law_is_way := by
  refine Contract.of F hlim (by rintro args B own Q ⟨_, _, _, _, _, _, _, _, _, _, e, _⟩; subst e; rfl) ?_
  rintro C args B own Q F' ⟨rfl, a, b, wi, start, goal, rs, wo, p, size, rfl, ha, hR, hok, hwi, W, rfl, hp1, hQ⟩
  show Sts C (bodyAt P i_law_is_way) ⟨[(Str.ofString "_law_found", _), (Str.ofString "_law_rows", _), (Str.ofString "_law_start", _), (Str.ofString "_law_goal", _), (Str.ofString "_law_without", _), (Str.ofString "_law_size", _)], B, []⟩ _
  obtain ⟨as, hb1, ht⟩ := hR
  have el : ((as.map MV.ref).length : Int) = (rs.length : Nat) := by simp [ht.1]
  refine Sts_cons ?_
  walk_at "m"
  refine if_ntrue (by simp) ?_
  walk_at "m"
  refine Stm_ForC F' (fun _ => rfl) ?_
  walk_at "m"
  refine Call_range (Int.natCast_nonneg _) (Nat.le_trans hp1 (by decide)) fun ra => ?_
  rw [Int.toNat_natCast]
  refine ⟨_, fun _ σ' => ∃ B', Sub0 B B' ∧ σ' = ⟨[(Str.ofString "_law_found", .ref a), (Str.ofString "_law_rows", .ref b), (Str.ofString "_law_start", .int start), (Str.ofString "_law_goal", .int goal), (Str.ofString "_law_without", .ref wi), (Str.ofString "_law_size", .int p.length)], B', []⟩, ⟨ra, rfl, .inr (.inr ⟨_, .inl (.head _), rfl⟩)⟩, ⟨_, .none, B, Sub0.rfl' _, rfl⟩, ?_, ?_⟩
  · rintro C' F1 i σ' m ⟨B', hs, rfl⟩ hm
    obtain ⟨hi, rfl⟩ := range_item hm
    have ha' := hs _ _ ha
    have hb' := hs _ _ hb1
    have hw' := hs _ _ hwi
    obtain ⟨x, hx⟩ : ∃ x, p[i]? = some x := ⟨p[i], by simp⟩
    have hx' : (p.map MV.int)[(i : Int).toNat]? = some (.int x) := by simp [hx]
    obtain ⟨hx0, hx1, hxw⟩ := W.rng x (List.mem_of_getElem? hx)
    walk_at "m"
    refine SubG_list (.inr ha') (Int.natCast_nonneg _) hx' ?_
    walk_at "m"
    refine SubG_list (.inr ha') (Int.natCast_nonneg _) hx' ?_
    walk_at "m"
    refine SubG_list (.inr ha') (Int.natCast_nonneg _) hx' ?_
    walk_at "m"
    refine if_neg' hxw ?_
    walk_at "m"
    refine SubG_list (.inr ha') (Int.natCast_nonneg _) hx' ?_
    walk_at "m"
    refine if_neg' (Int.not_lt.mpr hx0) ?_
    walk_at "m"
    refine SubG_list (.inr ha') (Int.natCast_nonneg _) hx' ?_
    walk_at "m"
    rw [el]
    refine if_neg' (Int.not_le.mpr hx1) ?_
    walk_at "m"
    refine if_dec (fun hi0 => ?_) (fun hi0 => ?_)
    · walk_at "m"
      refine SubG_list (.inr ha') (Int.natCast_nonneg _) hx' ?_
      walk_at "m"
      obtain ⟨y, hy⟩ : ∃ x, p[i - 1]? = some x := ⟨p[i - 1]'(Nat.lt_of_le_of_lt (Nat.sub_le ..) hi), by simp⟩
      have hip := Int.ofNat_lt.mp hi0
      have hgo := W.lk (i - 1) y x hy (by rw [Nat.sub_add_cancel hip]; exact hx)
      obtain ⟨hy0, r, hr, hxr⟩ := hgo
      obtain ⟨rA, hrA, hrB⟩ := (ht.mono hs).get hr
      refine SubG_list (.inr ha') (Int.sub_nonneg_of_le hi0) (m := .int y) (by rw [toNat_sub1, List.getElem?_map, hy]; rfl) ?_
      walk_at "m"
      refine SubG_list (.inr hb') hy0 (m := .ref rA) (by rw [List.getElem?_map, hrA]; rfl) ?_
      walk_at "m"
      refine ⟨rfl, rA, r, rfl, hrB, fun na hna => ?_⟩
      have hs3 : Sub0 B' (setB B' na (.list (r.nx.map MV.int))) := Sub0.set hna
      have hn3 : setB B' na (.list (r.nx.map MV.int)) na = some (.list (r.nx.map MV.int)) := setB_self
      revert hs3 hn3
      generalize setB B' na (.list (r.nx.map MV.int)) = B3
      intro hs3 hn3
      walk_at "m"
      refine if_ntrue hxr ?_
      walk_at "m"
      exact ⟨_, .pre [(_, _)] rfl, B3, hs.trans hs3, rfl⟩
    · walk_at "m"
      exact ⟨_, .pre [(_, _)] rfl, B', hs, rfl⟩
  · rintro C' F1 σ' ⟨B', hs, rfl⟩
    have ha' := hs _ _ ha
    obtain ⟨k, hk, -, -⟩ := W.len
    walk_at "m"
    refine SubG_list (.inr ha') (Int.le_refl _) (m := .int start) (by have := W.hd; simp [this]) ?_
    walk_at "m"
    refine if_pos' rfl ?_
    walk_at "m"
    refine SubG_list (.inr ha') (by rw [hk]; exact Int.sub_nonneg_of_le (Int.ofNat_le.mpr (Nat.succ_le_succ (Nat.zero_le k)))) (m := .int goal) (by rw [toNat_sub1, List.getElem?_map, W.lst]; rfl) ?_
    walk_at "m"
    refine ⟨_, .refl _, ?_⟩
    rw [show decide (goal = goal) = true from by simp]
    exact hQ _ hs

def S_law : Spec := fun args B own Q => own = [] ∧ ∃ (a : Addr) (ns : List Int), args = [.ref a] ∧ B a = some (.ro (ns.map MV.int)) ∧ (∀ z ∈ ns, Bits z) ∧ ∀ B' own', Q (.bool true) B' own'
theorem knOf_mv (K : List (Int × Nat)) : (knOf K).map (fun p => keyMV p.1) = (K.map (·.1)).map MV.int := by simp [knOf, keyMV, Function.comp_def]
theorem ct_law (F : FnAt hb f i_law) (hlim : hb.NoLimit) (h1 : FnC P w hb "_law_rows_by" 3 S_rows_by) (h2 : FnC P w hb "_law_cell_at" 1 S_cell) (h3 : FnC P w hb "_law_rounds" 2 S_law_rounds) (h4 : FnC P w hb "reached" 5 S_live_rows) (h5 : FnC P w hb "way" 5 S_way) (h6 : FnC P w hb "_law_is_way" 2 S_law_is_way) (h7 : FnO P w hb "_law_ints" 1 S_law_ints) (glen : Gl hb "len" (.oth (.builtin "len"))) (gr : Gl hb "range" (.oth (.type "range"))) (gli : Gl hb "list" (.oth (.type "list"))) (gso : Gl hb "sorted" (.oth (.builtin "sorted"))) : Contract P w hb (.ref f) 6 S_law := by
  refine Contract.of F hlim (by rintro args B own Q ⟨_, _, _, e, _⟩; subst e; rfl) ?_
  rintro C args B own Q F' ⟨rfl, a, ns, rfl, hB, hbits, hQ⟩
  show Sts C (bodyAt P i_law) ⟨[(Str.ofString "_law_script", _)], B, _⟩ _
  refine Sts_cons ?_
  walk_at "m"
  refine ⟨rfl, _, _, rfl, hB, hbits, fun b B1 rs hok hs1 hR hb0 => ?_⟩
  replace hB := hs1 _ _ hB
  obtain ⟨as, hBb, ht⟩ := hR
  have el : ((as.map MV.ref).length : Int) = (rs.length : Nat) := by simp [ht.1]
  have h20 := hok.2.1
  have h01 := hok.1
  walk_at "m"
  rw [el]
  refine ⟨rfl, _, _, _, rfl, hB, by decide, ?_⟩
  walk_at "m"
  have hm1 := fmod_bounds (cellZ ns 2) (b := rs.length) (Int.ofNat_lt.mpr h01)
  generalize (cellZ ns 2).fmod rs.length = start at hm1 ⊢
  refine ⟨rfl, _, _, _, rfl, hB, by decide, ?_⟩
  walk_at "m"
  have hm2 := fmod_bounds (cellZ ns 3) (b := rs.length) (Int.ofNat_lt.mpr h01)
  generalize (cellZ ns 3).fmod rs.length = goal at hm2 ⊢
  refine Stm_Comp F' (by walk_at "m compok") (fun _ => rfl) (swaps_yes F' rfl rfl (by decide)) ?_
  walk_at "m"
  refine ⟨rfl, _, _, _, rfl, hB, by decide, ?_⟩
  walk_at "m"
  have hm3 := fmod_bounds (cellZ ns 4) (b := 4) (by decide)
  generalize (cellZ ns 4).fmod 4 = fm at hm3 ⊢
  refine Call_range (by omega) (by unfold lim; omega) fun ra => ?_
  refine ⟨_, fun i ys B' own' => own' = [(ra, .range fm.toNat)] ∧ B' = B1 ∧ ∃ wo : List Int, ys = wo.map MV.int ∧ wo.length = i, ⟨ra, rfl, .inr (.inr ⟨_, .inl (.head _), rfl⟩)⟩, by simp; unfold lim; omega, ⟨rfl, rfl, [], rfl, rfl⟩, ?_, ?_⟩
  · rintro C' F1 i ys B' own' m ⟨rfl, rfl, wo, rfl, hi⟩ hm
    obtain ⟨hib, rfl⟩ := range_item hm
    refine CTs_nil ?_
    dsimp only
    refine if_tt ?_
    walk_at "m cex"
    walk_at "m"
    refine ⟨rfl, _, _, _, rfl, hB, by omega, ?_⟩
    walk_at "m"
    exact ⟨_, .refl _, rfl, rfl, wo ++ [(cellZ ns (5 + i)).fmod rs.length], by simp, by simp [hi]⟩
  rintro ys B' own' ⟨rfl, rfl, wo, rfl, hwl⟩ C1 F1 wa hwa
  clear hwl
  refine Store_cv F1 (.trans (.frz hwa.md) Cv.none) ?_
  have s1 : Sub0 B' (setB B' wa (.list (wo.map MV.int))) := Sub0.set hwa.B
  have q1 : setB B' wa (.list (wo.map MV.int)) wa = some (.list (wo.map MV.int)) := setB_self
  replace hBb := s1 _ _ hBb
  replace ht := ht.mono s1
  clear hB
  generalize setB B' wa (.list (wo.map MV.int)) = B2 at q1 hBb ht ⊢
  clear s1 hwa hs1 hb0
  walk_at "m"
  intro l1 hl1
  walk_at "m"
  intro l2 hl2
  walk_at "m"
  intro h hh
  have e1 : l2 ≠ l1 := fun e => hl2.own (by simp [e])
  have e2 : h ≠ l1 := fun e => hh.own (by simp [e])
  have e3 : h ≠ l2 := fun e => hh.own (by simp [e])
  refine Store_cv F' (.trans (.frz hh.md) (.trans (.frz hl2.md) (.frz hl1.md))) ?_
  have s1 := Sub0.set (o := .list [.ref l1, .ref l2]) hh.B
  have s2 : Sub0 (setB B2 h (.list [.ref l1, .ref l2])) (setB (setB B2 h (.list [.ref l1, .ref l2])) l2 (.list (wo.map MV.int))) := Sub0.set (by rw [setB_ne e3.symm]; exact hl2.B)
  have s3 : Sub0 (setB (setB B2 h (.list [.ref l1, .ref l2])) l2 (.list (wo.map MV.int))) (setB (setB (setB B2 h (.list [.ref l1, .ref l2])) l2 (.list (wo.map MV.int))) l1 (.list (as.map MV.ref))) := Sub0.set (by rw [setB_ne e1.symm, setB_ne e2.symm]; exact hl1.B)
  have hS := s1.trans (s2.trans s3)
  have r1 : setB (setB (setB B2 h (.list [.ref l1, .ref l2])) l2 (.list (wo.map MV.int))) l1 (.list (as.map MV.ref)) l1 = some (.list (as.map MV.ref)) := setB_self
  have r2 := s3 l2 (.list (wo.map MV.int)) setB_self
  have r3 := s3 _ _ (s2 h (.list [.ref l1, .ref l2]) setB_self)
  replace q1 := hS _ _ q1
  replace hBb := hS _ _ hBb
  replace ht := ht.mono hS
  generalize setB (setB (setB B2 h (.list [.ref l1, .ref l2])) l2 (.list (wo.map MV.int))) l1 (.list (as.map MV.ref)) = B3 at r1 r2 r3 q1 hBb ht ⊢
  clear s1 s2 s3 hS hl1 hl2 hh
  walk_at "m"
  refine ⟨rfl, l1, rs, rfl, ⟨as, r1, ht⟩, hok, fun a1 n1 B4 s4 ha1 hso1 hnd1 hlen1 hmem1 => ?_⟩
  walk_at "m"
  intro eL heL
  refine Exs_cv F' (.frz heL.md) ?_
  have s5 : Sub0 B4 (setB B4 eL (.list [])) := Sub0.set heL.B
  have q5 : setB B4 eL (.list []) eL = some (.list (([] : List Int).map MV.int)) := setB_self
  generalize setB B4 eL (.list []) = B5 at s5 q5 ⊢
  have s45 := s4.trans s5
  walk_at "m"
  refine ⟨rfl, b, eL, 0, rs, [], rfl, RowsAt.mono ⟨as, hBb, ht⟩ s45, hok, q5, Int.le_refl _, Int.ofNat_lt.mpr h01, fun K d B6 s6 hd6 R => ?_⟩
  walk_at "m"
  refine Call_listDict F' (.inr hd6) fun l3 hl3 => ?_
  rw [knOf_mv]
  walk_at "m"
  have hKl : (K.map (·.1)).length ≤ rs.length := length_le_of_nodup rs.length (K.map (·.1)) R.nd R.rng
  refine Call_sorted F' (.inl (.head _)) (Nat.lt_of_le_of_lt (Nat.le_trans hKl h20) (by decide)) fun n2 l4 hp2 hso2 hl4 => ?_
  have en : n1 = n2 := by
    refine sorted_ext hso1 hso2 hnd1 (hp2.nodup_iff.mpr R.nd) fun x => ?_
    rw [hmem1 x, hp2.mem_iff, R.done x]
    constructor
    · intro hr; exact hr.wk (by simp)
    · rintro ⟨k, hw⟩; exact hw.rch
  subst en
  have s46 := s45.trans s6
  walk_at "m"
  refine ⟨[(l4, .list (n1.map MV.int))], _, .refl _, a1, l4, n1, rfl, .inr ((s5.trans s6) _ _ ha1), .inl (.head _), k20 (Nat.le_trans hlen1 h20), ?_⟩
  walk_at "m"
  replace r1 := s46 _ _ r1
  replace r2 := s46 _ _ r2
  replace r3 := s46 _ _ r3
  replace q1 := s46 _ _ q1
  replace hBb := s46 _ _ hBb
  replace ht := ht.mono s46
  clear s46 s45 s4 s5 s6 q5 hd6
  refine ⟨rfl, b, wa, start, rs, wo, rfl, ⟨as, hBb, ht⟩, hok, q1, hm1.1, hm1.2, fun K2 d2 B7 s7 hd7 R2 => ?_⟩
  replace r1 := s7 _ _ r1
  replace r2 := s7 _ _ r2
  replace r3 := s7 _ _ r3
  replace q1 := s7 _ _ q1
  replace hBb := s7 _ _ hBb
  replace ht := ht.mono s7
  clear s7
  refine Store_cv F' .none ?_
  walk_at "m"
  refine ⟨rfl, l1, l2, start, goal, rs, wo, rfl, ⟨as, r1, ht⟩, hok, r2, hm1.1, hm1.2, hm2.1, hm2.2, fun hno B8 s8 => ?_, fun a8 p B8 s8 ha8 W => ?_⟩
  · replace r1 := s8 _ _ r1
    replace r2 := s8 _ _ r2
    replace r3 := s8 _ _ r3
    replace q1 := s8 _ _ q1
    replace hBb := s8 _ _ hBb
    replace hd7 := s8 _ _ hd7
    walk_at "m"
    refine Cmp_neSame F'.ok (.inr r1) (.inr hBb) (mv_refs _) ?_
    walk_at "m"
    refine Cmp_neSame F'.ok (.inr r2) (.inr q1) (mv_ints _) ?_
    walk_at "m"
    rw [knOf_in]
    refine if_nfalse (fun hx => ?_) ?_
    · obtain ⟨k, hw⟩ := (R2.done goal).mp hx
      exact hno k hw
    walk_at "m"
    exact ⟨_, .refl _, hQ _ _⟩
  · replace r1 := s8 _ _ r1
    replace r2 := s8 _ _ r2
    replace r3 := s8 _ _ r3
    replace q1 := s8 _ _ q1
    replace hBb := s8 _ _ hBb
    replace hd7 := s8 _ _ hd7
    replace ht := ht.mono s8
    obtain ⟨k, hk, hw, hmin⟩ := W.len
    have hg : goal ∈ K2.map (·.1) := (R2.done goal).mpr ⟨k, hw⟩
    obtain ⟨⟨g', v⟩, hgm, hge⟩ := List.mem_map.mp hg
    dsimp only at hge
    subst hge
    obtain ⟨i, hi⟩ := List.mem_iff_getElem?.mp hgm
    obtain ⟨k', hv, hk', hw', hmin'⟩ := R2.sound g' v hgm
    have ekk : k = k' := Nat.le_antisymm (hmin _ hw') (hmin' _ hw)
    walk_at "m"
    refine Cmp_neSame F'.ok (.inr r1) (.inr hBb) (mv_refs _) ?_
    walk_at "m"
    refine Cmp_neSame F'.ok (.inr r2) (.inr q1) (mv_ints _) ?_
    walk_at "m"
    rw [knOf_in]
    refine if_ntrue hg ?_
    walk_at "m"
    refine SubG_dicti (.inr hd7) (knOf_get R2.nd hi) ?_
    walk_at "m"
    refine ⟨rfl, a8, b, wa, start, g', rs, wo, p, _, rfl, ha8, ⟨as, hBb, ht⟩, hok, q1, W, by omega, by omega, fun B9 s9 => ?_⟩
    walk_at "m"
    exact ⟨_, .refl _, hQ _ _⟩
end
set_option autoImplicit false
set_option linter.unusedVariables false
open PySem PySem.W PyProof.Rows

theorem gl_of {K : Frag} {hb : Heap} {mg : Str → Option Value} (X : K.In hb) (G : hb.Ns mainGlobals mg) {x : Str} {v : Value} {m : MV} (e : nsIn K mainGlobals x = some (some v)) (hm : VR m v) (hd : (x == ("__debug__" : Str)) = false) : Gl hb x m :=
  ⟨v, hm, hd, fun M A E s env Q hg _ hk hq => Calls.loadGlobal_global (by rw [hg]; exact G.keeps hk) (mg_of X G e) hq⟩
theorem gl_bi {K : Frag} {hb : Heap} {mg mb : Str → Option Value} (X : K.In hb) (G : hb.Ns mainGlobals mg) (Gb : hb.Ns builtinsNs mb) {x : Str} {v : Value} {m : MV} (e : nsIn K mainGlobals x = some none) (hv : mb x = some v) (hm : VR m v) (hd : (x == ("__debug__" : Str)) = false) : Gl hb x m :=
  ⟨v, hm, hd, fun M A E s env Q hg hb' hk hq => Calls.loadGlobal_builtin (by rw [hg]; exact G.keeps hk) (mg_none_of X G e) (by rw [hb']; exact Gb.keeps hk) hv hq⟩

def scopeChk (sc : Scope) (ps : List Str) : Bool :=
  !sc.isCoroutine && !sc.isGenerator && decide (sc.kind = .function) && ps.all (fun x => decide (sc.names.lookup x = some .local) || decide (sc.names.lookup x = some .cell)) && decide ps.Nodup && decide (sc.names.map (·.1)).Nodup && sc.names.all (fun p => !decide (p.2 = .free))
theorem lookup_mem' {x : Str} {k : NameKind} : ∀ {l : List (Str × NameKind)}, l.lookup x = some k → (x, k) ∈ l
  | (y, j) :: r, h => by
    rw [List.lookup_cons] at h
    by_cases e : (x == y) = true
    · rw [e] at h; simp at h; subst h; have := eq_of_beq e; subst this; exact List.mem_cons_self
    · have e' : (x == y) = false := by simpa using e
      rw [e'] at h; exact List.mem_cons_of_mem _ (lookup_mem' h)
theorem fnAt_of {K : Frag} {hb : Heap} {f : Addr} {p : Program} {i : Nat} {oc : Value} {od : Option Addr} {osl : Array (Option Value)} {name qual : Str} {params : Arguments} {dV kV doc pm : Value} {an : Option Addr} {cdv ct : Value}
    (X : K.In hb) (ho : K.lookup f = some ⟨oc, od, .func (fnOf name qual params (bodyAt p i) (scopeAt p i) dV kV doc pm an cdv ct), osl⟩) (hcd : codeIn K cdv qual = true)
    (hc : scopeChk (scopeAt p i) (paramsAt p i) = true)
    (hb' : ∀ vals : List Value, vals.length = (paramsAt p i).length → bindArgs (fnOf name qual params (bodyAt p i) (scopeAt p i) dV kV doc pm an cdv ct) ⟨vals, []⟩ = pure ((paramsAt p i).zip vals)) : FnIs hb f (paramsAt p i) (bodyAt p i) (scopeAt p i) := by
  unfold scopeChk at hc
  simp only [Bool.and_eq_true, Bool.not_eq_true', decide_eq_true_eq, List.all_eq_true, Bool.or_eq_true, decide_eq_false_iff_not] at hc
  obtain ⟨⟨⟨⟨⟨⟨h1, h2⟩, h3⟩, h4⟩, h5⟩, h6⟩, h7⟩ := hc
  exact ⟨⟨_, _, X _ _ ho, rfl, rfl, rfl, rfl, rfl, rfl, codeRec_of X hcd, hb'⟩, h1, h2, h3, h4, h5, h6, fun x hx => h7 _ (lookup_mem' hx) rfl⟩
theorem isFn_of {K : Frag} {hb : Heap} {f : Addr} {oc : Value} {od : Option Addr} {osl : Array (Option Value)} {fd : FuncData} (X : K.In hb) (ho : K.lookup f = some ⟨oc, od, .func fd, osl⟩) : IsFn hb f := ⟨⟨_, _, X _ _ ho, rfl⟩⟩
theorem len1 {α : Type} {P : List α → Prop} (h : ∀ a, P [a]) : ∀ l : List α, l.length = 1 → P l
  | [a], _ => h a
theorem len2 {α : Type} {P : List α → Prop} (h : ∀ a b, P [a, b]) : ∀ l : List α, l.length = 2 → P l
  | [a, b], _ => h a b
theorem len3 {α : Type} {P : List α → Prop} (h : ∀ a b c, P [a, b, c]) : ∀ l : List α, l.length = 3 → P l
  | [a, b, c], _ => h a b c
theorem len4 {α : Type} {P : List α → Prop} (h : ∀ a b c d, P [a, b, c, d]) : ∀ l : List α, l.length = 4 → P l
  | [a, b, c, d], _ => h a b c d
theorem len5 {α : Type} {P : List α → Prop} (h : ∀ a b c d e, P [a, b, c, d, e]) : ∀ l : List α, l.length = 5 → P l
  | [a, b, c, d, e], _ => h a b c d e
theorem len6 {α : Type} {P : List α → Prop} (h : ∀ a b c d e f, P [a, b, c, d, e, f]) : ∀ l : List α, l.length = 6 → P l
  | [a, b, c, d, e, f], _ => h a b c d e f

structure FnG (hb : Heap) (x : Str) (p : Program) (i : Nat) (f : Addr) : Prop where
  g : Gl hb x (.ref f)
  fn : IsFn hb f
  a : FnIs hb f (paramsAt p i) (bodyAt p i) (scopeAt p i)
theorem FnG.c {hb : Heap} {x : Str} {p : Program} {i : Nat} {f : Addr} (h : FnG hb x p i f) {w : World} {n : Nat} {S : Spec} (c : Contract p w hb (.ref f) n S) : FnC p w hb x n S := ⟨⟨f, h.g, h.fn, c⟩⟩
theorem FnG.o {hb : Heap} {x : Str} {p : Program} {i : Nat} {f : Addr} (h : FnG hb x p i f) {w : World} {n : Nat} {S : Spec} (c : Contract p w hb (.ref f) n S) : FnO p w hb x n S := ⟨h.c c⟩
theorem fnG_of {K : Frag} {hb : Heap} {mg : Str → Option Value} {x : Str} {f : Addr} {p : Program} {i : Nat} {oc : Value} {od : Option Addr} {osl : Array (Option Value)} {name qual : Str} {params : Arguments} {dV kV doc pm : Value} {an : Option Addr} {cdv ct : Value}
    (X : K.In hb) (G : hb.Ns mainGlobals mg) (e : nsIn K mainGlobals x = some (some (.ref f)))
    (ho : K.lookup f = some ⟨oc, od, .func (fnOf name qual params (bodyAt p i) (scopeAt p i) dV kV doc pm an cdv ct), osl⟩) (hcd : codeIn K cdv qual = true)
    (hd : (x == ("__debug__" : Str)) = false)
    (hc : scopeChk (scopeAt p i) (paramsAt p i) = true)
    (hb' : ∀ vals : List Value, vals.length = (paramsAt p i).length → bindArgs (fnOf name qual params (bodyAt p i) (scopeAt p i) dV kV doc pm an cdv ct) ⟨vals, []⟩ = pure ((paramsAt p i).zip vals)) : FnG hb x p i f :=
  ⟨gl_of X G e rfl hd, isFn_of X ho, fnAt_of X ho hcd hc hb'⟩

theorem fnE_of {K : Frag} {hb : Heap} {mg : Str → Option Value} {x : Str} {f : Addr} {p : Program} {i : Nat} {oc : Value} {od : Option Addr} {osl : Array (Option Value)} {name qual : Str} {params : Arguments} {dV kV doc pm : Value} {an : Option Addr} {cdv ct : Value}
    (X : K.In hb) (G : hb.Ns mainGlobals mg) (e : nsIn K mainGlobals x = some (some (.ref f)))
    (ho : K.lookup f = some ⟨oc, od, .func (fnOf name qual params (bodyAt p i) (scopeAt p i) dV kV doc pm an cdv ct), osl⟩) (hcd : codeIn K cdv qual = true)
    (hd : (x == ("__debug__" : Str)) = false)
    (hc : scopeChk (scopeAt p i) (paramsAt p i) = true)
    (hb' : ∀ vals : List Value, vals.length = (paramsAt p i).length → bindArgs (fnOf name qual params (bodyAt p i) (scopeAt p i) dV kV doc pm an cdv ct) ⟨vals, []⟩ = pure ((paramsAt p i).zip vals)) : ∃ f, mg x = some (.ref f) ∧ FnG hb x p i f :=
  ⟨f, mg_of X G e, fnG_of X G e ho hcd hd hc hb'⟩

local macro_rules | `(tactic| walk_at "fn") => `(tactic| (refine' fnE_of ?kx ?kg ?ke ?ko ?kc ?kd ?kk ?kb; (case kx => assumption); (case kg => exact Top.g (by assumption)); (case ke => k_is); (case ko => k_is); (case kc => k_is); (case kd => decide); (case kk => decide +kernel); (case kb => first | exact len1 (fun _ => rfl) | exact len2 (fun _ _ => rfl) | exact len3 (fun _ _ _ => rfl) | exact len4 (fun _ _ _ _ => rfl) | exact len5 (fun _ _ _ _ _ => rfl) | exact len6 (fun _ _ _ _ _ _ => rfl))))

def B1 (l : Addr) (xs : List MV) : MH := fun a => if a = l then some (.ro xs) else none
theorem vsR_ints {vs : List Value} {ns : List Int} (h : IntsAre vs ns) : VsR (ns.map MV.int) vs := by
  induction h with
  | nil => exact .nil
  | cons n t _ ih => exact .cons ⟨t, rfl⟩ ih
theorem law_end {p : Program} {w : World} {s₁ : Shared} {fa l : Addr} {ns : List Int} {vs : List Value} {n : Nat} {S : Spec} (ct : Contract p w s₁.heap (.ref fa) n S)
    (hS : ∀ (B : MH) (Q : MV → MH → Own → Prop), B l = some (.ro (ns.map MV.int)) → (∀ z ∈ ns, Builtin.Int.intBits z ≤ 2000000) → (∀ B' own', Q (.bool true) B' own') → S [.ref l] B [] Q)
    (hn1 : callerA.depth + n < recursionLimit) (hn2 : callerA.units + 3 * n + 100 < cLine)
    (hL : s₁.heap.IsList l vs.toArray) (hI : IntsAre vs ns) (hlen : ns.length ≤ 63) (hlay : (PyData.list (ns.map PyData.int)).layable0 = true)
    {Q : Value → Shared → Prop} {E : Value → Shared → Prop}
    (h : ∀ s', (∀ b o, s₁.heap.get? b = some o → s'.heap.get? b = some o) → s'.gens = s₁.gens → s'.os = s₁.os → Q (.bool true) s') :
    wpAny (model p w) callerA ((fun f vs => call f vs) (.ref fa) [.ref l]) Q E s₁ := by
  have hB1 : B1 l (ns.map MV.int) l = some (.ro (ns.map MV.int)) := by simp [B1]
  refine wpAny_mono (ct callerA s₁ [.ref l] [.ref l] (B1 l (ns.map MV.int)) [] (fun m _ _ => m = .bool true) rfl hn1 hn2 (fun _ _ h => h) (fun a o ha => ?_) (fun _ h => nomatch h) .nil (fun _ h => nomatch h) (.cons rfl .nil) (hS _ _ hB1 (fun z hz => Nat.le_trans (PyData.bits_item_of_ints hlay hz) (by decide)) fun _ _ => rfl)) ?_ ?_
  · unfold B1 at ha
    split at ha
    · rename_i e; subst e; cases ha
      exact ⟨_, hL, by simpa using vsR_ints hI, by have : lim = 1000000 := rfl; simp; omega⟩
    · cases ha
  · rintro v s' ⟨m, B', own', hv, k, hg, hos, -, -, -, -, -, -, -, rfl⟩
    have : v = .bool true := hv
    subst this
    exact h s' (fun b o hb => k b o (fun h => nomatch h) hb) hg hos
  · intro _ _ x; exact x.elim
section
set_option autoImplicit false
set_option Elab.async false
set_option compiler.extract_closed false
set_option genSizeOf false
set_option genInjectivity false
set_option maxRecDepth 100000
set_option maxHeartbeats 8000000
open PySem PySem.W PyProof.Rows
set_option pp.maxSteps 1500
set_option pp.deepTerms false
theorem law_holds : PySem.Challenge.rw_uf010028_03.Holds := Mine.hd (by
  k_fill
  intro w s₀ s₁ mg mb G Y fa o pm cd doc dV kV ho hd hcd hD hmg hg args vals as hpre hlay hrd hwl hlo
  have KX := kIn_of Y
  clear hd hcd hD ho
  refine Ground.open G ?_
  intro T B D TE TW
  clear B D TE TW Y G
  have glen : Gl s₁.heap "len" (.oth (.builtin "len")) := gl_bi KX T.g T.b (by k_is) ((T.builtins "len" (by decide)).trans (by boot_by_name)) rfl (by decide)
  have gmax : Gl s₁.heap "max" (.oth (.builtin "max")) := gl_bi KX T.g T.b (by k_is) ((T.builtins "max" (by decide)).trans (by boot_by_name)) rfl (by decide)
  have gmin : Gl s₁.heap "min" (.oth (.builtin "min")) := gl_bi KX T.g T.b (by k_is) ((T.builtins "min" (by decide)).trans (by boot_by_name)) rfl (by decide)
  have gisi : Gl s₁.heap "isinstance" (.oth (.builtin "isinstance")) := gl_bi KX T.g T.b (by k_is) ((T.builtins "isinstance" (by decide)).trans (by boot_by_name)) rfl (by decide)
  have grange : Gl s₁.heap "range" (.oth (.type "range")) := gl_bi KX T.g T.b (by k_is) ((T.builtins "range" (by decide)).trans (by boot_by_name)) rfl (by decide)
  have gint : Gl s₁.heap "int" (.oth (.type "int")) := gl_bi KX T.g T.b (by k_is) ((T.builtins "int" (by decide)).trans (by boot_by_name)) rfl (by decide)
  have gbool : Gl s₁.heap "bool" (.oth (.type "bool")) := gl_bi KX T.g T.b (by k_is) ((T.builtins "bool" (by decide)).trans (by boot_by_name)) rfl (by decide)
  have gli : Gl s₁.heap "list" (.oth (.type "list")) := gl_bi KX T.g T.b (by k_is) ((T.builtins "list" (by decide)).trans (by boot_by_name)) rfl (by decide)
  have gso : Gl s₁.heap "sorted" (.oth (.builtin "sorted")) := gl_bi KX T.g T.b (by k_is) ((T.builtins "sorted" (by decide)).trans (by boot_by_name)) rfl (by decide)
  have grv : Gl s₁.heap "reversed" (.oth (.type "reversed")) := gl_bi KX T.g T.b (by k_is) ((T.builtins "reversed" (by decide)).trans (by boot_by_name)) rfl (by decide)
  have gd : GlD s₁.heap := gl_bi KX T.g T.b (by k_is) ((T.builtins "dict" (by decide)).trans (by boot_by_name)) rfl (by decide)
  have gmost : Gl s₁.heap "MOST_ROWS" (.int 20) := by refine' gl_of KX T.g ?ke ?km ?kd; (case ke => k_is); (case km => exact ⟨_, rfl⟩); (case kd => decide)
  have gboxes : Gl s₁.heap "BOXES" (.int 4) := by refine' gl_of KX T.g ?ke ?km ?kd; (case ke => k_is); (case km => exact ⟨_, rfl⟩); (case kd => decide)
  obtain ⟨f_law_cell_at, -, F_law_cell_at⟩ : ∃ f, mg "_law_cell_at" = some (.ref f) ∧ FnG s₁.heap "_law_cell_at" P i_cell_at f := by walk_at "fn"
  obtain ⟨f_law_number_by, -, F_law_number_by⟩ : ∃ f, mg "_law_number_by" = some (.ref f) ∧ FnG s₁.heap "_law_number_by" P i_number_by f := by walk_at "fn"
  obtain ⟨f_law_near, -, F_law_near⟩ : ∃ f, mg "_law_near" = some (.ref f) ∧ FnG s₁.heap "_law_near" P i_near f := by walk_at "fn"
  obtain ⟨f_law_row_by, -, F_law_row_by⟩ : ∃ f, mg "_law_row_by" = some (.ref f) ∧ FnG s₁.heap "_law_row_by" P i_row_by f := by walk_at "fn"
  obtain ⟨f_law_rows_by, -, F_law_rows_by⟩ : ∃ f, mg "_law_rows_by" = some (.ref f) ∧ FnG s₁.heap "_law_rows_by" P i_rows_by f := by walk_at "fn"
  obtain ⟨f_is_number, -, F_is_number⟩ : ∃ f, mg "is_number" = some (.ref f) ∧ FnG s₁.heap "is_number" P i_is_number f := by walk_at "fn"
  obtain ⟨f_is_within, -, F_is_within⟩ : ∃ f, mg "is_within" = some (.ref f) ∧ FnG s₁.heap "is_within" P i_is_within f := by walk_at "fn"
  obtain ⟨f_is_row, -, F_is_row⟩ : ∃ f, mg "is_row" = some (.ref f) ∧ FnG s₁.heap "is_row" P i_is_row f := by walk_at "fn"
  obtain ⟨f_need_rows, -, F_need_rows⟩ : ∃ f, mg "need_rows" = some (.ref f) ∧ FnG s₁.heap "need_rows" P i_need_rows f := by walk_at "fn"
  obtain ⟨f_nexts, -, F_nexts⟩ : ∃ f, mg "nexts" = some (.ref f) ∧ FnG s₁.heap "nexts" P i_nexts f := by walk_at "fn"
  obtain ⟨f_law_ints, -, F_law_ints⟩ : ∃ f, mg "_law_ints" = some (.ref f) ∧ FnG s₁.heap "_law_ints" P i_law_ints f := by walk_at "fn"
  obtain ⟨f_come_to, -, F_come_to⟩ : ∃ f, mg "come_to" = some (.ref f) ∧ FnG s₁.heap "come_to" P i_come_to f := by walk_at "fn"
  obtain ⟨f_goings, -, F_goings⟩ : ∃ f, mg "goings" = some (.ref f) ∧ FnG s₁.heap "goings" P i_goings f := by walk_at "fn"
  obtain ⟨f_live_rows, -, F_live_rows⟩ : ∃ f, mg "live_rows" = some (.ref f) ∧ FnG s₁.heap "live_rows" P i_live_rows f := by walk_at "fn"
  obtain ⟨f_reached, -, F_reached⟩ : ∃ f, mg "reached" = some (.ref f) ∧ FnG s₁.heap "reached" P i_reached f := by walk_at "fn"
  obtain ⟨f_way, -, F_way⟩ : ∃ f, mg "way" = some (.ref f) ∧ FnG s₁.heap "way" P i_way f := by walk_at "fn"
  obtain ⟨f_law_ahead, -, F_law_ahead⟩ : ∃ f, mg "_law_ahead" = some (.ref f) ∧ FnG s₁.heap "_law_ahead" P i_law_ahead f := by walk_at "fn"
  obtain ⟨f_law_rounds, -, F_law_rounds⟩ : ∃ f, mg "_law_rounds" = some (.ref f) ∧ FnG s₁.heap "_law_rounds" P i_law_rounds f := by walk_at "fn"
  obtain ⟨f_law_is_way, -, F_law_is_way⟩ : ∃ f, mg "_law_is_way" = some (.ref f) ∧ FnG s₁.heap "_law_is_way" P i_law_is_way f := by walk_at "fn"
  have F_law : FnG s₁.heap "law" P i_law fa := by
    obtain ⟨f, e, F⟩ : ∃ f, mg "law" = some (.ref f) ∧ FnG s₁.heap "law" P i_law f := by
      walk_at "fn"
    have e' := hmg.symm.trans e
    cases e'
    exact F
  clear hmg
  wrow_args hpre hlay hrd hwl hlo
  have hlim := T.nolimit
  have c_law_cell_at := F_law_cell_at.c (ct_cell (w := w) (n := 0) F_law_cell_at.a hlim glen)
  have c_law_number_by := F_law_number_by.c (ct_number (w := w) (n := 0) F_law_number_by.a hlim)
  have c_law_near := F_law_near.c (ct_near (w := w) (n := 0) F_law_near.a hlim gmax gmin)
  have c_law_row_by := F_law_row_by.c (ct_row_by (w := w) F_law_row_by.a hlim c_law_near c_law_number_by)
  have c_law_rows_by := F_law_rows_by.c (ct_rows_by (w := w) F_law_rows_by.a hlim c_law_cell_at c_law_row_by grange)
  have c_is_number := F_is_number.c (ct_is_number (w := w) (n := 0) F_is_number.a hlim gisi gint gbool)
  have c_is_within := F_is_within.c (ct_is_within (w := w) F_is_within.a hlim c_is_number)
  have c_is_row := F_is_row.c (ct_is_row (w := w) F_is_row.a hlim c_is_number c_is_within glen gboxes)
  have c_need_rows := F_need_rows.c (ct_need_rows (w := w) F_need_rows.a hlim c_is_row glen gmost)
  have c_nexts := F_nexts.c (ct_nexts (w := w) (n := 0) F_nexts.a hlim)
  have c_law_ints := F_law_ints.o (ct_law_ints (w := w) (n := 0) F_law_ints.a hlim glen grange gisi gint gbool gli)
  have c_come_to := F_come_to.c (ct_come_to (w := w) (n := 0) F_come_to.a hlim glen)
  have c_goings := F_goings.c (ct_goings (w := w) F_goings.a hlim c_nexts glen gint)
  have c_live_rows := F_live_rows.c (ct_live_rows (w := w) F_live_rows.a hlim c_goings c_come_to gd glen grange gli gso)
  have c_reached := F_reached.c (ct_reached (w := w) F_reached.a hlim c_need_rows c_live_rows)
  have c_way := F_way.c (ct_way (w := w) F_way.a hlim c_need_rows c_goings glen gli grv)
  have c_law_ahead := F_law_ahead.c (ct_law_ahead (w := w) (n := 0) F_law_ahead.a hlim)
  have c_law_rounds := F_law_rounds.c (ct_law_rounds (w := w) F_law_rounds.a hlim c_law_ahead glen grange)
  have c_law_is_way := F_law_is_way.c (ct_law_is_way (w := w) F_law_is_way.a hlim c_law_ahead glen grange gisi gint gbool gli)
  have c_law := ct_law (w := w) F_law.a hlim c_law_rows_by c_law_cell_at c_law_rounds c_reached c_way c_law_is_way c_law_ints glen grange gli gso
  rename_i hlay0 hr0 hl20 as1 as2 l vs as3 hL0 ra0 w10 r00 hI0 hr00 hc1 hc2
  refine law_end c_law (fun B Q hB hz hQ => ⟨rfl, l, _, rfl, hB, hz, hQ⟩) (by decide +kernel) (by decide +kernel) hL0 hI0 (by omega) (by assumption) (fun s' hk hg' hos => ?_)
  exact GoodW.toG ⟨.inl ⟨_, .bool true, [], rfl, fun _ => rfl, .bool true, by wrow_post, unshared_nil⟩, hk, hos, hg'.trans hg⟩)
end
end Mine
theorem PySem.Challenge.cw_uf010028_03_holds : PySem.Challenge.rw_uf010028_03.Holds :=
  Mine.law_holds
