import PyProof.Rows.All
import Wide.All
import OpenK.AllK
import Wide.FinOn
import PyProof.Rows.SortRuns
import PyProof.Rows.SortPure
import PyProof.TableCode
import PyProof.Rows.SortShell
import PyProof.DictKinds
import PyProof.DictIter
import PyProof.DictDisplay
import PyProof.Rows.EqNone
import PyProof.FactsAll.NoneType_1
import PyProof.AttrMissHeap
import PyProof.Walks
import KE.KDictOf
import PyProof.ListOps
import PyProof.MeetsDict
import PyProof.DictStraight
import PyProof.Cells
import PyProof.CompFree
import PyProof.WalksMore
import PyProof.RangeIter
import PyProof.CallRoads
import PyProof.CallType
import PyProof.PureInt
import PyProof.TupleOps
import PyProof.Rules3
import PyProof.LetGo
import PyProof.DefCall
import PyProof.NoPylong
import PyProof.ListIndexNeg
import PyProof.DictWalks
import PyProof.CompMap
import PyProof.IsiHeapPairs
import PyProof.IsiNone
import PyProof.IsiPairs
import PyProof.ListCopy
import PyProof.RangeFor
import PyProof.StrOps
import PyProof.WalkInts
import PyProof.EqAt
import PyProof.FactsAll.list_0
import PyProof.Defs
import PyProof.FactsDict
import PyProof.DictRoads
import PyProof.Conv_int_bool
import KE.KDictList
import KE.KRevIter
import PyProof.Rows.SortWalk
import PyProof.NeKinds
import OpenK.KLine
import KE.KEqDict
import PyProof.SliceList
import PyProof.Rows.TupAdd
import PyProof.WalksEnum
import PyProof.EnumMake
import PyProof.DictCalls
import PyProof.ListRange
import PyProof.Rows.TupMore
import KE.LcSums
import PyProof.DictTruth
import PySem.Challenge.RW_uf010028_07
set_option linter.all false
open PySem.Str renaming ofString → Qa
open Or renaming elim → Qb
open Int renaming toNat → Qc
set_option maxRecDepth 1000000
set_option maxHeartbeats 8000000
open List renaming getElem?_map → Qaa, length_map → Qab, mem_append_left → Qaq, mem_append → Qaz, mem_singleton → Qbq, mem_append_right → Qbv, mem_cons → Qch, getElem?_eq_some_iff → Qck, mem_of_getElem? → Qcs, mem_map → Qc6, nodup_append → Qdi, mem_cons_of_mem → Qdx, map_append → Qd1, length_append → Qey, getD_eq_getElem?_getD → Qhh, take_length → Qhi, getElem?_append_left → Qhn, nil_append → Qld, getElem?_append_right → Qlv, nodup_cons → Qnn, idxOf_lt_length_of_mem → Qwc, lookup_cons → Qwe, perm_append_comm → Qwf, getElem?_mapIdx → Qwg, mem_flatten → Qwi, map_cons → Qwk, take_append_drop → Qwl, mem_cons_self → Qwm, drop_eq_getElem_cons → Qwn, length_cons → Qwo, getElem_mem → Qwp, append_assoc → Qwr, getElem?_eq_getElem → Qws, sublist_append_left → Qwt, length_take → Qww, cons_append → Qwx, take_add_one → Qwy, flatten_cons → Qwz, nil_sublist → Qw6, flatten_append → Qw7, sublist_cons_self → Qxe, take_sublist → Qxf, drop_sublist → Qxg, getElem?_eq_none → Qxj, length_singleton → Qxk, ext_getElem? → Qxm, filter_sublist → Qxo, eq_nil_or_concat → Qxp, take_of_length_le → Qxs, flatten_singleton → Qxt, append_nil → Qxv, map_map → Qxw, length_range → Qxx, nodup_iff_pairwise_ne → Qxy, pairwise_append → Qxz, getElem?_of_mem → Qx1, mem_take_iff_getElem → Qx2, map_congr_left → Qx6, mem_filter → Qx8, length_pos_of_mem → Qya, reverse_perm → Qyc, drop_drop → Qyd, concat_eq_append → Qyh, length_filter_le → Qyi, mem_reverse → Qyj, forall_mem_cons → Qym, pairwise_cons → Qyy, pairwise_iff_getElem → Qyz, extract_eq_take_drop → Qy0, size_toArray → Qy4, drop_length → Qy7, drop_of_length_le → Qy8, find?_cons_of_neg → Qza, length_eq_one_iff → Qzb, pairwise_reverse → Qze, forIn_cons → Qzf, contains_iff_mem → Qzg, drop_take → Qzl, take_take → Qzm, take_zero → Qzn, forIn_nil → Qzo, nodup_nil → Qzp, mem_map_of_mem → Qzq, getElem?_range → Qzr, zip_cons_cons → Qzw, getElem_range → Qzx, getElem_idxOf → Qzy, pairwise_map → Qz1, getElem?_set → Qz2, zipIdx_cons → Qz7, length_drop → Qz8, filter_cons → Qz9, getElem_inj → Zaa
open Option renaming map_eq_some_iff → Qad, getD_some → Qxd, map_some → Qys, isSome_iff_exists → Qy3
open Nat renaming le_trans → Qdg, le_refl → Qwb, sub_le → Qwq, zero_le → Qwv, min_eq_left → Qw1, add_le_add_left → Qw2, lt_succ_of_lt → Qw4, ne_of_lt → Qw5, lt_of_le_of_lt → Qxa, le_of_lt → Qxb, lt_succ_self → Qxc, sub_lt_sub_left → Qxh, add_sub_cancel_left → Qxl, le_antisymm → Qxn, le_of_eq → Qxq, zero_add → Qxu, le_add_right → Qx3, succ_le_succ → Qx4, succ_ne_zero → Qx5, le_add_left → Qx7, le_of_succ_le_succ → Qx9, not_lt → Qyb, le_of_ble_eq_true → Qye, succ_pos → Qyg, le_sub_one_of_lt → Qyk, le_sub_of_add_le → Qyl, pow_le_pow_right → Qyn, add_assoc → Qyo, lt_irrefl → Qyp, mul_le_mul_left → Qyr, le_succ → Qyt, lt_of_le_of_ne → Qyv, add_sub_cancel → Qyw, pos_of_ne_zero → Qyx, lt_trichotomy → Qy1, le_of_succ_le → Qy2, eq_of_beq_eq_true → Qzc, add_sub_add_left → Qzj, lt_of_lt_of_le → Qzu, le_succ_of_le → Qz0, le_total → Qz4, lt_trans → Qz5, add_comm → Qz6
open Int renaming toNat_natCast → Qej, le_antisymm → Qwd, le_trans → Qwh, natCast_nonneg → Qwu, le_refl → Qw0, le_of_lt → Qw8, ofNat_lt → Qw9, toNat_of_nonneg → Qxr, le_of_eq → Qyf, not_lt → Qyq, eq_ofNat_of_zero_le → Qy5, add_zero → Qzd, le_of_lt_add_one → Qzk, add_assoc → Qzs, lt_of_lt_of_le → Qzt, mul_zero → Qz3, mul_add → Zab
open Array renaming getElem?_toList → Qpy, toList_append → Qwj, length_toList → Qw3, isEmpty_iff_size_eq_zero → Qxi, toList_reverse → Qx0, perm_iff_toList_perm → Qyu, any_toList → Qy6, getElem?_extract → Qy9, push_eq_append → Qzh, toList_extract → Qzi, size_extract → Qzv, size_append → Qzz
set_option Elab.async false
set_option compiler.extract_closed false
set_option genSizeOf false
set_option genInjectivity false
set_option tactic.hygienic false
set_option autoImplicit false
namespace Mine
theorem smG {G:Prop}(K:∀H:Prop,(G->H)->H):G:=K G id
theorem tr:true=true:=rfl
abbrev Xs:=List Nat
abbrev Zs:=List Int
noncomputable def gN (xs:Xs):Nat->Nat:=List.rec (motive:=λ_=>Nat->Nat) (λ_=>0) (λx _ t i=>Nat.rec x (λj _=>t j) i) xs
noncomputable def gZ (xs:Zs):Nat->Int:=List.rec (motive:=λ_=>Nat->Int) (λ_=>0) (λx _ t i=>Nat.rec x (λj _=>t j) i) xs
noncomputable def uN (n j:Nat):Nat:=bif Nat.beq j n then 1 else 0
noncomputable def uZ (n j:Nat):Int:=bif Nat.beq j n then 1 else 0
inductive Ln | v (i:Nat) | n (k:Nat) | a (x y:Ln) | m (k:Nat) (x:Ln)
noncomputable def Ln.e (c f:Nat->Nat)(x:Ln):Nat:=Ln.rec (motive:=λ_=>Nat) f c (λ_ _ a b=>a+b) (λk _ a=>k*a) x
inductive Lz | z (i:Nat) | q (l:Ln) | n (k:Int) | a (x y:Lz) | s (x y:Lz) | m (k:Int) (x:Lz) | g (x:Lz)
noncomputable def Lz.e (c:Int->Int)(p:Ln->Int)(f:Nat->Int)(x:Lz):Int:=Lz.rec (motive:=λ_=>Int) f p c (λ_ _ a b=>a+b) (λ_ _ a b=>a-b) (λk _ a=>k*a) (λ_ a=>-a) x
noncomputable def Ln.o (xs:Xs):Ln->Nat:=Ln.e (λk=>k) (gN xs)
noncomputable def Lz.o (zs:Zs)(xs:Xs):Lz->Int:=Lz.e (λk=>k) (λl=>(l.o xs:Nat)) (gZ zs)
noncomputable def kN (x:Ln):Nat:=x.e (λk=>k) (λ_=>0)
noncomputable def wN (n:Nat)(x:Ln):Nat:=x.e (λ_=>0) (uN n)
noncomputable def kZ (x:Lz):Int:=x.e (λk=>k) (λl=>(kN l:Nat)) (λ_=>0)
noncomputable def wX (n:Nat)(x:Lz):Int:=x.e (λ_=>0) (λl=>(wN n l:Nat)) (λ_=>0)
noncomputable def wZ (n:Nat)(x:Lz):Int:=x.e (λ_=>0) (λ_=>0) (uZ n)
theorem Ln.at (t:Nat)(c f u:Nat->Nat)(x:Ln):x.e c (λj=>f j+t*u j)=x.e c f+t*x.e (λ_=>0) u:=by
 induction x with
 | v i=>rfl
 | n k=>rfl
 | a x y hx hy=>exact (congr (congrArg _ hx) hy).trans ((Nat.add_add_add_comm ..).trans (congrArg _ (Nat.mul_add ..).symm))
 | m k x hx=>exact (congrArg (k * ·) hx).trans ((Nat.mul_add ..).trans (congrArg _ (Nat.mul_left_comm ..)))
theorem i4 (a b c d:Int):a+b+(c+d)=a+c+(b+d):=(Qzs ..).trans ((congrArg _ (Int.add_left_comm ..)).trans (Qzs ..).symm)
theorem Lz.at (t:Int){c c' c'':Int->Int}{p p' p'':Ln->Int}{f f' f'':Nat->Int}(hc:∀k,c k=c' k+t*c'' k)(hp:∀k,p k=p' k+t*p'' k)(hf:∀k,f k=f' k+t*f'' k)(x:Lz):x.e c p f=x.e c' p' f'+t*x.e c'' p'' f'':=by
 induction x with
 | z i=>exact hf i
 | q l=>exact hp l
 | n k=>exact hc k
 | a x y hx hy=>exact (congr (congrArg _ hx) hy).trans ((i4 ..).trans (congrArg _ (Zab ..).symm))
 | s x y hx hy=>exact (congr (congrArg _ hx) hy).trans ((Int.sub_eq_add_neg).trans ((congrArg _ (Int.neg_add.trans (congrArg _ (Int.mul_neg ..).symm))).trans ((i4 ..).trans (congrArg _ (Zab ..).symm))))
 | m k x hx=>exact (congrArg (k * ·) hx).trans ((Zab ..).trans (congrArg _ (Int.mul_left_comm ..)))
 | g x hx=>exact (congrArg _ hx).trans (Int.neg_add.trans (congrArg _ (Int.mul_neg ..).symm))
theorem cutN (n:Nat){f:Nat->Nat}(hf:∀j,n+1<=j->f j=0):∃f':Nat->Nat,(∀j,n<=j->f' j=0)/\f=λj=>f' j+f n*uN n j:=by
 refine ⟨λj=>bif Nat.beq j n then 0 else f j,λj hj=>?_,funext λj=>?_⟩
 . show (bif Nat.beq j n then 0 else f j)=0
   cases e:Nat.beq j n with
   | true=>rfl
   | false=>exact hf j (Qyv hj λh=>by rw [h,Nat.beq_refl] at e;cases e)
 . show f j=(bif Nat.beq j n then 0 else f j)+f n*(bif Nat.beq j n then 1 else 0)
   cases e:Nat.beq j n with
   | true=>cases Qzc e;exact ((Qxu _).trans (Nat.mul_one _)).symm
   | false=>rfl
theorem cutZ (n:Nat){f:Nat->Int}(hf:∀j,n+1<=j->f j=0):∃f':Nat->Int,(∀j,n<=j->f' j=0)/\∀j,f j=f' j+f n*uZ n j:=by
 refine ⟨λj=>bif Nat.beq j n then 0 else f j,λj hj=>?_,λj=>?_⟩
 . show (bif Nat.beq j n then 0 else f j)=0
   cases e:Nat.beq j n with
   | true=>rfl
   | false=>exact hf j (Qyv hj λh=>by rw [h,Nat.beq_refl] at e;cases e)
 . show f j=(bif Nat.beq j n then 0 else f j)+f n*(bif Nat.beq j n then 1 else 0)
   cases e:Nat.beq j n with
   | true=>cases Qzc e;exact ((Int.zero_add _).trans (Int.mul_one _)).symm
   | false=>exact ((congrArg _ (Qz3 _)).trans (Qzd _)).symm
theorem Qts (xs:Xs):∀j,xs.length<=j->gN xs j=0:=by
 induction xs with
 | nil=>exact λ_ _=>rfl
 | cons x t ih =>
   intro j hj
   cases j with
   | zero=>cases hj
   | succ j=>exact ih j (Qx9 hj)
theorem gZ_out (xs:Zs):∀j,xs.length<=j->gZ xs j=0:=by
 induction xs with
 | nil=>exact λ_ _=>rfl
 | cons x t ih =>
   intro j hj
   cases j with
   | zero=>cases hj
   | succ j=>exact ih j (Qx9 hj)
noncomputable def chkN (l r:Ln)(n:Nat):Bool:=Nat.rec (Nat.blt (kN r) (kN l)) (λn b=>Nat.ble (wN n r) (wN n l) && b) n
noncomputable def chkX (l:Lz)(n:Nat):Bool:=Nat.rec (decide (0<kZ l)) (λn b=>decide (0<=wX n l) && b) n
noncomputable def chkZ (l:Lz)(m n:Nat):Bool:=Nat.rec (chkX l n) (λn b=>decide (wZ n l=0) && b) m
theorem Qvq {l r:Ln}(n:Nat):∀f,(∀j,n<=j->f j=0)->chkN l r n=true->r.e (λk=>k) f<l.e (λk=>k) f:=by
 induction n with
 | zero =>
   intro f hf h
   rw [show f=λ_=>0 from funext λj=>hf j (Qwv j)]
   exact Qye h
 | succ n ih =>
   intro f hf h
   obtain ⟨f',h1,h2⟩:=cutN n hf
   have h:=(Bool.and_eq_true _ _).mp h
   rw [h2,Ln.at,Ln.at]
   exact Nat.add_lt_add_of_lt_of_le (ih f' h1 h.2) (Qyr _ (Qye h.1))
theorem Qvp {l:Lz}(n:Nat):∀f,(∀j,n<=j->f j=0)->chkX l n=true->0<l.e (λk=>k) (λl=>(l.e (λk=>k) f:Nat)) λ_=>0:=by
 induction n with
 | zero =>
   intro f hf h
   rw [show f=λ_=>0 from funext λj=>hf j (Qwv j)]
   exact of_decide_eq_true h
 | succ n ih =>
   intro f hf h
   obtain ⟨f',h1,h2⟩:=cutN n hf
   have h:=(Bool.and_eq_true _ _).mp h
   have z:∀a:Int,a=a+(f n:Int)*0:=λa=>((congrArg _ (Qz3 _)).trans (Qzd _)).symm
   rw [h2,Lz.at (f n:Nat) (c':=λk=>k) (p':=λl=>(l.e (λk=>k) f':Nat)) (f':=λ_=>0) (c'':=λ_=>0) (p'':=λl=>(wN n l:Nat)) (f'':=λ_=>0) (λk=>z k) (λl=>congrArg (λn:Nat=>(n:Int)) (Ln.at ..)) (λk=>z 0)]
   exact Qzt (ih f' h1 h.2) (Int.le_add_of_nonneg_right (Int.mul_nonneg (Qwu _) (of_decide_eq_true h.1)))
theorem Qvo {l:Lz}{xs:Xs}(n:Nat):∀f,(∀j,n<=j->f j=0)->chkZ l n xs.length=true->0<l.e (λk=>k) (λl=>(l.o xs:Nat)) f:=by
 induction n with
 | zero =>
   intro f hf h
   rw [show f=λ_=>0 from funext λj=>hf j (Qwv j)]
   exact Qvp _ _ (Qts xs) h
 | succ n ih =>
   intro f hf h
   obtain ⟨f',h1,h2⟩:=cutZ n hf
   have h:=(Bool.and_eq_true _ _).mp h
   have z:∀a:Int,a=a+f n*0:=λa=>((congrArg _ (Qz3 _)).trans (Qzd _)).symm
   rw [Lz.at (f n) (c':=λk=>k) (p':=λl=>(l.o xs:Nat)) (c'':=λ_=>0) (p'':=λ_=>0) (λk=>z k) (λl=>z _) h2]
   have h3:l.e (λ_=>0) (λ_=>0) (uZ n)=0:=of_decide_eq_true h.1
   rw [h3,<-z]
   exact ih f' h1 h.2
noncomputable def Cs:=List (Nat×Nat×Ln×Ln)
noncomputable def Cs.d (xs:Xs)(c:Cs):Prop:=List.rec (motive:=λ_=>Prop) False (λi _ P=>Nat.rec (i.2.2.1.o xs<=i.2.2.2.o xs) (λj _=>Nat.rec (i.2.2.1.o xs=i.2.2.2.o xs) (λ_ _=>i.2.2.2.o xs=i.2.2.1.o xs) j) i.1->P) c
noncomputable def Cs.l (c:Cs):Ln:=List.rec (.n 0) (λi _ x=>.a (.m i.2.1 i.2.2.1) x) c
noncomputable def Cs.r (c:Cs):Ln:=List.rec (.n 0) (λi _ x=>.a (.m i.2.1 i.2.2.2) x) c
theorem le_3 {a b:Nat}(k:Nat)(h:Nat.rec (a<=b) (λj _=>Nat.rec (a=b) (λ_ _=>b=a) j) k):a<=b:=by
 cases k with
 | zero=>exact h
 | succ k =>
   cases k with
   | zero=>exact Qxq h
   | succ k=>exact Qxq (Eq.symm h)
theorem linGo (xs:Xs)(cs:Cs):∀L R:Nat,(L+cs.l.o xs<=R+cs.r.o xs->False)->L<=R->cs.d xs:=by
 unfold Cs at cs
 induction cs with
 | nil=>exact λL R h g=>h g
 | cons i t ih=>exact λL R h g hl=>ih (L+i.2.1*i.2.2.1.o xs) (R+i.2.1*i.2.2.2.o xs) (λh'=>h (Qdg (Qxq (Qyo ..).symm) (Qdg h' (Qxq (Qyo ..))))) (Nat.add_le_add g (Qyr _ (le_3 i.1 hl)))
theorem lin (xs:Xs)(cs:Cs)(h:chkN cs.l cs.r xs.length=true):cs.d xs :=
 linGo xs cs 0 0 (λhle=>Qyb.mpr (Qdg (Qxq (Qxu _).symm) (Qdg hle (Qxq (Qxu _)))) (Qvq _ _ (Qts xs) h)) (Qwb _)
noncomputable def Cz:=List (Nat×Nat×Lz×Lz)
noncomputable def Cz.d (zs:Zs)(xs:Xs)(c:Cz):Prop:=List.rec (motive:=λ_=>Prop) False (λi _ P=>Nat.rec (i.2.2.1.o zs xs<=i.2.2.2.o zs xs) (λj _=>Nat.rec (i.2.2.1.o zs xs=i.2.2.2.o zs xs) (λ_ _=>i.2.2.2.o zs xs=i.2.2.1.o zs xs) j) i.1->P) c
noncomputable def Cz.l (c:Cz):Lz:=List.rec (.n 0) (λi _ x=>.a (.m i.2.1 (.s i.2.2.1 i.2.2.2)) x) c
theorem le_z {a b:Int}(k:Nat)(h:Nat.rec (a<=b) (λj _=>Nat.rec (a=b) (λ_ _=>b=a) j) k):a<=b:=by
 cases k with
 | zero=>exact h
 | succ k =>
   cases k with
   | zero=>exact Qyf h
   | succ k=>exact Qyf (Eq.symm h)
theorem linzGo (zs:Zs)(xs:Xs)(cs:Cz):∀S:Int,(S+cs.l.o zs xs<=0->False)->S<=0->cs.d zs xs:=by
 unfold Cz at cs
 induction cs with
 | nil=>exact λS h g=>h (Qwh (Qyf (Qzd S)) g)
 | cons i t ih=>exact λS h g hl=>ih (S+i.2.1*(i.2.2.1.o zs xs-i.2.2.2.o zs xs)) (λh'=>h (Qwh (Qyf (Qzs ..).symm) h')) (Int.add_le_add g (Int.mul_nonpos_of_nonneg_of_nonpos (Qwu _) (Int.sub_nonpos_of_le (le_z i.1 hl))))
theorem linz (zs:Zs)(xs:Xs)(cs:Cz)(h:chkZ cs.l zs.length xs.length=true):cs.d zs xs :=
 linzGo zs xs cs 0 (λhle=>Qyq.mpr (Qwh (Qyf (Int.zero_add _).symm) hle) (Qvo _ _ (gZ_out zs) h)) (Qw0 _)
noncomputable def X1 (a:Nat):Xs:=[a]
noncomputable def X2 (a b:Nat):Xs:=[a,b]
noncomputable def X3 (a b c:Nat):Xs:=[a,b,c]
noncomputable def X4 (a b c d:Nat):Xs:=[a,b,c,d]
noncomputable def X5 (a b c d e:Nat):Xs:=[a,b,c,d,e]
noncomputable def X6 (a b c d e f:Nat):Xs:=[a,b,c,d,e,f]
noncomputable def X7 (a b c d e f i:Nat):Xs:=[a,b,c,d,e,f,i]
noncomputable def X8 (a b c d e f i j:Nat):Xs:=[a,b,c,d,e,f,i,j]
noncomputable def Z1 (a:Int):Zs:=[a]
noncomputable def Z2 (a b:Int):Zs:=[a,b]
noncomputable def Z3 (a b c:Int):Zs:=[a,b,c]
noncomputable def Z4 (a b c d:Int):Zs:=[a,b,c,d]
noncomputable def v0:Ln:=.v 0
noncomputable def v1:Ln:=.v 1
noncomputable def v2:Ln:=.v 2
noncomputable def v3:Ln:=.v 3
noncomputable def v4:Ln:=.v 4
noncomputable def v5:Ln:=.v 5
noncomputable def v6:Ln:=.v 6
noncomputable def v7:Ln:=.v 7
noncomputable def v8:Ln:=.v 8
noncomputable def z0:Lz:=.z 0
noncomputable def q0:Lz:=.q (.v 0)
noncomputable def z1:Lz:=.z 1
noncomputable def q1:Lz:=.q (.v 1)
noncomputable def z2:Lz:=.z 2
noncomputable def q2:Lz:=.q (.v 2)
noncomputable def z3:Lz:=.z 3
noncomputable def q3:Lz:=.q (.v 3)
noncomputable def n0:Ln:=.n 0
noncomputable def m0:Lz:=.n 0
noncomputable def n1:Ln:=.n 1
noncomputable def m1:Lz:=.n 1
noncomputable def n2:Ln:=.n 2
noncomputable def m2:Lz:=.n 2
noncomputable def n3:Ln:=.n 3
noncomputable def m3:Lz:=.n 3
noncomputable def m4:Lz:=.n 4
noncomputable def p0:Ln:=.a (.v 0) (.n 1)
noncomputable def p1:Ln:=.a (.v 1) (.n 1)
noncomputable def p2:Ln:=.a (.v 2) (.n 1)
noncomputable def p3:Ln:=.a (.v 3) (.n 1)
noncomputable def p4:Ln:=.a (.v 4) (.n 1)
noncomputable def a01:Ln:=.a (.v 0) (.v 1)
noncomputable def a02:Ln:=.a (.v 0) (.v 2)
noncomputable def a03:Ln:=.a (.v 0) (.v 3)
noncomputable def a04:Ln:=.a (.v 0) (.v 4)
noncomputable def a10:Ln:=.a (.v 1) (.v 0)
noncomputable def a12:Ln:=.a (.v 1) (.v 2)
noncomputable def a13:Ln:=.a (.v 1) (.v 3)
noncomputable def a14:Ln:=.a (.v 1) (.v 4)
noncomputable def a20:Ln:=.a (.v 2) (.v 0)
noncomputable def a21:Ln:=.a (.v 2) (.v 1)
noncomputable def a23:Ln:=.a (.v 2) (.v 3)
noncomputable def a24:Ln:=.a (.v 2) (.v 4)
noncomputable def a30:Ln:=.a (.v 3) (.v 0)
noncomputable def a31:Ln:=.a (.v 3) (.v 1)
noncomputable def a32:Ln:=.a (.v 3) (.v 2)
noncomputable def a34:Ln:=.a (.v 3) (.v 4)
noncomputable def a40:Ln:=.a (.v 4) (.v 0)
noncomputable def a41:Ln:=.a (.v 4) (.v 1)
noncomputable def a42:Ln:=.a (.v 4) (.v 2)
noncomputable def a43:Ln:=.a (.v 4) (.v 3)
noncomputable def Cs.c (k:Nat)(l r:Ln)(t:Cs):Cs:=(0,k,l,r)::t
noncomputable def Cs.k (k:Nat)(l r:Ln):Cs:=[(0,k,l,r)]
noncomputable def Cs.o (l r:Ln)(t:Cs):Cs:=(0,1,l,r)::t
noncomputable def Cs.s (l r:Ln)(t:Cs):Cs:=(0,1,.a l (.n 1),r)::t
noncomputable def Cs.e (l r:Ln)(t:Cs):Cs:=(1,1,l,r)::t
noncomputable def Cs.i (l r:Ln)(t:Cs):Cs:=(2,1,l,r)::t
noncomputable def Cs.f (l r:Ln):Cs:=[(0,1,l,r)]
noncomputable def Cs.g (l r:Ln):Cs:=[(0,1,.a l (.n 1),r)]
noncomputable def Cs.h (l r:Ln):Cs:=[(1,1,l,r)]
noncomputable def Cs.j (l r:Ln):Cs:=[(2,1,l,r)]
noncomputable def Cz.o (l r:Lz)(t:Cz):Cz:=(0,1,l,r)::t
noncomputable def Cz.s (l r:Lz)(t:Cz):Cz:=(0,1,.a l (.n 1),r)::t
noncomputable def Cz.e (l r:Lz)(t:Cz):Cz:=(1,1,l,r)::t
noncomputable def Cz.i (l r:Lz)(t:Cz):Cz:=(2,1,l,r)::t
noncomputable def Cz.f (l r:Lz):Cz:=[(0,1,l,r)]
noncomputable def Cz.g (l r:Lz):Cz:=[(0,1,.a l (.n 1),r)]
noncomputable def Cz.h (l r:Lz):Cz:=[(1,1,l,r)]
noncomputable def Cz.j (l r:Lz):Cz:=[(2,1,l,r)]
theorem eSub (a b:Nat)(h:b<=a->a-b+b=a->False)(k:a<b->a-b=0->False):False:=(Nat.lt_or_ge a b).elim (λg=>k g (Nat.sub_eq_zero_of_le (Qxb g))) λg=>h g (Nat.sub_add_cancel g)
theorem eMin (a b:Nat)(h:a<=b->min a b=a->False)(k:b<=a->min a b=b->False):False:=(Qz4 a b).elim (λg=>h g (Qw1 g)) λg=>k g (Nat.min_eq_right g)
theorem eMax (a b:Nat)(h:a<=b->max a b=b->False)(k:b<=a->max a b=a->False):False:=(Qz4 a b).elim (λg=>h g (Nat.max_eq_right g)) λg=>k g (Nat.max_eq_left g)
theorem Qj0 (a b:Int)(h:a<=b->min a b=a->False)(k:b<=a->min a b=b->False):False:=(Int.le_total a b).elim (λg=>h g (Int.min_eq_left g)) λg=>k g (Int.min_eq_right g)
theorem Qi1 (a b:Int)(h:a<=b->max a b=b->False)(k:b<=a->max a b=a->False):False:=(Int.le_total a b).elim (λg=>h g (Int.max_eq_right g)) λg=>k g (Int.max_eq_left g)
theorem eTn (z:Int)(h:0<=z->((z.toNat:Nat):Int)=z->False)(k:z<0->z.toNat=0->False):False:=(Int.lt_or_le z 0).elim (λg=>k g (Int.toNat_of_nonpos (Qw8 g))) λg=>h g (Qxr g)
theorem eNeN {a b:Nat}(e:a≠b)(h:a<b->False)(k:b<a->False):False:=(Nat.lt_or_gt_of_ne e).elim h k
theorem eNeZ {a b:Int}(e:a≠b)(h:a<b->False)(k:b<a->False):False:=(Int.lt_or_gt_of_ne e).elim h k
theorem eNA {A B:Prop}(e:¬(A/\B))(h:¬A->False)(k:¬B->False):False:=h λa=>k λb=>e ⟨a,b⟩
theorem Qah (a b:Nat):a<=a-b+b:=Nat.sub_le_iff_le_add.mp (Qwb _)
theorem Qa4 {a b:Int}(h:¬a<=b):b<a:=Int.not_le.mp h
theorem Qac {a b:Int}(h:¬a<b):b<=a:=Qyq.mp h
theorem Qgf (a:Nat):2*(a / 2)<=a/\a<2*(a / 2)+2:=⟨Nat.mul_div_le a 2,Nat.lt_mul_div_succ a (Qyg 1)⟩
end Mine
namespace Mine
theorem nA {a b:Nat}(h:¬a<b):b<=a:=Nat.le_of_not_lt h
theorem nB {a b:Nat}(h:¬a<=b):b<a:=Nat.lt_of_not_le h
theorem nC {a b:Nat}(h:a=b):a<=b:=Qxq h
theorem nD {a b:Nat}(h:a<=b):(a:Int)<=b:=Int.ofNat_le.mpr h
theorem nE {a b:Nat}(h:a<=b)(k:b<=a):a=b:=Qxn h k
theorem nF {a b:Int}(h:a=b):a<=b:=Qyf h
theorem om1 {a b:Nat}:min a b<=b:=nA λg1=>(eMin a b (λg2 k2=>(lin (X3 b (min a b) a) (.s v0 v1 (.o v2 v0 (.h v1 v2))) tr g1 g2 k2)) (λg2 k2=>(lin (X2 b (min a b)) (.s v0 v1 (.h v1 v0)) tr g1 k2)))
theorem om2 {a b c d:Nat}(h0:a<400)(h1:b<=a)(h2:c<=a)(h3:d<=c):b+d+1<=1000000:=nA λg1=>(lin (X4 a b c d) (.c 2 (.a v0 n1) (.n 400) (.o v1 v0 (.o v2 v0 (.o v3 v2 (.g (.n 1000000) (.a a13 n1)))))) tr h0 h1 h2 h3 g1)
theorem om3 {a b c:Nat}:a+1+(b+(c+1))=a+1+b+(c+1):=nE (nA λg2=>(lin (X3 a b c) (.g (.a (.a p0 v1) p2) (.a p0 (.a v1 p2))) tr g2)) (nA λg3=>(lin (X3 a b c) (.g (.a p0 (.a v1 p2)) (.a (.a p0 v1) p2)) tr g3))
theorem om4 {a b c:Nat}(h0:a+b=c):a<=c:=nA λg1=>(lin (X3 a b c) (.e a01 v2 (.g v2 v0)) tr h0 g1)
theorem om5 {a b c:Nat}(h0:a<=b):a+1<=c+1+b:=nA λg1=>(lin (X3 a b c) (.o v0 v1 (.g (.a p2 v1) p0)) tr h0 g1)
theorem om6 {a:Nat}(h0:a<400):a+1+0<=500:=nA λg1=>(lin (X1 a) (.s v0 (.n 400) (.g (.n 500) (.a p0 n0))) tr h0 g1)
theorem om7 {a:Nat}(h0:¬(1<(a:Int))):a<=1:=nA λg1=>(linz [] (X1 a) (.o q0 m1 (.f (.q (.a n1 n1)) q0)) tr (Qac h0 :) (nD g1 :))
theorem om9 {a b c d e f:Nat}(h0:a<=b+c)(h1:d<e)(h2:f=c+e):a+(d+1)<=b+(c+e):=nA λg1=>(lin (X5 a b c d e) (.o v0 a12 (.s v3 v4 (.g (.a v1 a24) (.a v0 p3)))) tr h0 h1 g1)
theorem om10 {a b c d:Nat}(h0:a<=b)(h1:c<=d+a):c<d+(b+1):=nB λg1=>(lin (X4 a b c d) (.o v0 v1 (.o v2 a30 (.f (.a v3 p1) v2))) tr h0 h1 g1)
theorem om11 {a b c d:Nat}(h0:a+(b+1)<=500)(h1:c<=b)(h2:d<=a+c):d<=500:=nA λg1=>(lin (X4 a b c d) (.o (.a v0 p1) (.n 500) (.o v2 v1 (.o v3 a02 (.g (.n 500) v3)))) tr h0 h1 h2 g1)
theorem om12 {a b:Int}(h0:a<=b)(h1:a≠b):a<b:=Qa4 λg1=>(eNeZ h1 (λg2=>(linz (Z2 b a) [] (.o z0 z1 (.g z1 z0)) tr g1 g2)) (λg2=>(linz (Z2 a b) [] (.o z0 z1 (.g z1 z0)) tr h0 g2)))
theorem om13 {a b:Nat}(h0:¬(a<b)):b<=a:=nA λg1=>(lin (X2 b a) (.o v0 v1 (.g v1 v0)) tr (nA h0 :) g1)
theorem om14 {a b:Nat}(h0:a-b=0):a-b=0:=nE (nA λg2=>(lin (X1 (a-b)) (.e v0 n0 (.g n0 v0)) tr h0 g2)) (nA λg3=>(lin (X1 (a-b)) (.g v0 n0) tr g3))
theorem om15 {a b c:Nat}(h0:¬(a<b))(h1:b=c)(h2:a-b=0):a=c:=nE (nA λg2=>(lin (X4 b c (a-b) a) (.e v0 v1 (.e v2 n0 (.s v1 v3 (.f v3 a20)))) tr h1 h2 g2 (Qah a b :))) (nA λg3=>(lin (X3 b a c) (.o v0 v1 (.i v2 v0 (.g v1 v2))) tr (nA h0 :) h1 g3))
theorem om16 {a b c d:Nat}(h0:a<=300)(h1:(b:Int)=(a:Int))(h2:c<=a):min d c<=300:=nA λg1=>(eMin d c (λg2 k2=>(lin (X4 a c (min d c) d) (.o v0 (.n 300) (.o v1 v0 (.s (.n 300) v2 (.o v3 v1 (.h v2 v3))))) tr h0 h2 g1 g2 k2)) (λg2 k2=>(lin (X3 a c (min d c)) (.o v0 (.n 300) (.o v1 v0 (.s (.n 300) v2 (.h v2 v1)))) tr h0 h2 g1 k2)))
theorem om17 {a b:Nat}(h0:a<=2):a<=2*b+2:=nA λg1=>(lin (X2 a b) (.o v0 n2 (.g (.a (.m 2 v1) n2) v0)) tr h0 g1)
theorem om18 {a b:Nat}(h0:a<=1000):min b a<=1000:=nA λg1=>(eMin b a (λg2 k2=>(lin (X3 a (min b a) b) (.o v0 (.n 1000) (.s (.n 1000) v1 (.o v2 v0 (.h v1 v2)))) tr h0 g1 g2 k2)) (λg2 k2=>(lin (X2 a (min b a)) (.o v0 (.n 1000) (.s (.n 1000) v1 (.h v1 v0))) tr h0 g1 k2)))
theorem om19 {a b:Nat}(h0:a<=1000)(h1:b+1<=a):b<=1000:=nA λg1=>(lin (X2 a b) (.o v0 (.n 1000) (.o p1 v0 (.g (.n 1000) v1))) tr h0 h1 g1)
theorem om20 {a b c d:Nat}(h0:a<=1000)(h1:b+1<=2*c+2)(h2:d<=2)(h3:c+1<=a):b+d<=1000000:=nA λg1=>(lin (X4 a b c d) (.c 2 v0 (.n 1000) (.o p1 (.a (.m 2 v2) n2) (.o v3 n2 (.c 2 p2 v0 (.g (.n 1000000) a13))))) tr h0 h1 h2 h3 g1)
theorem om21 {a b c d:Nat}(h0:a<=2)(h1:b+1<=c):3*(c-(b+1))+(d+a)<3*(c-b)+(d+1):=nB λg1=>(eSub c (b+1) (λg2 k2=>(lin (X6 a (c-b) d (c-(b+1)) b c) (.o v0 n2 (.o (.a (.m 3 v1) p2) (.a (.m 3 v3) a20) (.c 3 (.a v3 p4) v5 (.k 3 v5 a14)))) tr h0 g1 (nC k2 :) (Qah c b :))) (λg2 k2=>(lin (X2 b c) (.o p0 v1 (.g v1 p0)) tr h1 g2)))
theorem om22 {a b c:Nat}(h0:a+1<=2*b+2)(h1:c<=2):a+c<=2*(b+1)+2:=nA λg1=>(lin (X3 a b c) (.o p0 (.a (.m 2 v1) n2) (.o v2 n2 (.g (.a (.m 2 p1) n2) a02))) tr h0 h1 g1)
theorem om23 {a b:Nat}(h0:a+1<=2*b+2):a<=2*b+2:=nA λg1=>(lin (X2 a b) (.o p0 (.a (.m 2 v1) n2) (.g (.a (.m 2 v1) n2) v0)) tr h0 g1)
theorem om24 {a:Int}(h0:0<=a/\a<4):a=0\/a=1\/a=2\/a=3:=Classical.byContradiction λg1=>(eNeZ (And.left (not_or.mp g1)) (λg2=>(linz (Z1 a) [] (.o m0 z0 (.g z0 m0)) tr (And.left h0 :) g2)) (λg2=>(eNeZ (And.left (not_or.mp (And.right (not_or.mp g1)))) (λg3=>(linz (Z1 a) [] (.s m0 z0 (.g z0 m1)) tr g2 g3)) (λg3=>(eNeZ (And.left (not_or.mp (And.right (not_or.mp (And.right (not_or.mp g1)))))) (λg4=>(linz (Z1 a) [] (.s m1 z0 (.g z0 m2)) tr g3 g4)) (λg4=>(eNeZ (And.right (not_or.mp (And.right (not_or.mp (And.right (not_or.mp g1)))))) (λg5=>(linz (Z1 a) [] (.s m2 z0 (.g z0 m3)) tr g4 g5)) (λg5=>(linz (Z1 a) [] (.s z0 m4 (.g m3 z0)) tr (And.right h0 :) g5)))))))))
theorem om25 {a:Nat}(h0:2<=a)(h1:a<=19):¬((a:Int)=0):=λg1=>(linz [] (X1 a) (.o (.q n2) q0 (.h q0 m0)) tr (nD h0 :) g1)
theorem om27 {a:Nat}(h0:2<=a)(h1:a<=19):0<(a:Int):=Qa4 λg1=>(linz [] (X1 a) (.o (.q n2) q0 (.f q0 m0)) tr (nD h0 :) g1)
theorem om28 {a b:Nat}(h0:2<=a)(h1:a<=19)(h2:2+a<=b):0<b:=nB λg1=>(lin (X2 a b) (.o (.a n2 v0) v1 (.f v1 n0)) tr h2 g1)
theorem om29 {a b:Nat}(h0:2<=a)(h1:a<=19)(h2:2+a<=b):1<b:=nB λg1=>(lin (X2 a b) (.o (.a n2 v0) v1 (.f v1 n1)) tr h2 g1)
theorem om30 {a:Nat}(h0:2<=a)(h1:a<=19):a<=1000000:=nA λg1=>(lin (X1 a) (.o v0 (.n 19) (.g (.n 1000000) v0)) tr h1 g1)
theorem om31 {b:Nat}{a:Int}(h0:0<=a/\a<(b:Int)):0<=1+a:=Qac λg1=>(linz (Z1 a) [] (.o m0 z0 (.g (.a m1 z0) m0)) tr (And.left h0 :) g1)
theorem om32 {b:Nat}{a:Int}(h0:0<=a/\a<(b:Int)):1+a<=(b:Int)+1:=Qac λg1=>(linz (Z1 a) (X1 b) (.s z0 q0 (.g (.a q0 m1) (.a m1 z0))) tr (And.right h0 :) g1)
theorem om33 {a b:Nat}(h0:2<=a)(h1:a<=19)(h2:b<a):b+1<=20:=nA λg1=>(lin (X2 a b) (.o v0 (.n 19) (.s v1 v0 (.g (.n 20) p1))) tr h1 h2 g1)
theorem om34 {a:Nat}:2+(a:Int)=((2+a:Nat):Int):=Qwd (Qac λg2=>(linz [] (X1 a) (.g (.q (.a n2 v0)) (.a m2 q0)) tr g2)) (Qac λg3=>(linz [] (X1 a) (.g (.a m2 q0) (.q (.a n2 v0))) tr g3))
theorem om35 {a b c:Nat}(h0:2+a<=b)(h1:c<a):2+c<b:=nB λg1=>(lin (X3 a b c) (.o (.a n2 v0) v1 (.s v2 v0 (.f v1 (.a n2 v2)))) tr h0 h1 g1)
theorem om36 {a:Nat}:0<=2+(a:Int):=Qac λg1=>(linz [] (X1 a) (.g (.a m2 q0) m0) tr g1)
theorem om37 {a:Nat}(h0:2<=a)(h1:a<=19):0<=(a:Int)+1/\(a:Int)+1<=(a:Int)+1:=⟨Qac λg1=>(linz [] (X1 a) (.g (.a q0 m1) m0) tr g1) ,Qac λg2=>(linz [] (X1 a) (.g (.a q0 m1) (.a q0 m1)) tr g2) ⟩
theorem om38 {b:Nat}{a:Int}(h0:0<=a/\a<(b:Int)):0<=1+a/\1+a<=(b:Int)+1:=⟨Qac λg1=>(linz (Z1 a) [] (.o m0 z0 (.g (.a m1 z0) m0)) tr (And.left h0 :) g1) ,Qac λg2=>(linz (Z1 a) (X1 b) (.s z0 q0 (.g (.a q0 m1) (.a m1 z0))) tr (And.right h0 :) g2) ⟩
theorem om39 {a:Nat}(h0:2<=a)(h1:a<=19):(0:Int)<=0/\0<=(a:Int)+1:=⟨Qac λg1=>(linz [] [] (.g m0 m0) tr g1) ,Qac λg2=>(linz [] (X1 a) (.g (.a q0 m1) m0) tr g2) ⟩
theorem om40 {a b:Nat}(h0:2<=a)(h1:a<=19)(h2:b=a+1):1<=b:=nA λg1=>(lin (X2 a b) (.i p0 v1 (.g v1 n1)) tr h2 g1)
theorem om41 {a b:Nat}(h0:2<=a)(h1:a<=19)(h2:b=a+1):b<=300:=nA λg1=>(lin (X2 a b) (.o v0 (.n 19) (.e v1 p0 (.g (.n 300) v1))) tr h1 h2 g1)
theorem om42 {a b:Nat}(h0:a=b+1):a=b+1:=nE (nA λg2=>(lin (X2 a b) (.e v0 p1 (.g p1 v0)) tr h0 g2)) (nA λg3=>(lin (X2 b a) (.i p0 v1 (.g v1 p0)) tr h0 g3))
theorem om43 {a:Nat}(h0:1<=a):(0:Int)<=0/\0<(a:Int):=⟨Qac λg1=>(linz [] [] (.g m0 m0) tr g1) ,Qa4 λg2=>(linz [] (X1 a) (.o (.q n1) q0 (.f q0 m0)) tr (nD h0 :) g2) ⟩
theorem om44 {b:Nat}{a:Int}(h0:¬(Qc a<b)):b<=Qc a:=nA λg1=>(lin (X2 b (Qc a)) (.o v0 v1 (.g v1 v0)) tr (nA h0 :) g1)
theorem om45 {b:Nat}{a:Int}(h0:0<=a)(h1:Qc a<b):0<=a/\a<(b:Int):=⟨Qac λg1=>(linz (Z1 a) [] (.o m0 z0 (.g z0 m0)) tr h0 g1) ,Qa4 λg2=>(eTn a (λg3 k3=>(linz (Z1 a) (X2 (Qc a) b) (.o (.q p0) q1 (.o q1 z0 (.j z0 q0))) tr (nD h1 :) g2 k3)) (λg3 k3=>(linz (Z1 a) [] (.o m0 z0 (.g z0 m0)) tr h0 g3))) ⟩
theorem om46 {b c:Nat}{a:Int}(h0:a<(b:Int)):¬((b:Int)<=a/\a<((b+c:Nat):Int)):=λg1=>(linz (Z1 a) (X1 b) (.s z0 q0 (.f q0 z0)) tr h0 (And.left g1 :))
theorem om47 {a b:Nat}:a<=a+b:=nA λg1=>(lin (X2 a b) (.g a01 v0) tr g1)
theorem om48 {a b:Nat}(h0:((a+b:Nat):Int)<(a:Int)):False:=linz [] (X2 a b) (.g (.q a01) q0) tr h0
theorem om49 {a b c:Nat}(h0:a<b):(c:Int)<=((c+a:Nat):Int)/\((c+a:Nat):Int)<((c+b:Nat):Int):=⟨Qac λg1=>(linz [] (X2 c a) (.g (.q a01) q0) tr g1) ,Qa4 λg2=>(linz [] (X3 a b c) (.o (.q p0) q1 (.f (.q a21) (.q a20))) tr (nD h0 :) g2) ⟩
theorem om50 {b:Nat}{a:Int}(h0:0<=a)(h1:a<(b:Int)):Qc a<b:=nB λg1=>(eTn a (λg2 k2=>(linz (Z1 a) (X2 b (Qc a)) (.s z0 q0 (.o q0 q1 (.h q1 z0))) tr h1 (nD g1 :) k2)) (λg2 k2=>(linz (Z1 a) [] (.o m0 z0 (.g z0 m0)) tr h0 g2)))
theorem om51 {a c:Nat}{b:Int}(h0:(a:Int)<=b)(h1:b<((a+c:Nat):Int)):Qc b-a<c:=nB λg1=>(eSub (Qc b) a (λg2 k2=>(eTn b (λg3 k3=>(linz (Z1 b) (X4 a c (Qc b-a) (Qc b)) (.s z0 (.q a01) (.o q1 q2 (.o (.q a20) q3 (.h q3 z0)))) tr h1 (nD g1 :) (nD (nC k2) :) k3)) (λg3 k3=>(linz (Z1 b) (X4 a c (Qc b-a) (Qc b)) (.o q0 z0 (.s z0 (.q a01) (.o q1 q2 (.o q3 (.q n0) (.f q2 q3))))) tr h0 h1 (nD g1 :) (nD (nC k3) :) (nD (Qwq (Qc b) a) :))))) (λg2 k2=>(linz (Z1 b) (X3 a c (Qc b-a)) (.o q0 z0 (.s z0 (.q a01) (.o q1 q2 (.f q2 (.q n0))))) tr h0 h1 (nD g1 :) (nD (nC k2) :))))
theorem om52 {a b:Nat}(h0:1<=a):1<=a+b:=nA λg1=>(lin (X2 a b) (.o n1 v0 (.g a01 n1)) tr h0 g1)
theorem om53 {a:Nat}:0<=(a:Int):=Qac λg1=>(linz [] (X1 a) (.g q0 m0) tr g1)
theorem om54 {a:Int}(h0:0<=a):((Qc a:Nat):Int)=a:=Qwd (Qac λg2=>(eTn a (λg3 k3=>(linz (Z1 a) (X1 (Qc a)) (.s z0 q0 (.h q0 z0)) tr g2 k3)) (λg3 k3=>(linz (Z1 a) [] (.o m0 z0 (.g z0 m0)) tr h0 g3)))) (Qac λg4=>(eTn a (λg5 k5=>(linz (Z1 a) (X1 (Qc a)) (.s q0 z0 (.j z0 q0)) tr g4 k5)) (λg5 k5=>(linz (Z1 a) [] (.o m0 z0 (.g z0 m0)) tr h0 g5))))
theorem om55 {a c:Nat}{b:Int}(h0:(a:Int)<=b/\b<((a+c:Nat):Int)):Qc b-a<c:=nB λg1=>(eSub (Qc b) a (λg2 k2=>(eTn b (λg3 k3=>(linz (Z1 b) (X4 a c (Qc b-a) (Qc b)) (.s z0 (.q a01) (.o q1 q2 (.o (.q a20) q3 (.h q3 z0)))) tr (And.right h0 :) (nD g1 :) (nD (nC k2) :) k3)) (λg3 k3=>(linz (Z1 b) (X4 a c (Qc b-a) (Qc b)) (.o q0 z0 (.s z0 (.q a01) (.o q1 q2 (.o q3 (.q n0) (.f q2 q3))))) tr (And.left h0 :) (And.right h0 :) (nD g1 :) (nD (nC k3) :) (nD (Qwq (Qc b) a) :))))) (λg2 k2=>(linz (Z1 b) (X3 a c (Qc b-a)) (.o q0 z0 (.s z0 (.q a01) (.o q1 q2 (.f q2 (.q n0))))) tr (And.left h0 :) (And.right h0 :) (nD g1 :) (nD (nC k2) :))))
theorem om56 {a:Nat}{b:Int}(h0:(a:Int)<=b):((a+(Qc b-a):Nat):Int)=b:=Qwd (Qac λg2=>(eSub (Qc b) a (λg3 k3=>(eTn b (λg4 k4=>(linz (Z1 b) (X3 a (Qc b-a) (Qc b)) (.s z0 (.q a01) (.o (.q a10) q2 (.h q2 z0))) tr g2 (nD (nC k3) :) k4)) (λg4 k4=>(linz (Z1 b) (X3 a (Qc b-a) (Qc b)) (.o q0 z0 (.s z0 (.q a01) (.o q2 (.q n0) (.f q1 q2)))) tr h0 g2 (nD (nC k4) :) (nD (Qwq (Qc b) a) :))))) (λg3 k3=>(linz (Z1 b) (X2 a (Qc b-a)) (.o q0 z0 (.s z0 (.q a01) (.f q1 (.q n0)))) tr h0 g2 (nD (nC k3) :))))) (Qac λg5=>(eTn b (λg6 k6=>(linz (Z1 b) (X3 a (Qc b-a) (Qc b)) (.s (.q a01) z0 (.i z0 q2 (.f q2 (.q a10)))) tr g5 k6 (nD (Qah (Qc b) a) :))) (λg6 k6=>(linz (Z1 b) (X2 a (Qc b-a)) (.s (.q a01) z0 (.g z0 m0)) tr g5 g6))))
theorem om57 {b c d:Nat}{a:Int}(h0:0<=a)(h1:a<(b:Int))(h2:c<d):0<=((b+c:Nat):Int)/\((b+c:Nat):Int)<((b+d:Nat):Int):=⟨Qac λg1=>(linz [] (X2 b c) (.g (.q a01) m0) tr g1) ,Qa4 λg2=>(linz [] (X3 c d b) (.o (.q p0) q1 (.f (.q a21) (.q a20))) tr (nD h2 :) g2) ⟩
theorem om58 {b c:Nat}{a:Int}(h0:0<=a)(h1:a<(b:Int)):0<=a/\a<((b+c:Nat):Int):=⟨Qac λg1=>(linz (Z1 a) [] (.o m0 z0 (.g z0 m0)) tr h0 g1) ,Qa4 λg2=>(linz (Z1 a) (X2 b c) (.s z0 q0 (.f (.q a01) z0)) tr h1 g2) ⟩
theorem om59 {b c:Nat}{a:Int}(h0:0<=a)(h1:¬(a<(b:Int)))(h2:Qc a<b+c):Qc a-b<c:=nB λg1=>(eTn a (λg2 k2=>(eSub (Qc a) b (λg3 k3=>(lin (X4 (Qc a) b c (Qc a-b)) (.s v0 a12 (.o v2 v3 (.h a31 v0))) tr h2 g1 k3)) (λg3 k3=>(linz (Z1 a) (X2 b (Qc a)) (.o q0 z0 (.i z0 q1 (.f (.q p1) q0))) tr (Qac h1 :) k2 (nD g3 :))))) (λg2 k2=>(linz (Z1 a) [] (.o m0 z0 (.g z0 m0)) tr h0 g2)))
theorem om60 {b c:Nat}{a:Int}(h0:0<=a/\a<(b:Int)):0<=a/\a<((b+c:Nat):Int):=⟨Qac λg1=>(linz (Z1 a) [] (.o m0 z0 (.g z0 m0)) tr (And.left h0 :) g1) ,Qa4 λg2=>(linz (Z1 a) (X2 b c) (.s z0 q0 (.f (.q a01) z0)) tr (And.right h0 :) g2) ⟩
theorem om61 {a c:Nat}{b:Int}(h0:(a:Int)<=b)(h1:Qc b-a<c):(a:Int)<=b/\b<((a+c:Nat):Int):=⟨Qac λg1=>(linz (Z1 b) (X1 a) (.o q0 z0 (.g z0 q0)) tr h0 g1) ,Qa4 λg2=>(eTn b (λg3 k3=>(linz (Z1 b) (X4 (Qc b-a) c a (Qc b)) (.o (.q p0) q1 (.o (.q a21) z0 (.i z0 q3 (.f q3 (.q a02))))) tr (nD h1 :) g2 k3 (nD (Qah (Qc b) a) :))) (λg3 k3=>(linz (Z1 b) (X2 a c) (.o (.q a01) z0 (.g z0 m0)) tr g2 g3))) ⟩
theorem om62 {b:Nat}{a:Int}(h0:0<=a)(h1:¬(a<(b:Int))):b+(Qc a-b)=Qc a:=nE (nA λg2=>(eTn a (λg3 k3=>(eSub (Qc a) b (λg4 k4=>(lin (X3 (Qc a) b (Qc a-b)) (.s v0 a12 (.h a21 v0)) tr g2 k4)) (λg4 k4=>(linz (Z1 a) (X2 b (Qc a)) (.o q0 z0 (.i z0 q1 (.f (.q p1) q0))) tr (Qac h1 :) k3 (nD g4 :))))) (λg3 k3=>(linz (Z1 a) [] (.o m0 z0 (.g z0 m0)) tr h0 g3)))) (nA λg5=>(lin (X3 b (Qc a-b) (Qc a)) (.s a01 v2 (.f v2 a10)) tr g5 (Qah (Qc a) b :)))
theorem om63 {b c:Nat}{a:Int}(h0:¬(a<(b:Int)))(h1:Qc a-b<c):(b:Int)<=a:=Qac λg1=>(linz (Z1 a) (X1 b) (.o q0 z0 (.g z0 q0)) tr (Qac h0 :) g1)
theorem om64 {b d:Nat}{a c:Int}(h0:0<=a/\a<(b:Int))(h1:¬(c<(b:Int)))(h2:c<((b+d:Nat):Int)):Qc c-b<d:=nB λg1=>(eSub (Qc c) b (λg2 k2=>(eTn c (λg3 k3=>(linz (Z1 c) (X4 b d (Qc c-b) (Qc c)) (.s z0 (.q a01) (.o q1 q2 (.o (.q a20) q3 (.h q3 z0)))) tr h2 (nD g1 :) (nD (nC k2) :) k3)) (λg3 k3=>(linz (Z1 c) (X1 b) (.o q0 z0 (.g z0 m0)) tr (Qac h1 :) g3)))) (λg2 k2=>(linz (Z1 c) (X3 b d (Qc c-b)) (.o q0 z0 (.s z0 (.q a01) (.o q1 q2 (.f q2 (.q n0))))) tr (Qac h1 :) h2 (nD g1 :) (nD (nC k2) :))))
theorem om65 {b c:Nat}{a:Int}(h0:¬(a<(b:Int)))(h1:a<((b+c:Nat):Int)):(b:Int)<=a/\a<((b+c:Nat):Int):=⟨Qac λg1=>(linz (Z1 a) (X1 b) (.o q0 z0 (.g z0 q0)) tr (Qac h0 :) g1) ,Qa4 λg2=>(linz (Z1 a) (X2 b c) (.s z0 (.q a01) (.f (.q a01) z0)) tr h1 g2) ⟩
theorem om67 {b:Nat}{a:Int}(h0:¬(a<(b:Int))):(b:Int)<=a:=Qac λg1=>(linz (Z1 a) (X1 b) (.o q0 z0 (.g z0 q0)) tr (Qac h0 :) g1)
theorem om68 {b c:Nat}{a:Int}(h0:¬(a<((b+c:Nat):Int))):¬((b:Int)<=a/\a<((b+c:Nat):Int)):=λg1=>(linz (Z1 a) (X2 b c) (.o (.q a01) z0 (.g z0 (.q a01))) tr (Qac h0 :) (And.right g1 :))
theorem om70 {a c:Nat}{b:Int}(h0:(a:Int)<=b/\b<((a+c:Nat):Int))(h1:b<(a:Int)):False:=linz (Z1 b) (X1 a) (.o q0 z0 (.g z0 q0)) tr (And.left h0 :) h1
theorem om72 {a:Nat}{b:Int}(h0:(a:Int)<=b):0<=b:=Qac λg1=>(linz (Z1 b) (X1 a) (.o q0 z0 (.g z0 m0)) tr h0 g1)
theorem om73 {a:Nat}{b:Int}(h0:(a:Int)<=b):a+(Qc b-a)=Qc b:=nE (nA λg2=>(eTn b (λg3 k3=>(eSub (Qc b) a (λg4 k4=>(lin (X3 (Qc b) a (Qc b-a)) (.s v0 a12 (.h a21 v0)) tr g2 k4)) (λg4 k4=>(linz (Z1 b) (X2 a (Qc b)) (.o q0 z0 (.i z0 q1 (.f (.q p1) q0))) tr h0 k3 (nD g4 :))))) (λg3 k3=>(linz (Z1 b) (X1 a) (.o q0 z0 (.g z0 m0)) tr h0 g3)))) (nA λg5=>(lin (X3 a (Qc b-a) (Qc b)) (.s a01 v2 (.f v2 a10)) tr g5 (Qah (Qc b) a :)))
theorem om74 {a:Nat}(h0:7<=a):a=a-7+7:=nE (nA λg2=>(lin (X2 (a-7) a) (.s (.a v0 (.n 7)) v1 (.f v1 (.a v0 (.n 7)))) tr g2 (Qah a 7 :))) (nA λg3=>(eSub a 7 (λg4 k4=>(lin (X2 a (a-7)) (.s v0 (.a v1 (.n 7)) (.h (.a v1 (.n 7)) v0)) tr g3 k4)) (λg4 k4=>(lin (X1 a) (.o (.n 7) v0 (.g v0 (.n 7))) tr h0 g4))))
theorem om75 {a b:Nat}(h0:a<=b):a+(b-a)=b:=nE (nA λg2=>(eSub b a (λg3 k3=>(lin (X3 b a (b-a)) (.s v0 a12 (.h a21 v0)) tr g2 k3)) (λg3 k3=>(lin (X2 a b) (.o v0 v1 (.g v1 v0)) tr h0 g3)))) (nA λg4=>(lin (X3 a (b-a) b) (.s a01 v2 (.f v2 a10)) tr g4 (Qah b a :)))
theorem om76 {a b c:Nat}(h0:a+b<=c):a<=c:=nA λg1=>(lin (X3 a b c) (.o a01 v2 (.g v2 v0)) tr h0 g1)
theorem om77 {a b c d:Nat}(h0:a<=10*b)(h1:c<=10*d):a+c<=10*(b+d):=nA λg1=>(lin (X4 a b c d) (.o v0 (.m 10 v1) (.o v2 (.m 10 v3) (.g (.m 10 a13) a02))) tr h0 h1 g1)
theorem om78 {a b c d:Nat}(h0:a<=b)(h1:c+b<=d):c+a<=d:=nA λg1=>(lin (X4 a b c d) (.o v0 v1 (.o a21 v3 (.g v3 a20))) tr h0 h1 g1)
theorem om80 {a:Nat}(h0:1<=a):a=a-1+1:=nE (nA λg2=>(lin (X2 (a-1) a) (.s p0 v1 (.f v1 p0)) tr g2 (Qah a 1 :))) (nA λg3=>(eSub a 1 (λg4 k4=>(lin (X2 a (a-1)) (.s v0 p1 (.h p1 v0)) tr g3 k4)) (λg4 k4=>(lin (X1 a) (.o n1 v0 (.g v0 n1)) tr h0 g4))))
theorem om90 {b:Nat}{a:Int}(h0:0<=a/\a<(b:Int)):Qc a<b:=nB λg1=>(eTn a (λg2 k2=>(linz (Z1 a) (X2 b (Qc a)) (.s z0 q0 (.o q0 q1 (.h q1 z0))) tr (And.right h0 :) (nD g1 :) k2)) (λg2 k2=>(linz (Z1 a) [] (.o m0 z0 (.g z0 m0)) tr (And.left h0 :) g2)))
theorem om91 {b:Nat}{a:Int}(h0:0<=a/\a<(b:Int)):((Qc a:Nat):Int)=a:=Qwd (Qac λg2=>(eTn a (λg3 k3=>(linz (Z1 a) (X1 (Qc a)) (.s z0 q0 (.h q0 z0)) tr g2 k3)) (λg3 k3=>(linz (Z1 a) [] (.o m0 z0 (.g z0 m0)) tr (And.left h0 :) g3)))) (Qac λg4=>(eTn a (λg5 k5=>(linz (Z1 a) (X1 (Qc a)) (.s q0 z0 (.j z0 q0)) tr g4 k5)) (λg5 k5=>(linz (Z1 a) [] (.o m0 z0 (.g z0 m0)) tr (And.left h0 :) g5))))
theorem om92 {a b c d e:Nat}(h0:a+(b+c)<=220)(h1:d<=e)(h2:e<=b):a+(d+c)<=220:=nA λg1=>(lin (X5 a b c d e) (.o (.a v0 a12) (.n 220) (.o v3 v4 (.o v4 v1 (.g (.n 220) (.a v0 a32))))) tr h0 h1 h2 g1)
theorem om93 {a b c d:Nat}(h0:a+(b+c)<=220)(h1:d<=b):a+(d+c)<=220:=nA λg1=>(lin (X4 a b c d) (.o (.a v0 a12) (.n 220) (.o v3 v1 (.g (.n 220) (.a v0 a32)))) tr h0 h1 g1)
theorem om94 {b c:Nat}{a:Int}(h0:a<(b:Int)):a<((b+c:Nat):Int):=Qa4 λg1=>(linz (Z1 a) (X2 b c) (.s z0 q0 (.f (.q a01) z0)) tr h0 g1)
theorem om95 {a b c d:Nat}(h0:a=b)(h1:c<d):0<=((b+c:Nat):Int)/\((b+c:Nat):Int)<((b+d:Nat):Int):=⟨Qac λg1=>(linz [] (X2 b c) (.g (.q a01) m0) tr g1) ,Qa4 λg2=>(linz [] (X3 c d b) (.o (.q p0) q1 (.f (.q a21) (.q a20))) tr (nD h1 :) g2) ⟩
theorem om96 {a b:Nat}{c:Int}(h0:a=b)(h1:0<=c)(h2:c<(b:Int)):Qc c<a:=nB λg1=>(eTn c (λg2 k2=>(linz (Z1 c) (X3 b a (Qc c)) (.o q0 q1 (.s z0 q0 (.o q1 q2 (.h q2 z0)))) tr (nD (nC h0.symm) :) h2 (nD g1 :) k2)) (λg2 k2=>(linz (Z1 c) [] (.o m0 z0 (.g z0 m0)) tr h1 g2)))
theorem om97 {a c:Nat}{b d:Int}(h0:(a:Int)<=b/\b<((a+c:Nat):Int))(h1:(a:Int)<=d/\d<((a+c:Nat):Int)):Qc b-a<c:=nB λg1=>(eSub (Qc b) a (λg2 k2=>(eTn b (λg3 k3=>(linz (Z1 b) (X4 a c (Qc b-a) (Qc b)) (.s z0 (.q a01) (.o q1 q2 (.o (.q a20) q3 (.h q3 z0)))) tr (And.right h0 :) (nD g1 :) (nD (nC k2) :) k3)) (λg3 k3=>(linz (Z1 b) (X4 a c (Qc b-a) (Qc b)) (.o q0 z0 (.s z0 (.q a01) (.o q1 q2 (.o q3 (.q n0) (.f q2 q3))))) tr (And.left h0 :) (And.right h0 :) (nD g1 :) (nD (nC k3) :) (nD (Qwq (Qc b) a) :))))) (λg2 k2=>(linz (Z1 b) (X3 a c (Qc b-a)) (.o q0 z0 (.s z0 (.q a01) (.o q1 q2 (.f q2 (.q n0))))) tr (And.left h0 :) (And.right h0 :) (nD g1 :) (nD (nC k2) :))))
theorem om98 {b c:Nat}{a:Int}(h0:a<((b+c:Nat):Int))(h1:¬(a<(b:Int))):(b:Int)<=a/\a<((b+c:Nat):Int):=⟨Qac λg1=>(linz (Z1 a) (X1 b) (.o q0 z0 (.g z0 q0)) tr (Qac h1 :) g1) ,Qa4 λg2=>(linz (Z1 a) (X2 b c) (.s z0 (.q a01) (.f (.q a01) z0)) tr h0 g2) ⟩
theorem om99 {a b d:Nat}{c:Int}(h0:a=b)(h1:0<=c)(h2:c<((b+d:Nat):Int))(h3:¬(c<(b:Int))):Qc c-b<d:=nB λg1=>(eSub (Qc c) b (λg2 k2=>(eTn c (λg3 k3=>(linz (Z1 c) (X4 b d (Qc c-b) (Qc c)) (.s z0 (.q a01) (.o q1 q2 (.o (.q a20) q3 (.h q3 z0)))) tr h2 (nD g1 :) (nD (nC k2) :) k3)) (λg3 k3=>(linz (Z1 c) [] (.o m0 z0 (.g z0 m0)) tr h1 g3)))) (λg2 k2=>(linz (Z1 c) (X3 b d (Qc c-b)) (.s z0 (.q a01) (.o q0 z0 (.o q1 q2 (.f q2 (.q n0))))) tr h2 (Qac h3 :) (nD g1 :) (nD (nC k2) :))))
theorem om100 {a c:Nat}{b d:Int}(h0:(a:Int)<=b/\b<((a+c:Nat):Int))(h1:(a:Int)<=d/\d<((a+c:Nat):Int)):Qc d-a<c:=nB λg1=>(eSub (Qc d) a (λg2 k2=>(eTn d (λg3 k3=>(linz (Z1 d) (X4 a c (Qc d-a) (Qc d)) (.s z0 (.q a01) (.o q1 q2 (.o (.q a20) q3 (.h q3 z0)))) tr (And.right h1 :) (nD g1 :) (nD (nC k2) :) k3)) (λg3 k3=>(linz (Z1 b) (X4 a c (Qc d-a) (Qc d)) (.o q0 z0 (.s z0 (.q a01) (.o q1 q2 (.o q3 (.q n0) (.f q2 q3))))) tr (And.left h0 :) (And.right h0 :) (nD g1 :) (nD (nC k3) :) (nD (Qwq (Qc d) a) :))))) (λg2 k2=>(linz (Z1 b) (X3 a c (Qc d-a)) (.o q0 z0 (.s z0 (.q a01) (.o q1 q2 (.f q2 (.q n0))))) tr (And.left h0 :) (And.right h0 :) (nD g1 :) (nD (nC k2) :))))
theorem om101 {a b:Nat}{c:Int}(h0:a=b)(h1:0<=c)(h2:¬(c<(b:Int))):a<=Qc c:=nA λg1=>(eTn c (λg2 k2=>(linz (Z1 c) (X3 a b (Qc c)) (.o q0 q1 (.o q1 z0 (.o (.q p2) q0 (.j z0 q2)))) tr (nD (nC h0) :) (Qac h2 :) (nD g1 :) k2)) (λg2 k2=>(linz (Z1 c) (X1 b) (.o q0 z0 (.g z0 m0)) tr (Qac h2 :) g2)))
theorem Qu2 {a b:Nat}(h0:a<b):(a:Int)<(b:Int):=Qa4 λg1=>(linz [] (X2 a b) (.o (.q p0) q1 (.f q1 q0)) tr (nD h0 :) g1)
theorem om104 {a b c d:Nat}(h0:a+1=b)(h1:c<d+a)(h2:¬(c<d)):c-d<a:=nB λg1=>(eSub c d (λg2 k2=>(lin (X4 c d a (c-d)) (.s v0 a12 (.o v2 v3 (.h a31 v0))) tr h1 g1 k2)) (λg2 k2=>(lin (X2 d c) (.o v0 v1 (.g v1 v0)) tr (nA h2 :) g2)))
theorem om105 {a b c:Nat}(h0:¬(a<b))(h1:a-b<c):b+(a-b)=a:=nE (nA λg2=>(eSub a b (λg3 k3=>(lin (X3 a b (a-b)) (.s v0 a12 (.h a21 v0)) tr g2 k3)) (λg3 k3=>(lin (X2 b a) (.o v0 v1 (.g v1 v0)) tr (nA h0 :) g3)))) (nA λg4=>(lin (X3 b (a-b) a) (.s a01 v2 (.f v2 a10)) tr g4 (Qah a b :)))
theorem om106 {a b c:Nat}(h0:a-b<c):0<=(a:Int):=Qac λg1=>(linz [] (X1 a) (.g q0 m0) tr g1)
theorem om107 {a b c d:Nat}(h0:a+1=b)(h1:c<d+a)(h2:c-d<a):(c:Int)<((d+a:Nat):Int):=Qa4 λg1=>(linz [] (X3 c d a) (.o (.q p0) (.q a12) (.f (.q a12) q0)) tr (nD h1 :) g1)
theorem om108 {a b c d:Nat}(h0:a+1=b)(h1:c<d+a)(h2:¬(c<d))(h3:c-d<a):(d:Int)<=(c:Int)/\(c:Int)<((d+a:Nat):Int):=⟨Qac λg1=>(linz [] (X2 d c) (.o q0 q1 (.g q1 q0)) tr (nD (nA h2) :) g1) ,Qa4 λg2=>(linz [] (X3 c d a) (.o (.q p0) (.q a12) (.f (.q a12) q0)) tr (nD h1 :) g2) ⟩
theorem om109 {a b c:Nat}{d:Int}(h0:a-b<c)(h1:0<=d/\d<(b:Int)):Qc d<b:=nB λg1=>(eTn d (λg2 k2=>(linz (Z1 d) (X2 b (Qc d)) (.s z0 q0 (.o q0 q1 (.h q1 z0))) tr (And.right h1 :) (nD g1 :) k2)) (λg2 k2=>(linz (Z1 d) [] (.o m0 z0 (.g z0 m0)) tr (And.left h1 :) g2)))
theorem om110 {a b c:Nat}{d:Int}(h0:a-b<c)(h1:0<=d/\d<(b:Int)):((Qc d:Nat):Int)=d:=Qwd (Qac λg2=>(eTn d (λg3 k3=>(linz (Z1 d) (X1 (Qc d)) (.s z0 q0 (.h q0 z0)) tr g2 k3)) (λg3 k3=>(linz (Z1 d) [] (.o m0 z0 (.g z0 m0)) tr (And.left h1 :) g3)))) (Qac λg4=>(eTn d (λg5 k5=>(linz (Z1 d) (X1 (Qc d)) (.s q0 z0 (.j z0 q0)) tr g4 k5)) (λg5 k5=>(linz (Z1 d) [] (.o m0 z0 (.g z0 m0)) tr (And.left h1 :) g5))))
theorem om111:(0:Int)<=0:=Qac λg1=>(linz [] [] (.g m0 m0) tr g1)
theorem om112 {a:Nat}(h0:1<=a):0<(a:Int):=Qa4 λg1=>(linz [] (X1 a) (.o (.q n1) q0 (.f q0 m0)) tr (nD h0 :) g1)
theorem om113 {b c:Nat}{a:Int}(h0:0<=a/\a<((b+c:Nat):Int))(h1:a<(b:Int)):0<=a/\a<(b:Int):=⟨Qac λg1=>(linz (Z1 a) [] (.o m0 z0 (.g z0 m0)) tr (And.left h0 :) g1) ,Qa4 λg2=>(linz (Z1 a) (X1 b) (.s z0 q0 (.f q0 z0)) tr h1 g2) ⟩
theorem om114 {a c:Nat}{b:Int}(h0:(a:Int)<=b/\b<((a+c:Nat):Int))(h1:0<=b/\b<(a:Int)):False:=linz (Z1 b) (X1 a) (.o q0 z0 (.g z0 q0)) tr (And.left h0 :) (And.right h1 :)
theorem om115 {a c:Nat}{b:Int}(h0:(a:Int)<=b/\b<((a+c:Nat):Int)):0<=b:=Qac λg1=>(linz (Z1 b) (X1 a) (.o q0 z0 (.g z0 m0)) tr (And.left h0 :) g1)
theorem om116 {a b c:Nat}{d:Int}(h0:a+1=b)(h1:b<=6)(h2:(c:Int)<=d/\d<((c+a:Nat):Int)):0<=d/\d<((c+a:Nat):Int):=⟨Qac λg1=>(linz (Z1 d) (X1 c) (.o q0 z0 (.g z0 m0)) tr (And.left h2 :) g1) ,Qa4 λg2=>(linz (Z1 d) (X2 c a) (.s z0 (.q a01) (.f (.q a01) z0)) tr (And.right h2 :) g2) ⟩
theorem om117 {a b d:Nat}{c:Int}(h0:a<=6)(h1:b+1=a)(h2:0<=c/\c<(d:Int)):0<=c/\c<((d+b:Nat):Int):=⟨Qac λg1=>(linz (Z1 c) [] (.o m0 z0 (.g z0 m0)) tr (And.left h2 :) g1) ,Qa4 λg2=>(linz (Z1 c) (X2 d b) (.s z0 q0 (.f (.q a01) z0)) tr (And.right h2 :) g2) ⟩
theorem om118 {a b d:Nat}{c:Int}(h0:a+1=b)(h1:b<=6)(h2:0<=c/\c<(d:Int)):0<=c/\c<((d+a:Nat):Int):=⟨Qac λg1=>(linz (Z1 c) [] (.o m0 z0 (.g z0 m0)) tr (And.left h2 :) g1) ,Qa4 λg2=>(linz (Z1 c) (X2 d a) (.s z0 q0 (.f (.q a01) z0)) tr (And.right h2 :) g2) ⟩
theorem om119 {a b:Nat}(h0:a+1=b)(h1:b<=6):1<=b:=nA λg1=>(lin (X2 a b) (.e p0 v1 (.g v1 n1)) tr h0 g1)
theorem om120 {a b:Nat}(h0:a+1=b)(h1:b<=6):b-1=a:=nE (nA λg2=>(eSub b 1 (λg3 k3=>(lin (X3 b a (b-1)) (.i v0 p1 (.s v1 v2 (.h p2 v0))) tr h0 g2 k3)) (λg3 k3=>(lin (X2 a (b-1)) (.s v0 v1 (.h v1 n0)) tr g2 k3)))) (nA λg4=>(lin (X3 a b (b-1)) (.e p0 v1 (.s v2 v0 (.f v1 p2))) tr h0 g4 (Qah b 1 :)))
theorem om121 {a b c d e f:Nat}(h0:a+1=b)(h1:c+(d+e)<=220)(h2:a+(f+f)<=d):c+a+(f+(f+e))<=220:=nA λg1=>(lin (X5 c d e a f) (.o (.a v0 a12) (.n 220) (.o (.a v3 (.a v4 v4)) v1 (.g (.n 220) (.a a03 (.a v4 a42))))) tr h1 h2 g1)
theorem om122 {a b c:Nat}(h0:a<min b c)(h1:b<c)(h2:a=b):False:=eMin b c (λg2 k2=>(lin (X3 a (min b c) b) (.s v0 v1 (.i v2 v0 (.h v1 v2))) tr h0 h2 k2)) (λg2 k2=>(lin (X2 b c) (.s v0 v1 (.f v1 v0)) tr h1 g2))
theorem om123 {a b c:Nat}(h0:a<b)(h1:c=b):a<c:=nB λg1=>(lin (X3 a b c) (.s v0 v1 (.i v1 v2 (.f v2 v0))) tr h0 h1 g1)
theorem om127 {a b:Nat}:a+1+b=a+(b+1):=nE (nA λg2=>(lin (X2 a b) (.g (.a v0 p1) (.a p0 v1)) tr g2)) (nA λg3=>(lin (X2 a b) (.g (.a p0 v1) (.a v0 p1)) tr g3))
theorem om128 {a b:Nat}(h0:a<=300):min b a<=300:=nA λg1=>(eMin b a (λg2 k2=>(lin (X3 a (min b a) b) (.o v0 (.n 300) (.s (.n 300) v1 (.o v2 v0 (.h v1 v2)))) tr h0 g1 g2 k2)) (λg2 k2=>(lin (X2 a (min b a)) (.o v0 (.n 300) (.s (.n 300) v1 (.h v1 v0))) tr h0 g1 k2)))
theorem om129 {a b:Nat}:(a:Int)+(b:Int)=((a+b:Nat):Int):=Qwd (Qac λg2=>(linz [] (X2 a b) (.g (.q a01) (.a q0 q1)) tr g2)) (Qac λg3=>(linz [] (X2 a b) (.g (.a q0 q1) (.q a01)) tr g3))
theorem om130 {a b c d:Nat}(h0:a=b)(h1:c<b)(h2:d=b):c<d:=nB λg1=>(lin (X3 c b d) (.s v0 v1 (.i v1 v2 (.f v2 v0))) tr h1 h2 g1)
theorem om131 {a b c d:Nat}(h0:a=b)(h1:c<b)(h2:d=b):(c:Int)<(d:Int):=Qa4 λg1=>(linz [] (X3 c b d) (.o (.q p0) q1 (.o q1 q2 (.f q2 q0))) tr (nD h1 :) (nD (nC h2.symm) :) g1)
theorem om132 {a b:Nat}{c:Int}(h0:a=b)(h1:0<=c)(h2:c<(b:Int)):Qc c<b:=nB λg1=>(eTn c (λg2 k2=>(linz (Z1 c) (X2 b (Qc c)) (.s z0 q0 (.o q0 q1 (.h q1 z0))) tr h2 (nD g1 :) k2)) (λg2 k2=>(linz (Z1 c) [] (.o m0 z0 (.g z0 m0)) tr h1 g2)))
theorem om133 {a b:Nat}{c:Int}(h0:a=b)(h1:Qc c<b):Qc c<a:=nB λg1=>(lin (X3 b a (Qc c)) (.i v0 v1 (.s v2 v0 (.f v1 v2))) tr h0 h1 g1)
theorem om137 {a:Int}(h0:0<=a)(h1:a<=0):a=0:=Qwd (Qac λg2=>(linz (Z1 a) [] (.o z0 m0 (.g m0 z0)) tr h1 g2)) (Qac λg3=>(linz (Z1 a) [] (.o m0 z0 (.g z0 m0)) tr h0 g3))
theorem om138 {a b c:Nat}(h0:a<=b)(h1:1<=c):a+1<=c+b:=nA λg1=>(lin (X3 a b c) (.o v0 v1 (.o n1 v2 (.g a21 p0))) tr h0 h1 g1)
theorem om139 {a b:Nat}(h0:a+1=b):a+1+1=b+1:=nE (nA λg2=>(lin (X2 a b) (.e p0 v1 (.g p1 (.a p0 n1))) tr h0 g2)) (nA λg3=>(lin (X2 b a) (.i v0 p1 (.g (.a p1 n1) p0)) tr h0 g3))
theorem om141 {a b c:Nat}(h0:2*a<=b)(h1:2<=c):2*(a+1)<=c+b:=nA λg1=>(lin (X3 a b c) (.o (.m 2 v0) v1 (.o n2 v2 (.g a21 (.m 2 p0)))) tr h0 h1 g1)
theorem Qsh {a b:Nat}(h0:a+b<=220):a<=220:=nA λg1=>(lin (X2 a b) (.o a01 (.n 220) (.g (.n 220) v0)) tr h0 g1)
theorem om143 {a:Nat}(h0:a<=220):Qc (a:Int)<=300:=nA λg1=>(eTn (a:Int) (λg2 k2=>(linz [] (X2 a (Qc (a:Int))) (.o q0 (.q (.n 220)) (.o (.q (.a (.n 300) n1)) q1 (.h q1 q0))) tr (nD h0 :) (nD g1 :) k2)) (λg2 k2=>(linz [] (X1 a) (.g q0 m0) tr g2)))
theorem Qm3 {a:Nat}(h0:a<=220):a<=300:=nA λg1=>(lin (X1 a) (.o v0 (.n 220) (.g (.n 300) v0)) tr h0 g1)
theorem om145 {a:Nat}(h0:a<=220):a<=1000:=nA λg1=>(lin (X1 a) (.o v0 (.n 220) (.g (.n 1000) v0)) tr h0 g1)
theorem om146 {a b:Nat}(h0:a<=220)(h1:b<=a):b<400:=nB λg1=>(lin (X2 a b) (.o v0 (.n 220) (.o v1 v0 (.f (.n 400) v1))) tr h0 h1 g1)
theorem om148 {a:Nat}(h0:2<=a):0<a:=nB λg1=>(lin (X1 a) (.o n2 v0 (.f v0 n0)) tr h0 g1)
theorem Qu1 {a:Nat}(h0:1<=a):0<a:=nB λg1=>(lin (X1 a) (.o n1 v0 (.f v0 n0)) tr h0 g1)
theorem om150 {a b:Nat}(h0:2<=a)(h1:b+1=a):1<=a:=nA λg1=>(lin (X1 a) (.o n2 v0 (.g v0 n1)) tr h0 g1)
theorem om151 {a b:Nat}(h0:2<=a)(h1:b+1=a):a-1=b:=nE (nA λg2=>(eSub a 1 (λg3 k3=>(lin (X3 a b (a-1)) (.i v0 p1 (.s v1 v2 (.h p2 v0))) tr h1 g2 k3)) (λg3 k3=>(lin (X2 b (a-1)) (.s v0 v1 (.h v1 n0)) tr g2 k3)))) (nA λg4=>(lin (X3 b a (a-1)) (.e p0 v1 (.s v2 v0 (.f v1 p2))) tr h1 g4 (Qah a 1 :)))
theorem om152 {a:Nat}(h0:1<(a:Int)):2<=a:=nA λg1=>(linz [] (X1 a) (.s m1 q0 (.f (.q p0) (.q n2))) tr h0 (nD g1 :))
theorem om153 {a b c:Int}(h0:a<b)(h1:c=a):¬(c=b):=λg1=>(linz (Z3 a b c) [] (.s z0 z1 (.e z2 z0 (.j z1 z2))) tr h0 h1 g1)
theorem om155 {a b c d e f i j:Nat}(h0:a+b+c+d<=e+f)(h1:i+i<a)(h2:j=0):b+i+(c+(i+j))+(d+1)<=e+f:=nA λg1=>(lin (X8 a b c d e f i j) (.o (.a (.a a01 v2) v3) (.a v4 v5) (.s (.a v6 v6) v0 (.e v7 n0 (.g (.a v4 v5) (.a (.a (.a v1 v6) (.a v2 (.a v6 v7))) p3))))) tr h0 h1 h2 g1)
theorem om156 {a b c:Nat}(h0:2<=a)(h1:b+1=a)(h2:c=b):1<=b:=nA λg1=>(lin (X2 a b) (.o n2 v0 (.i v0 p1 (.g v1 n1))) tr h0 h1 g1)
theorem om157 {a:Nat}:1<((a+1+1:Nat):Int):=Qa4 λg1=>(linz [] (X1 a) (.f (.q (.a p0 n1)) m1) tr g1)
theorem om158 {a b:Nat}(h0:a+1=b):a<=b:=nA λg1=>(lin (X2 a b) (.e p0 v1 (.g v1 v0)) tr h0 g1)
theorem om159 {a b c d e f i:Nat}(h0:a+b+c+d<=e+f)(h1:i+i<a)(h2:1<=i):b+i+c+(d+1)<=e+f:=nA λg1=>(lin (X7 a b c d e f i) (.o (.a (.a a01 v2) v3) (.a v4 v5) (.s (.a v6 v6) v0 (.g (.a v4 v5) (.a (.a (.a v1 v6) v2) p3)))) tr h0 h1 g1)
theorem om160 {a b c d e f i:Nat}(h0:a+b+c+(d+1)<=e+f)(h1:i=0):a+(c+(b+i))+(d+1)<=e+f:=nA λg1=>(lin (X7 a b c d e f i) (.o (.a (.a a01 v2) p3) (.a v4 v5) (.e v6 n0 (.g (.a v4 v5) (.a (.a v0 (.a v2 (.a v1 v6))) p3)))) tr h0 h1 g1)
theorem om161 {a b:Nat}(h0:2<=a)(h1:b+1=a):1<=b:=nA λg1=>(lin (X2 a b) (.o n2 v0 (.i v0 p1 (.g v1 n1))) tr h0 h1 g1)
theorem om162 {a:Nat}(h0:2<=a):1<=a:=nA λg1=>(lin (X1 a) (.o n2 v0 (.g v0 n1)) tr h0 g1)
theorem om163 {a b c d:Nat}(h0:1<=a)(h1:0+b+c<=0+d):b<d+a:=nB λg1=>(lin (X4 a b c d) (.o n1 v0 (.o (.a (.a n0 v1) v2) (.a n0 v3) (.f a30 v1))) tr h0 h1 g1)
theorem om164 {a b c d e f:Nat}(h0:0+a+b<=c+d)(h1:c<=e)(h2:f=e)(h3:1<=b):a<d+e:=nB λg1=>(lin (X5 a b c d e) (.o (.a (.a n0 v0) v1) a23 (.o v2 v4 (.o n1 v1 (.f a34 v0)))) tr h0 h1 h3 g1)
theorem om165 {a b:Int}:0<=max 0 (a-b):=Qac λg1=>(Qi1 0 (a-b) (λg2 k2=>(linz (Z3 (max 0 (a-b)) a b) [] (.s z0 m0 (.o m0 (.s z1 z2) (.j (.s z1 z2) z0))) tr g1 g2 k2)) (λg2 k2=>(linz (Z1 (max 0 (a-b))) [] (.s z0 m0 (.j m0 z0)) tr g1 k2)))
theorem om166 {a b c:Int}(h0:0<=a)(h1:a<b)(h2:0<=c/\c<4):max 0 (a-c)<=b:=Qac λg1=>(Qi1 0 (a-c) (λg2 k2=>(linz (Z4 a b c (max 0 (a-c))) [] (.s z0 z1 (.o m0 z2 (.s z1 z3 (.h z3 (.s z0 z2))))) tr h1 (And.left h2 :) g1 k2)) (λg2 k2=>(linz (Z3 a b (max 0 (a-c))) [] (.o m0 z0 (.s z0 z1 (.s z1 z2 (.h z2 m0)))) tr h0 h1 g1 k2)))
theorem om167 {b:Nat}{a:Int}(h0:0<=a)(h1:(b:Int)<=a):b<=Qc a:=nA λg1=>(eTn a (λg2 k2=>(linz (Z1 a) (X2 b (Qc a)) (.o q0 z0 (.o (.q p1) q0 (.j z0 q1))) tr h1 (nD g1 :) k2)) (λg2 k2=>(linz (Z1 a) [] (.o m0 z0 (.g z0 m0)) tr h0 g2)))
theorem om170 {a b c:Int}(h0:0<=a)(h1:a<b)(h2:0<=c/\c<3):0<=min b (a+1+c):=Qac λg1=>(Qj0 b (a+1+c) (λg2 k2=>(linz (Z3 a b (min b (a+1+c))) [] (.o m0 z0 (.s z0 z1 (.s z2 m0 (.j z1 z2)))) tr h0 h1 g1 k2)) (λg2 k2=>(linz (Z3 a c (min b (a+1+c))) [] (.o m0 z0 (.o m0 z1 (.s z2 m0 (.j (.a (.a z0 m1) z1) z2)))) tr h0 (And.left h2 :) g1 k2)))
theorem om171 {a b c:Int}:min a (b+1+c)<=a:=Qac λg1=>(Qj0 a (b+1+c) (λg2 k2=>(linz (Z2 a (min a (b+1+c))) [] (.s z0 z1 (.h z1 z0)) tr g1 k2)) (λg2 k2=>(linz (Z4 a (min a (b+1+c)) b c) [] (.s z0 z1 (.o (.a (.a z2 m1) z3) z0 (.h z1 (.a (.a z2 m1) z3)))) tr g1 g2 k2)))
theorem Qsg {a b c:Nat}(h0:a<=b)(h1:b<c):a<c:=nB λg1=>(lin (X3 a b c) (.o v0 v1 (.s v1 v2 (.f v2 v0))) tr h0 h1 g1)
theorem Qm2 {a b:Nat}(h0:a<b):a+1<=b:=nA λg1=>(lin (X2 a b) (.s v0 v1 (.g v1 p0)) tr h0 g1)
theorem Qu0 {b:Nat}{a:Int}(h0:a<(b:Int)):¬(a=(b:Int)):=λg1=>(linz (Z1 a) (X1 b) (.s z0 q0 (.j q0 z0)) tr h0 g1)
theorem om178 {b:Nat}{a:Int}(h0:¬(a=(b:Int)))(h1:0<=a/\a<=(b:Int)):a<(b:Int):=Qa4 λg1=>(eNeZ h0 (λg2=>(linz (Z1 a) (X1 b) (.o q0 z0 (.g z0 q0)) tr g1 g2)) (λg2=>(linz (Z1 a) (X1 b) (.o z0 q0 (.g q0 z0)) tr (And.right h1 :) g2)))
theorem om179 {a b:Int}(h0:0<=a)(h1:a<b):0<b+1:=Qa4 λg1=>(linz (Z2 a b) [] (.o m0 z0 (.s z0 z1 (.f (.a z1 m1) m0))) tr h0 h1 g1)
theorem om180 {a b:Nat}(h0:(a:Int)=(b:Int)):0<=(b:Int):=Qac λg1=>(linz [] (X1 b) (.g q0 m0) tr g1)
theorem om181 {a b:Nat}(h0:(a:Int)=(b:Int))(h1:b<=300):Qc (b:Int)<=1000000:=nA λg1=>(eTn (b:Int) (λg2 k2=>(linz [] (X2 b (Qc (b:Int))) (.o q0 (.q (.n 300)) (.o (.q (.a (.n 1000000) n1)) q1 (.h q1 q0))) tr (nD h1 :) (nD g1 :) k2)) (λg2 k2=>(lin (X1 (Qc (b:Int))) (.s (.n 1000000) v0 (.h v0 n0)) tr g1 k2)))
theorem om182 {a b:Nat}(h0:(a:Int)=(b:Int))(h1:b<=300):b<=1000000:=nA λg1=>(lin (X1 b) (.o v0 (.n 300) (.g (.n 1000000) v0)) tr h1 g1)
theorem om183 {b:Nat}{a:Int}(h0:a<(b:Int)):a<(b:Int):=Qa4 λg1=>(linz (Z1 a) (X1 b) (.s z0 q0 (.f q0 z0)) tr h0 g1)
theorem om184 {a:Nat}:1+a=a+1:=nE (nA λg2=>(lin (X1 a) (.g p0 (.a n1 v0)) tr g2)) (nA λg3=>(lin (X1 a) (.g (.a n1 v0) p0) tr g3))
theorem om185 {b c d e:Nat}{a f:Int}(h0:0<=a)(h1:a<(b:Int))(h2:b<=300)(h3:c+d=b+e)(h4:0<=f/\f<(b:Int)):Qc f<b:=nB λg1=>(eTn f (λg2 k2=>(linz (Z1 f) (X2 b (Qc f)) (.s z0 q0 (.o q0 q1 (.h q1 z0))) tr (And.right h4 :) (nD g1 :) k2)) (λg2 k2=>(linz (Z1 f) [] (.o m0 z0 (.g z0 m0)) tr (And.left h4 :) g2)))
theorem om186 {a:Int}(h0:0<=a/\a<14):1<=7+a:=Qac λg1=>(linz (Z1 a) [] (.o m0 z0 (.g (.a (.n 7) z0) m1)) tr (And.left h0 :) g1)
theorem om187 {a:Int}(h0:0<=a/\a<14):7+a<=20:=Qac λg1=>(linz (Z1 a) [] (.s z0 (.n 14) (.g (.n 20) (.a (.n 7) z0))) tr (And.right h0 :) g1)
theorem om188 {a:Int}(h0:0<=a/\a<6):1<=1+a:=Qac λg1=>(linz (Z1 a) [] (.o m0 z0 (.g (.a m1 z0) m1)) tr (And.left h0 :) g1)
theorem om189 {a:Int}(h0:0<=a/\a<6):1+a<=20:=Qac λg1=>(linz (Z1 a) [] (.s z0 (.n 6) (.g (.n 20) (.a m1 z0))) tr (And.right h0 :) g1)
theorem om190 {a b c d:Nat}(h0:a<=b)(h1:a+c=b+(d+1)):a+(c-1)=b+d:=nE (nA λg2=>(eSub c 1 (λg3 k3=>(lin (X5 a c b d (c-1)) (.e a01 (.a v2 p3) (.s a23 a04 (.h p4 v1))) tr h1 g2 k3)) (λg3 k3=>(lin (X4 a b d (c-1)) (.o v0 v1 (.s a12 a03 (.h v3 n0))) tr h0 g2 k3)))) (nA λg4=>(lin (X5 b d a c (c-1)) (.i (.a v0 p1) a23 (.s a24 a01 (.f v3 p4))) tr h1 g4 (Qah c 1 :)))
theorem om191 {a:Int}(h0:1<=a)(h1:a<=20):0<=a:=Qac λg1=>(linz (Z1 a) [] (.o m1 z0 (.g z0 m0)) tr h0 g1)
theorem om192 {a:Int}(h0:1<=a)(h1:a<=20):Qc a<=1000000:=nA λg1=>(eTn a (λg2 k2=>(linz (Z1 a) (X1 (Qc a)) (.o z0 (.n 20) (.o (.q (.a (.n 1000000) n1)) q0 (.h q0 z0))) tr h1 (nD g1 :) k2)) (λg2 k2=>(linz (Z1 a) [] (.o m1 z0 (.g z0 m0)) tr h0 g2)))
theorem om193 {a:Int}(h0:1<=a)(h1:a<=20):((Qc a:Nat):Int)=a:=Qwd (Qac λg2=>(eTn a (λg3 k3=>(linz (Z1 a) (X1 (Qc a)) (.s z0 q0 (.h q0 z0)) tr g2 k3)) (λg3 k3=>(linz (Z1 a) [] (.o m1 z0 (.g z0 m0)) tr h0 g3)))) (Qac λg4=>(eTn a (λg5 k5=>(linz (Z1 a) (X1 (Qc a)) (.s q0 z0 (.j z0 q0)) tr g4 k5)) (λg5 k5=>(linz (Z1 a) [] (.o m1 z0 (.g z0 m0)) tr h0 g5))))
theorem om194 {a:Int}(h0:1<=a)(h1:a<=20)(h2:((Qc a:Nat):Int)=a):a<=((1000000:Nat):Int):=Qac λg1=>(linz (Z1 a) [] (.o z0 (.n 20) (.g (.q (.n 1000000)) z0)) tr h1 g1)
theorem om195 {a b:Nat}(h0:a=b):0<=8+(b:Int):=Qac λg1=>(linz [] (X1 b) (.g (.a (.n 8) q0) m0) tr g1)
theorem om196 {a b:Nat}(h0:a=b):0<=(b:Int):=Qac λg1=>(linz [] (X1 b) (.g q0 m0) tr g1)
theorem om197 {b:Nat}{a:Int}(h0:((Qc a:Nat):Int)=a)(h1:b<Qc a):(b:Int)<a:=Qa4 λg1=>(linz (Z1 a) (X2 (Qc a) b) (.e q0 z0 (.o (.q p1) q0 (.f z0 q1))) tr h0 (nD h1 :) g1)
theorem om198 {b:Nat}{a:Int}(h0:((Qc a:Nat):Int)=a)(h1:b=Qc a):(b:Int)=a:=Qwd (Qac λg2=>(linz (Z1 a) (X2 (Qc a) b) (.e q0 z0 (.o q1 q0 (.g z0 q1))) tr h0 (nD (nC h1) :) g2)) (Qac λg3=>(linz (Z1 a) (X2 (Qc a) b) (.i z0 q0 (.o q0 q1 (.g q1 z0))) tr h0 (nD (nC h1.symm) :) g3))
theorem om199 {b:Nat}{a:Int}(h0:1<=a)(h1:a<=20)(h2:((Qc a:Nat):Int)=a)(h3:b=Qc a):1<=b:=nA λg1=>(linz (Z1 a) (X2 (Qc a) b) (.o m1 z0 (.i z0 q0 (.o q0 q1 (.f (.q p1) (.q n1))))) tr h0 h2 (nD (nC h3.symm) :) (nD g1 :))
theorem om200 {b:Nat}{a:Int}(h0:1<=a)(h1:a<=20)(h2:((Qc a:Nat):Int)=a)(h3:b=Qc a):b<=300:=nA λg1=>(linz (Z1 a) (X2 (Qc a) b) (.o z0 (.n 20) (.e q0 z0 (.o q1 q0 (.f (.q (.a (.n 300) n1)) q1)))) tr h1 h2 (nD (nC h3) :) (nD g1 :))
theorem om201 {b:Nat}{a:Int}(h0:1<=a)(h1:a<=20)(h2:((Qc a:Nat):Int)=a)(h3:b=Qc a):b<=20:=nA λg1=>(linz (Z1 a) (X2 (Qc a) b) (.o z0 (.n 20) (.e q0 z0 (.o q1 q0 (.f (.q (.a (.n 20) n1)) q1)))) tr h1 h2 (nD (nC h3) :) (nD g1 :))
theorem om202 {a:Int}(h0:0<=a)(h1:a<4):0<=a:=Qac λg1=>(linz (Z1 a) [] (.o m0 z0 (.g z0 m0)) tr h0 g1)
theorem om203 {a:Int}(h0:0<=a)(h1:a<4):a<=4-1:=Qac λg1=>(linz (Z1 a) [] (.s z0 m4 (.g (.s m4 m1) z0)) tr h1 g1)
theorem om204 {a b:Nat}(h0:1<=a)(h1:a<=300)(h2:a<=20)(h3:b=a):1<=(b:Int):=Qac λg1=>(linz [] (X2 a b) (.o (.q n1) q0 (.o q0 q1 (.g q1 m1))) tr (nD h0 :) (nD (nC h3.symm) :) g1)
theorem om205 {a b:Nat}(h0:1<=a)(h1:a<=300)(h2:a<=20)(h3:b=a):(b:Int)<=20:=Qac λg1=>(linz [] (X2 a b) (.o q0 (.q (.n 20)) (.o q1 q0 (.g (.n 20) q1))) tr (nD h2 :) (nD (nC h3) :) g1)
theorem om208 {a b c d e f:Nat}(h0:a+b=c+d)(h1:e+(b-1)=c+f):e+1+(b-1)=c+(f+1):=nE (nA λg2=>(lin (X4 e (b-1) c f) (.e a01 a23 (.g (.a v2 p3) (.a p0 v1))) tr h1 g2)) (nA λg3=>(lin (X4 c f e (b-1)) (.i a01 a23 (.g (.a p2 v3) (.a v0 p1))) tr h1 g3))
theorem om209 {a b c d e f:Nat}(h0:a<=300)(h1:b<=a)(h2:c+b=a+d)(h3:e+(b-1)=a+f):b-1<=a:=nA λg1=>(lin (X3 b a (b-1)) (.o v0 v1 (.s v1 v2 (.f v2 v0))) tr h1 g1 (Qwq b 1 :))
theorem om210 {a b c d e f:Nat}(h0:a+(b-1)=c+d)(h1:e<=c)(h2:e+b=c+(f+1)):b-1<b:=nB λg1=>(eSub b 1 (λg2 k2=>(lin (X2 b (b-1)) (.o v0 v1 (.h p1 v0)) tr g1 k2)) (λg2 k2=>(lin (X4 e c f b) (.o v0 v1 (.i (.a v1 p2) a03 (.g v3 n1))) tr h1 h2 g2)))
theorem om211 {b:Nat}{a:Int}(h0:Qc a<b)(h1:0<=a):a<(b:Int):=Qa4 λg1=>(eTn a (λg2 k2=>(linz (Z1 a) (X2 (Qc a) b) (.o (.q p0) q1 (.o q1 z0 (.j z0 q0))) tr (nD h0 :) g1 k2)) (λg2 k2=>(linz (Z1 a) [] (.o m0 z0 (.g z0 m0)) tr h1 g2)))
theorem om212 {b:Nat}{a c:Int}(h0:0<=a/\a<(b:Int))(h1:0<=c/\c<(b:Int)):Qc c<b:=nB λg1=>(eTn c (λg2 k2=>(linz (Z1 c) (X2 b (Qc c)) (.s z0 q0 (.o q0 q1 (.h q1 z0))) tr (And.right h1 :) (nD g1 :) k2)) (λg2 k2=>(linz (Z1 a) (X2 b (Qc c)) (.o m0 z0 (.s z0 q0 (.o q0 q1 (.f q1 (.q n0))))) tr (And.left h0 :) (And.right h0 :) (nD g1 :) (nD (nC k2) :))))
theorem Quz {a b:Nat}(h0:a<b):0<=(a:Int)/\(a:Int)<(b:Int):=⟨Qac λg1=>(linz [] (X1 a) (.g q0 m0) tr g1) ,Qa4 λg2=>(linz [] (X2 a b) (.o (.q p0) q1 (.f q1 q0)) tr (nD h0 :) g2) ⟩
theorem om214 {b d:Nat}{a c:Int}(h0:0<=a/\a<(b:Int))(h1:0<=c/\c<(b:Int))(h2:Qc c=Qc a)(h3:d=Qc c):a=c:=Qwd (Qac λg2=>(eTn c (λg3 k3=>(eTn a (λg4 k4=>(linz (Z2 c a) (X2 (Qc a) (Qc c)) (.o q0 q1 (.s z0 z1 (.e q1 z0 (.j z1 q0)))) tr (nD (nC h2.symm) :) g2 k3 k4)) (λg4 k4=>(linz (Z1 a) [] (.o m0 z0 (.g z0 m0)) tr (And.left h0 :) g4)))) (λg3 k3=>(linz (Z1 c) [] (.o m0 z0 (.g z0 m0)) tr (And.left h1 :) g3)))) (Qac λg5=>(eTn c (λg6 k6=>(eTn a (λg7 k7=>(linz (Z2 a c) (X2 (Qc c) (Qc a)) (.o q0 q1 (.s z0 z1 (.i z1 q0 (.h q1 z0)))) tr (nD (nC h2) :) g5 k6 k7)) (λg7 k7=>(linz (Z1 a) [] (.o m0 z0 (.g z0 m0)) tr (And.left h0 :) g7)))) (λg6 k6=>(linz (Z2 a c) [] (.o m0 z0 (.s z0 z1 (.g z1 m0))) tr (And.left h0 :) g5 g6))))
theorem om215 {a b:Nat}(h0:a<b):¬((a:Int)=(b:Int)):=λg1=>(linz [] (X2 a b) (.o (.q p0) q1 (.j q1 q0)) tr (nD h0 :) g1)
theorem om216 {a b:Nat}{c:Int}(h0:a<b)(h1:(a:Int)=c):0<=c/\c<(b:Int):=⟨Qac λg1=>(linz (Z1 c) (X1 a) (.e q0 z0 (.g z0 m0)) tr h1 g1) ,Qa4 λg2=>(linz (Z1 c) (X2 a b) (.o (.q p0) q1 (.i z0 q0 (.f q1 z0))) tr (nD h0 :) h1 g2) ⟩
theorem om217 {a b c:Nat}(h0:a<=b)(h1:b+c<=220):a<=300:=nA λg1=>(lin (X3 a b c) (.o v0 v1 (.o a12 (.n 220) (.g (.n 300) v0))) tr h0 h1 g1)
theorem om218 {a b:Nat}(h0:a<b):0<=(a:Int)/\(a:Int)<=(b:Int):=⟨Qac λg1=>(linz [] (X1 a) (.g q0 m0) tr g1) ,Qac λg2=>(linz [] (X2 a b) (.o (.q p0) q1 (.g q1 q0)) tr (nD h0 :) g2) ⟩
theorem om219 {a b:Nat}(h0:a<b):(a:Int)<=(b:Int):=Qac λg1=>(linz [] (X2 a b) (.o (.q p0) q1 (.g q1 q0)) tr (nD h0 :) g1)
theorem om220 {a b:Int}(h0:a<=b)(h1:b<=a):a=b:=Qwd (Qac λg2=>(linz (Z2 a b) [] (.o z0 z1 (.g z1 z0)) tr h0 g2)) (Qac λg3=>(linz (Z2 b a) [] (.o z0 z1 (.g z1 z0)) tr h1 g3))
theorem om221 {a b d:Nat}{c:Int}(h0:a<b)(h1:0<=c/\c<(d:Int)):Qc c<d:=nB λg1=>(eTn c (λg2 k2=>(linz (Z1 c) (X2 d (Qc c)) (.s z0 q0 (.o q0 q1 (.h q1 z0))) tr (And.right h1 :) (nD g1 :) k2)) (λg2 k2=>(linz (Z1 c) [] (.o m0 z0 (.g z0 m0)) tr (And.left h1 :) g2)))
theorem om222 {a b c:Nat}(h0:a<=20)(h1:b<=a)(h2:c<=10*b):b+(c+0)<=220:=nA λg1=>(lin (X3 a b c) (.c 11 v0 (.n 20) (.c 11 v1 v0 (.o v2 (.m 10 v1) (.g (.n 220) (.a v1 (.a v2 n0)))))) tr h0 h1 h2 g1)
theorem om223 {a b c:Int}(h0:a<=b)(h1:b<c):a<=c:=Qac λg1=>(linz (Z3 a b c) [] (.o z0 z1 (.s z1 z2 (.g z2 z0))) tr h0 h1 g1)
theorem om225 {a:Nat}(h0:6<a)(h1:a<=6):False:=lin (X1 a) (.s (.n 6) v0 (.f v0 (.n 6))) tr h0 h1
theorem om226 {a b:Int}(h0:0<=a)(h1:((Qc a:Nat):Int)<b):a<b:=Qa4 λg1=>(eTn a (λg2 k2=>(linz (Z2 b a) (X1 (Qc a)) (.s q0 z0 (.o z0 z1 (.j z1 q0))) tr h1 g1 k2)) (λg2 k2=>(linz (Z1 a) [] (.o m0 z0 (.g z0 m0)) tr h0 g2)))
theorem om227 {a b:Nat}(h0:¬(a<b))(h1:a<b+1):a=b:=nE (nA λg2=>(lin (X2 a b) (.s v0 p1 (.g v1 v0)) tr h1 g2)) (nA λg3=>(lin (X2 b a) (.o v0 v1 (.g v1 v0)) tr (nA h0 :) g3))
theorem om228 {a:Nat}(h0:a<=20):a<=1000:=nA λg1=>(lin (X1 a) (.o v0 (.n 20) (.g (.n 1000) v0)) tr h0 g1)
theorem om229 {a b:Nat}(h0:a<=20)(h1:b<=a):b<400:=nB λg1=>(lin (X2 a b) (.o v0 (.n 20) (.o v1 v0 (.f (.n 400) v1))) tr h0 h1 g1)
theorem om230 {a:Nat}(h0:6<(a:Int)):6<a:=nB λg1=>(linz [] (X1 a) (.s (.n 6) q0 (.f q0 (.q (.n 6)))) tr h0 (nD g1 :))
theorem om231 {a b c:Nat}(h0:a<=20)(h1:b<=a)(h2:c<=b):c<400:=nB λg1=>(lin (X3 a b c) (.o v0 (.n 20) (.o v1 v0 (.o v2 v1 (.f (.n 400) v2)))) tr h0 h1 h2 g1)
theorem Qsf {a b:Nat}(h0:a<=20)(h1:b<=a):b<=300:=nA λg1=>(lin (X2 a b) (.o v0 (.n 20) (.o v1 v0 (.g (.n 300) v1))) tr h0 h1 g1)
theorem om233 {a:Nat}(h0:a<=2):a<=300:=nA λg1=>(lin (X1 a) (.o v0 n2 (.g (.n 300) v0)) tr h0 g1)
theorem Quy {a b c:Nat}(h0:a+b<=220)(h1:c<=a):c<=300:=nA λg1=>(lin (X3 a b c) (.o a01 (.n 220) (.o v2 v0 (.g (.n 300) v2))) tr h0 h1 g1)
theorem om235 {a:Nat}:¬(0=a+1):=λg1=>(lin (X1 a) (.j p0 n0) tr g1)
theorem om236 {a b:Nat}(h0:a≠b):¬(a+1=b+1):=λg1=>(eNeN h0 (λg2=>(lin (X2 b a) (.i p0 p1 (.g v1 v0)) tr g1 g2)) (λg2=>(lin (X2 a b) (.e p0 p1 (.g v1 v0)) tr g1 g2)))
theorem om237 {a b c:Nat}(h0:a=b)(h1:c=a)(h2:b<=300):a<=1000:=nA λg1=>(lin (X2 a b) (.e v0 v1 (.o v1 (.n 300) (.g (.n 1000) v0))) tr h0 h2 g1)
theorem om238 {a:Nat}(h0:a<3):0<=1+(a:Int):=Qac λg1=>(linz [] (X1 a) (.g (.a m1 q0) m0) tr g1)
theorem om239 {a b:Int}(h0:0<=a/\a<=b):¬(a<0):=λg1=>(linz (Z1 a) [] (.o m0 z0 (.g z0 m0)) tr (And.left h0 :) g1)
theorem om240 {a b:Int}(h0:0<=a/\a<=b):¬(b<a):=λg1=>(linz (Z2 a b) [] (.o z0 z1 (.g z1 z0)) tr (And.right h0 :) g1)
theorem om241 {b d:Nat}{a c:Int}(h0:a<(b:Int))(h1:a=(b:Int)/\c=(d:Int)):False:=linz (Z1 a) (X1 b) (.s z0 q0 (.j q0 z0)) tr h0 (And.left h1 :)
theorem om242 {b:Nat}{a:Int}(h0:a=(b:Int)+1):(b:Int)<a:=Qa4 λg1=>(linz (Z1 a) (X1 b) (.i (.a q0 m1) z0 (.f z0 q0)) tr h0 g1)
theorem om243 {a b:Nat}(h0:a<b):0<=(a:Int)+1:=Qac λg1=>(linz [] (X1 a) (.g (.a q0 m1) m0) tr g1)
theorem om244 {a b:Nat}(h0:a<b):(a:Int)+1<=(b:Int):=Qac λg1=>(linz [] (X2 a b) (.o (.q p0) q1 (.g q1 (.a q0 m1))) tr (nD h0 :) g1)
theorem om245 {a b:Nat}{c d:Int}(h0:a<b)(h1:c=max ((a:Int)+1) d\/c=(a:Int)+1):(a:Int)<c:=Qa4 λg1=>(Qb h1 (λg2=>(Qi1 ((a:Int)+1) d (λg3 k3=>(linz (Z3 c (max ((a:Int)+1) d) d) (X1 a) (.o z0 q0 (.i z1 z0 (.o (.a q0 m1) z2 (.j z2 z1)))) tr g1 g2 g3 k3)) (λg3 k3=>(linz (Z2 c (max ((a:Int)+1) d)) (X1 a) (.o z0 q0 (.i z1 z0 (.j (.a q0 m1) z1))) tr g1 g2 k3)))) (λg2=>(linz (Z1 c) (X1 a) (.o z0 q0 (.j (.a q0 m1) z0)) tr g1 g2)))
theorem om246 {a b:Nat}{c:Int}(h0:a<b)(h1:0<=c/\c<=(b:Int)):0<=max ((a:Int)+1) c/\max ((a:Int)+1) c<=(b:Int):=⟨Qac λg1=>(Qi1 ((a:Int)+1) c (λg2 k2=>(linz (Z2 (max ((a:Int)+1) c) c) (X1 a) (.s z0 m0 (.o (.a q0 m1) z1 (.j z1 z0))) tr g1 g2 k2)) (λg2 k2=>(linz (Z1 (max ((a:Int)+1) c)) (X1 a) (.s z0 m0 (.j (.a q0 m1) z0)) tr g1 k2))) ,Qac λg3=>(Qi1 ((a:Int)+1) c (λg4 k4=>(linz (Z2 c (max ((a:Int)+1) c)) (X1 b) (.o z0 q0 (.s q0 z1 (.h z1 z0))) tr (And.right h1 :) g3 k4)) (λg4 k4=>(linz (Z1 (max ((a:Int)+1) c)) (X2 a b) (.o (.q p0) q1 (.s q1 z0 (.h z0 (.a q0 m1)))) tr (nD h0 :) g3 k4))) ⟩
theorem om247 {a b:Nat}(h0:a=b)(h1:b<9):0<=8+(b:Int):=Qac λg1=>(linz [] (X1 b) (.g (.a (.n 8) q0) m0) tr g1)
theorem om248 {a:Nat}(h0:0<=(a:Int)/\(a:Int)<4):2<=2+a:=nA λg1=>(lin (X1 a) (.g (.a n2 v0) n2) tr g1)
theorem om249 {a:Nat}(h0:0<=(a:Int)/\(a:Int)<4):2+a<=19:=nA λg1=>(linz [] (X1 a) (.s q0 m4 (.f (.q (.a (.n 19) n1)) (.q (.a n2 v0)))) tr (And.right h0 :) (nD g1 :))
theorem om250 {a b:Nat}(h0:a=9)(h1:0<=(b:Int)/\(b:Int)<4):2+(2+b)<=a:=nA λg1=>(linz [] (X2 a b) (.o (.q (.n 9)) q0 (.s q1 m4 (.f (.q p0) (.q (.a n2 (.a n2 v1)))))) tr (nD (nC h0.symm) :) (And.right h1 :) (nD g1 :))
theorem om251 {a b:Nat}(h0:0<=(a:Int)/\(a:Int)<4)(h1:b=2+a+1):b<=20:=nA λg1=>(linz [] (X2 a b) (.s q0 m4 (.o q1 (.q (.a (.a n2 v0) n1)) (.f (.q (.a (.n 20) n1)) q1))) tr (And.right h0 :) (nD (nC h1) :) (nD g1 :))
theorem om252 {a b:Nat}(h0:0<=(a:Int)/\(a:Int)<4)(h1:b=2+a+1):b<=6:=nA λg1=>(linz [] (X2 a b) (.s q0 m4 (.o q1 (.q (.a (.a n2 v0) n1)) (.f (.q (.a (.n 6) n1)) q1))) tr (And.right h0 :) (nD (nC h1) :) (nD g1 :))
theorem om253 {a:Nat}(h0:a<=20):a<=300:=nA λg1=>(lin (X1 a) (.o v0 (.n 20) (.g (.n 300) v0)) tr h0 g1)
theorem om254 {a:Nat}(h0:6<a):6<(a:Int):=Qa4 λg1=>(linz [] (X1 a) (.o (.q (.a (.n 6) n1)) q0 (.f q0 (.n 6))) tr (nD h0 :) g1)
theorem om255 {a:Nat}(h0:1<=a)(h1:a<=300):¬((a:Int)=0):=λg1=>(linz [] (X1 a) (.o (.q n1) q0 (.h q0 m0)) tr (nD h0 :) g1)
theorem om256 {a:Int}(h0:0<=a):¬(a<0):=λg1=>(linz (Z1 a) [] (.o m0 z0 (.g z0 m0)) tr h0 g1)
theorem om257 {b:Nat}{a:Int}(h0:a<(b:Int)):¬((b:Int)<=a):=λg1=>(linz (Z1 a) (X1 b) (.s z0 q0 (.f q0 z0)) tr h0 g1)
theorem om258 {a:Nat}(h0:1<(a:Int)):1<a:=nB λg1=>(linz [] (X1 a) (.s m1 q0 (.f q0 (.q n1))) tr h0 (nD g1 :))
theorem om259 {a:Nat}(h0:1<a)(h1:a=1):False:=lin (X1 a) (.s n1 v0 (.h v0 n1)) tr h0 h1
theorem om260 {a b c:Nat}(h0:a-b=0)(h1:c=a):c<=b:=nA λg1=>(lin (X4 (a-b) c a b) (.e v0 n0 (.e v1 v2 (.s v3 v1 (.f v2 a03)))) tr h0 h1 g1 (Qah a b :))
theorem om261 {a b:Nat}(h0:a-b=0):a<=b:=nA λg1=>(lin (X3 (a-b) b a) (.e v0 n0 (.s v1 v2 (.f v2 a01))) tr h0 g1 (Qah a b :))
theorem om262 {a b c:Nat}(h0:a-b=c+1)(h1:b<=a):b<a:=nB λg1=>(eSub a b (λg2 k2=>(lin (X4 c (a-b) a b) (.i p0 v1 (.o v2 v3 (.h a13 v2))) tr h0 g1 k2)) (λg2 k2=>(lin (X2 b a) (.o v0 v1 (.g v1 v0)) tr h1 g2)))
theorem om263 {a b c d:Nat}(h0:a<=1000000)(h1:b<=c)(h2:c<a)(h3:1000000<=d):b<=d:=nA λg1=>(lin (X4 a b c d) (.o v0 (.n 1000000) (.o v1 v2 (.s v2 v0 (.o (.n 1000000) v3 (.g v3 v1))))) tr h0 h1 h2 h3 g1)
theorem om264 {a b c:Nat}(h0:a-b=c+1)(h1:b<a):a-(b+1)=c:=nE (nA λg2=>(eSub a (b+1) (λg3 k3=>(lin (X5 (a-b) c (a-(b+1)) b a) (.e v0 p1 (.s v1 v2 (.e (.a v2 p3) v4 (.f v4 a03)))) tr h0 g2 k3 (Qah a b :))) (λg3 k3=>(lin (X2 b a) (.s v0 v1 (.g v1 p0)) tr h1 g3)))) (nA λg4=>(eSub a b (λg5 k5=>(lin (X5 c (a-b) (a-(b+1)) b a) (.i p0 v1 (.s v2 v0 (.e a13 v4 (.f v4 (.a v2 p3))))) tr h0 g4 k5 (Qah a (b+1) :))) (λg5 k5=>(lin (X2 b a) (.s v0 v1 (.g v1 v0)) tr h1 g5))))
theorem om265 {a b:Nat}(h0:a<=b):a+1<=b+1:=nA λg1=>(lin (X2 a b) (.o v0 v1 (.g p1 p0)) tr h0 g1)
theorem om266 {a b c d e f:Nat}(h0:a+b<=c)(h1:d=a)(h2:e=b)(h3:c<=f):d+e<=f:=nA λg1=>(lin (X6 a b c d e f) (.o a01 v2 (.e v3 v0 (.e v4 v1 (.o v2 v5 (.g v5 a34))))) tr h0 h1 h2 h3 g1)
theorem om268 {a b c d:Nat}(h0:a<=b)(h1:c+b<d):c+a<d:=nB λg1=>(lin (X4 a b c d) (.o v0 v1 (.s a21 v3 (.f v3 a20))) tr h0 h1 g1)
theorem om269 {a b c d:Nat}(h0:a<=b)(h1:c+3*b+100<d):c+3*a+100<d:=nB λg1=>(lin (X4 a b c d) (.c 3 v0 v1 (.s (.a (.a v2 (.m 3 v1)) (.n 100)) v3 (.f v3 (.a (.a v2 (.m 3 v0)) (.n 100))))) tr h0 h1 g1)
theorem om270 {a b c:Nat}(h0:a+(b+1)<c):a<c:=nB λg1=>(lin (X3 a b c) (.s (.a v0 p1) v2 (.f v2 v0)) tr h0 g1)
theorem om271 {a b c:Nat}(h0:a+(b+1)<c):a+1+b<c:=nB λg1=>(lin (X3 a b c) (.s (.a v0 p1) v2 (.f v2 (.a p0 v1))) tr h0 g1)
theorem om272 {a b c:Nat}(h0:a+3*(b+1)+100<c):a+3+3*b+100<c:=nB λg1=>(lin (X3 a b c) (.s (.a (.a v0 (.m 3 p1)) (.n 100)) v2 (.f v2 (.a (.a (.a v0 n3) (.m 3 v1)) (.n 100)))) tr h0 g1)
theorem om273 {a:Nat}(h0:a<=1000000):(a:Int)<=1000000:=Qac λg1=>(linz [] (X1 a) (.o q0 (.q (.n 1000000)) (.g (.n 1000000) q0)) tr (nD h0 :) g1)
theorem om274 {a:Nat}:(a:Int)-0-1+1=(a:Int):=Qwd (Qac λg2=>(linz [] (X1 a) (.g q0 (.a (.s (.s q0 m0) m1) m1)) tr g2)) (Qac λg3=>(linz [] (X1 a) (.g (.a (.s (.s q0 m0) m1) m1) q0) tr g3))
theorem om276 {a:Nat}(h0:¬(0<(a:Int))):0=(a:Int):=Qwd (Qac λg2=>(linz [] (X1 a) (.g q0 m0) tr g2)) (Qac λg3=>(linz [] (X1 a) (.o q0 m0 (.g m0 q0)) tr (Qac h0 :) g3))
theorem om278 {a:Nat}(h0:(a:Int)<=1000000):0<=(a:Int):=Qac λg1=>(linz [] (X1 a) (.g q0 m0) tr g1)
theorem om279 {a:Nat}(h0:(a:Int)<=1000000):(a:Int)<=1000001:=Qac λg1=>(linz [] (X1 a) (.o q0 (.n 1000000) (.g (.n 1000001) q0)) tr h0 g1)
theorem om280 {a:Nat}(h0:(a:Int)<=1000000):0<=(a:Int)+(1-1):=Qac λg1=>(linz [] (X1 a) (.g (.a q0 (.s m1 m1)) m0) tr g1)
theorem om281 {a:Nat}(h0:(a:Int)<=1000000):(a:Int)+(1-1)<=1000001:=Qac λg1=>(linz [] (X1 a) (.o q0 (.n 1000000) (.g (.n 1000001) (.a q0 (.s m1 m1)))) tr h0 g1)
theorem Qux {a b:Nat}(h0:a=b):b=a:=nE (nA λg2=>(lin (X2 b a) (.i v0 v1 (.g v1 v0)) tr h0 g2)) (nA λg3=>(lin (X2 a b) (.e v0 v1 (.g v1 v0)) tr h0 g3))
theorem om283 {a b c:Nat}(h0:a=b)(h1:c<b):c<a:=nB λg1=>(lin (X3 b a c) (.i v0 v1 (.s v2 v0 (.f v1 v2))) tr h0 h1 g1)
theorem om284:¬((1:Int)<0):=λg1=>(linz [] [] (.g m1 m0) tr g1)
theorem om285:(1:Int) > 0:=Qa4 λg1=>(linz [] [] (.f m1 m0) tr g1)
theorem om286 {a:Nat}:¬((a:Int)<0):=λg1=>(linz [] (X1 a) (.g q0 m0) tr g1)
theorem om287 {a b:Nat}(h0:a<=b):min (a:Int) (b:Int)=(a:Int):=Qwd (Qac λg2=>(Qj0 (a:Int) (b:Int) (λg3 k3=>(linz (Z1 (min (a:Int) (b:Int))) (X1 a) (.s q0 z0 (.h z0 q0)) tr g2 k3)) (λg3 k3=>(linz (Z1 (min (a:Int) (b:Int))) (X2 a b) (.s q0 z0 (.o q1 q0 (.h z0 q1))) tr g2 g3 k3)))) (Qac λg4=>(Qj0 (a:Int) (b:Int) (λg5 k5=>(linz (Z1 (min (a:Int) (b:Int))) (X1 a) (.s z0 q0 (.j q0 z0)) tr g4 k5)) (λg5 k5=>(linz (Z1 (min (a:Int) (b:Int))) (X2 a b) (.o q0 q1 (.s z0 q0 (.j q1 z0))) tr (nD h0 :) g4 k5))))
theorem om288 {a:Nat}(h0:0<(a:Int)):Qc ((a:Int)-0-1+1)=a:=nE (nA λg2=>(eTn ((a:Int)-0-1+1) (λg3 k3=>(linz [] (X2 a (Qc ((a:Int)-0-1+1))) (.o (.q p0) q1 (.h q1 (.a (.s (.s q0 m0) m1) m1))) tr (nD g2 :) k3)) (λg3 k3=>(linz [] (X1 a) (.g (.a (.s (.s q0 m0) m1) m1) m0) tr g3)))) (nA λg4=>(eTn ((a:Int)-0-1+1) (λg5 k5=>(linz [] (X2 (Qc ((a:Int)-0-1+1)) a) (.o (.q p0) q1 (.j (.a (.s (.s q1 m0) m1) m1) q0)) tr (nD g4 :) k5)) (λg5 k5=>(linz [] (X1 a) (.g (.a (.s (.s q0 m0) m1) m1) m0) tr g5))))
theorem om289 {a:Nat}(h0:¬(0<(a:Int))):Qc 0=a:=nE (nA λg2=>(eTn 0 (λg3 k3=>(linz [] (X2 a (Qc 0)) (.o (.q p0) q1 (.h q1 m0)) tr (nD g2 :) k3)) (λg3 k3=>(linz [] [] (.g m0 m0) tr g3)))) (nA λg4=>(linz [] (X2 a (Qc 0)) (.o q0 m0 (.f (.q p1) q0)) tr (Qac h0 :) (nD g4 :)))
theorem om290 {a b c:Nat}(h0:a<b)(h1:b<=c):min a b<=c:=nA λg1=>(eMin a b (λg2 k2=>(lin (X4 a b c (min a b)) (.s v0 v1 (.o v1 v2 (.s v2 v3 (.h v3 v0)))) tr h0 h1 g1 k2)) (λg2 k2=>(lin (X2 a b) (.s v0 v1 (.f v1 v0)) tr h0 g2)))
theorem om292 {a b:Nat}(h0:a<b):¬(a=b):=λg1=>(lin (X2 a b) (.s v0 v1 (.j v1 v0)) tr h0 g1)
theorem om293 {a b c d:Nat}(h0:a<b)(h1:b<=c)(h2:d=b):min a b<=c:=nA λg1=>(eMin a b (λg2 k2=>(lin (X4 a b c (min a b)) (.s v0 v1 (.o v1 v2 (.s v2 v3 (.h v3 v0)))) tr h0 h1 g1 k2)) (λg2 k2=>(lin (X2 a b) (.s v0 v1 (.f v1 v0)) tr h0 g2)))
theorem om294 {a b c:Nat}(h0:a+3*b+100<c):a<c:=nB λg1=>(lin (X3 a b c) (.s (.a (.a v0 (.m 3 v1)) (.n 100)) v2 (.f v2 v0)) tr h0 g1)
theorem om299 {b:Nat}{a:Int}:a+(b:Int)-a=(b:Int):=Qwd (Qac λg2=>(linz (Z1 a) (X1 b) (.g q0 (.s (.a z0 q0) z0)) tr g2)) (Qac λg3=>(linz (Z1 a) (X1 b) (.g (.s (.a z0 q0) z0) q0) tr g3))
theorem om300 {b:Nat}{a:Int}(h0:0<=a/\a<=1000/\b<=1000)(h1:¬(a<a+(b:Int))):0=(b:Int):=Qwd (Qac λg2=>(linz [] (X1 b) (.g q0 m0) tr g2)) (Qac λg3=>(linz (Z1 a) (X1 b) (.o (.a z0 q0) z0 (.g m0 q0)) tr (Qac h1 :) g3))
theorem om301 {a b:Nat}(h0:a<=63)(h1:b=1000000):a<=b:=nA λg1=>(lin (X2 a b) (.o v0 (.n 63) (.i (.n 1000000) v1 (.g v1 v0))) tr h0 h1 g1)
theorem om304 {b:Nat}{a:Int}(h0:0<=a)(h1:Qc a<b):a<(b:Int):=Qa4 λg1=>(eTn a (λg2 k2=>(linz (Z1 a) (X2 (Qc a) b) (.o (.q p0) q1 (.o q1 z0 (.j z0 q0))) tr (nD h1 :) g1 k2)) (λg2 k2=>(linz (Z1 a) [] (.o m0 z0 (.g z0 m0)) tr h0 g2)))
theorem om310 {b c:Nat}{a:Int}(h0:Qc a<b)(h1:c=b):Qc a<c:=nB λg1=>(lin (X3 (Qc a) b c) (.s v0 v1 (.i v1 v2 (.f v2 v0))) tr h0 h1 g1)
theorem om311 {a b:Nat}{c:Int}(h0:a=b)(h1:(b:Int)<c):¬((b:Int)>=c):=λg1=>(linz (Z1 c) (X1 b) (.s q0 z0 (.f z0 q0)) tr h1 g1)
theorem om312 {a b:Int}(h0:a<b):a=min b a:=Qwd (Qac λg2=>(Qj0 b a (λg3 k3=>(linz (Z2 a b) [] (.s z0 z1 (.f z1 z0)) tr h0 g3)) (λg3 k3=>(linz (Z2 (min b a) a) [] (.s z0 z1 (.j z1 z0)) tr g2 k3)))) (Qac λg4=>(Qj0 b a (λg5 k5=>(linz (Z2 a b) [] (.s z0 z1 (.f z1 z0)) tr h0 g5)) (λg5 k5=>(linz (Z2 a (min b a)) [] (.s z0 z1 (.h z1 z0)) tr g4 k5))))
theorem om313 {a b:Int}(h0:a > b):a=max b a:=Qwd (Qac λg2=>(Qi1 b a (λg3 k3=>(linz (Z2 (max b a) a) [] (.s z0 z1 (.j z1 z0)) tr g2 k3)) (λg3 k3=>(linz (Z2 b a) [] (.s z0 z1 (.f z1 z0)) tr h0 g3)))) (Qac λg4=>(Qi1 b a (λg5 k5=>(linz (Z2 a (max b a)) [] (.s z0 z1 (.h z1 z0)) tr g4 k5)) (λg5 k5=>(linz (Z2 b a) [] (.s z0 z1 (.f z1 z0)) tr h0 g5))))
theorem om314 {b:Nat}{a c:Int}(h0:a=(b:Int))(h1:a<c):0<=a:=Qac λg1=>(linz (Z1 a) (X1 b) (.i q0 z0 (.g z0 m0)) tr h0 g1)
theorem om315 {a b:Int}(h0:¬(a<b)):b=min b a:=Qwd (Qac λg2=>(Qj0 b a (λg3 k3=>(linz (Z2 (min b a) b) [] (.s z0 z1 (.j z1 z0)) tr g2 k3)) (λg3 k3=>(linz (Z3 b a (min b a)) [] (.o z0 z1 (.s z2 z0 (.j z1 z2))) tr (Qac h0 :) g2 k3)))) (Qac λg4=>(Qj0 b a (λg5 k5=>(linz (Z2 b (min b a)) [] (.s z0 z1 (.h z1 z0)) tr g4 k5)) (λg5 k5=>(linz (Z3 b (min b a) a) [] (.s z0 z1 (.o z2 z0 (.h z1 z2))) tr g4 g5 k5))))
theorem om316 {a b:Int}(h0:¬(a > b)):b=max b a:=Qwd (Qac λg2=>(Qi1 b a (λg3 k3=>(linz (Z3 (max b a) b a) [] (.s z0 z1 (.o z1 z2 (.j z2 z0))) tr g2 g3 k3)) (λg3 k3=>(linz (Z2 (max b a) b) [] (.s z0 z1 (.j z1 z0)) tr g2 k3)))) (Qac λg4=>(Qi1 b a (λg5 k5=>(linz (Z3 a b (max b a)) [] (.o z0 z1 (.s z1 z2 (.h z2 z0))) tr (Qac h0 :) g4 k5)) (λg5 k5=>(linz (Z2 b (max b a)) [] (.s z0 z1 (.h z1 z0)) tr g4 k5))))
theorem om317 {a b c:Nat}(h0:a=b)(h1:(c:Int)<(b:Int)):c<a:=nB λg1=>(linz [] (X3 b a c) (.o q0 q1 (.s q2 q0 (.f q1 q2))) tr (nD (nC h0.symm) :) h1 (nD g1 :))
theorem om318 {a b c d:Nat}(h0:a<=b)(h1:c=a)(h2:(d:Int)<(a:Int)):d<=b:=nA λg1=>(linz [] (X3 a b d) (.o q0 q1 (.s q2 q0 (.f (.q p1) q2))) tr (nD h0 :) h2 (nD g1 :))
theorem om322 {a:Nat}(h0:a<30):a<9000:=nB λg1=>(lin (X1 a) (.s v0 (.n 30) (.f (.n 9000) v0)) tr h0 g1)
theorem om323 {a b:Nat}(h0:a<=b+1):a<=b+1:=nA λg1=>(lin (X2 a b) (.o v0 p1 (.g p1 v0)) tr h0 g1)
theorem om324 {a b:Nat}(h0:a+1<=b):a<=b:=nA λg1=>(lin (X2 a b) (.o p0 v1 (.g v1 v0)) tr h0 g1)
theorem om325 {a b:Nat}(h0:a=b+1):a-1<a:=nB λg1=>(eSub a 1 (λg2 k2=>(lin (X2 a (a-1)) (.o v0 v1 (.h p1 v0)) tr g1 k2)) (λg2 k2=>(lin (X2 b a) (.i p0 v1 (.g v1 n1)) tr h0 g2)))
theorem Quw {a b c:Nat}(h0:a<=b)(h1:b<=c):a<=c:=nA λg1=>(lin (X3 a b c) (.o v0 v1 (.o v1 v2 (.g v2 v0))) tr h0 h1 g1)
theorem om327 {a b c:Nat}(h0:a<=b)(h1:b<=c)(h2:c<a+1):b=c:=nE (nA λg2=>(lin (X2 b c) (.o v0 v1 (.g v1 v0)) tr h1 g2)) (nA λg3=>(lin (X3 a b c) (.o v0 v1 (.s v2 p0 (.g v1 v2))) tr h0 h2 g3))
theorem om328 {a b:Nat}(h0:a<b+1)(h1:¬(a<b)):a=b:=nE (nA λg2=>(lin (X2 a b) (.s v0 p1 (.g v1 v0)) tr h0 g2)) (nA λg3=>(lin (X2 b a) (.o v0 v1 (.g v1 v0)) tr (nA h1 :) g3))
theorem om329 {a b c:Nat}(h0:a<=b)(h1:c<b)(h2:¬(a=b)):a<=b-1:=nA λg1=>(eNeN h2 (λg2=>(lin (X3 (b-1) a b) (.s v0 v1 (.s v1 v2 (.f v2 p0))) tr g1 g2 (Qah b 1 :))) (λg2=>(lin (X2 a b) (.o v0 v1 (.g v1 v0)) tr h0 g2)))
theorem om330 {a b:Nat}(h0:a<b):b-1<b:=nB λg1=>(eSub b 1 (λg2 k2=>(lin (X2 b (b-1)) (.o v0 v1 (.h p1 v0)) tr g1 k2)) (λg2 k2=>(lin (X2 a b) (.s v0 v1 (.g v1 n1)) tr h0 g2)))
theorem Qm1 {a b c d:Nat}(h0:a+b<=c)(h1:d<b):a+d<c:=nB λg1=>(lin (X4 a b c d) (.o a01 v2 (.s v3 v1 (.f v2 a03))) tr h0 h1 g1)
theorem om333 {a b c d e:Nat}(h0:a+b<=c)(h1:1<=d)(h2:d<=e)(h3:e<b):a+e-1<c:=nB λg1=>(lin (X5 a b c e (a+e-1)) (.o a01 v2 (.s v3 v1 (.o v2 v4 (.f v4 a03)))) tr h0 h3 g1 (Qwq (a+e) 1 :))
theorem Quv {a b:Nat}(h0:a<b):a<=b:=nA λg1=>(lin (X2 a b) (.s v0 v1 (.g v1 v0)) tr h0 g1)
theorem om335 {a b c:Nat}(h0:1<=a)(h1:a<=b):c<c+b:=nB λg1=>(lin (X3 a b c) (.o n1 v0 (.o v0 v1 (.f a21 v2))) tr h0 h1 g1)
theorem om336 {a b:Nat}(h0:a<=b):max a b=b:=nE (nA λg2=>(eMax a b (λg3 k3=>(lin (X2 b (max a b)) (.s v0 v1 (.h v1 v0)) tr g2 k3)) (λg3 k3=>(lin (X3 a b (max a b)) (.o v0 v1 (.s v1 v2 (.h v2 v0))) tr h0 g2 k3)))) (nA λg4=>(eMax a b (λg5 k5=>(lin (X2 (max a b) b) (.s v0 v1 (.j v1 v0)) tr g4 k5)) (λg5 k5=>(lin (X3 (max a b) b a) (.s v0 v1 (.o v1 v2 (.j v2 v0))) tr g4 g5 k5))))
theorem Qse {a b c:Nat}(h0:a<=b):c+a<=c+b:=nA λg1=>(lin (X3 a b c) (.o v0 v1 (.g a21 a20)) tr h0 g1)
theorem Qk4 {a b c d:Nat}(h0:a+b<=c)(h1:d<=b):a+d<=c:=nA λg1=>(lin (X4 a b c d) (.o a01 v2 (.o v3 v1 (.g v2 a03))) tr h0 h1 g1)
theorem om339 {a b:Nat}(h0:1<=a)(h1:a<=b):1<=b:=nA λg1=>(lin (X2 a b) (.o n1 v0 (.o v0 v1 (.g v1 n1))) tr h0 h1 g1)
theorem om340 {a b c d:Nat}(h0:a<=b)(h1:b<=c)(h2:c<a+d):a<=b/\b<a+d:=⟨nA λg1=>(lin (X2 a b) (.o v0 v1 (.g v1 v0)) tr h0 g1) ,nB λg2=>(lin (X4 b c a d) (.o v0 v1 (.s v1 a23 (.f a23 v0))) tr h1 h2 g2) ⟩
theorem om341 {a:Nat}(h0:1<=a):0+1<=a:=nA λg1=>(lin (X1 a) (.o n1 v0 (.g v0 (.a n0 n1))) tr h0 g1)
theorem om342 {a b c d:Nat}(h0:a<=b)(h1:b<=c)(h2:c<a+d):a<=c/\c<a+d:=⟨nA λg1=>(lin (X3 a b c) (.o v0 v1 (.o v1 v2 (.g v2 v0))) tr h0 h1 g1) ,nB λg2=>(lin (X3 c a d) (.s v0 a12 (.f a12 v0)) tr h2 g2) ⟩
theorem om343 {a b c:Nat}(h0:1<=a)(h1:b+a-(0+1)<=c)(h2:c<b+a):c=b+a-1:=nE (nA λg2=>(lin (X4 c b a (b+a-1)) (.s v0 a12 (.s v3 v0 (.f a12 p3))) tr h2 g2 (Qah (b+a) 1 :))) (nA λg3=>(eSub (b+a) 1 (λg4 k4=>(lin (X5 (b+a-(0+1)) c (b+a-1) b a) (.o v0 v1 (.s v1 v2 (.e p2 a34 (.f a34 (.a v0 (.a n0 n1)))))) tr h1 g3 k4 (Qah (b+a) (0+1) :))) (λg4 k4=>(lin (X2 c (b+a-1)) (.s v0 v1 (.h v1 n0)) tr g3 k4))))
theorem om344 {a:Nat}:1<=a+1:=nA λg1=>(lin (X1 a) (.g p0 n1) tr g1)
theorem om345 {a b c:Nat}(h0:a<b+c):b<=b+(b+c)-1-a:=nA λg1=>(lin (X5 a b c (b+(b+c)-1-a) (b+(b+c)-1)) (.s v0 a12 (.s v3 v1 (.o v4 a30 (.f (.a v1 a12) p4)))) tr h0 g1 (Qah (b+(b+c)-1) a :) (Qah (b+(b+c)) 1 :))
theorem om346 {a b c d e:Nat}(h0:a+b<=c)(h1:d<b)(h2:e+1<=d):a+d-1<c:=nB λg1=>(lin (X5 a b c d (a+d-1)) (.o a01 v2 (.s v3 v1 (.o v2 v4 (.f v4 a03)))) tr h0 h1 g1 (Qwq (a+d) 1 :))
theorem om347 {a b c:Nat}(h0:a+1<=b):c<=c+b-(a+1):=nA λg1=>(lin (X4 a b (c+b-(a+1)) c) (.o p0 v1 (.s v2 v3 (.f a31 (.a v2 p0)))) tr h0 g1 (Qah (c+b) (a+1) :))
theorem om348 {a b c d:Nat}(h0:a<=b)(h1:b<c+d):c+(c+d)-1-b<=c+(c+d)-1-a:=nA λg1=>(eSub (c+(c+d)-1) b (λg2 k2=>(lin (X5 a b (c+(c+d)-1-a) (c+(c+d)-1-b) (c+(c+d)-1)) (.o v0 v1 (.s v2 v3 (.e a31 v4 (.f v4 a20)))) tr h0 g1 k2 (Qah (c+(c+d)-1) a :))) (λg2 k2=>(lin (X4 b c d (c+(c+d)-1)) (.s v0 a12 (.s v3 v0 (.f (.a v1 a12) p3))) tr h1 g2 (Qah (c+(c+d)) 1 :))))
theorem om349 {a b c d:Nat}(h0:a<=b)(h1:c<a+d):a+(a+d)-1-b<a+d:=nB λg1=>(eSub (a+(a+d)-1) b (λg2 k2=>(eSub (a+(a+d)) 1 (λg3 k3=>(lin (X5 a b d (a+(a+d)-1-b) (a+(a+d)-1)) (.o v0 v1 (.o a02 v3 (.e a31 v4 (.h p4 (.a v0 a02))))) tr h0 g1 k2 k3)) (λg3 k3=>(lin (X5 c a d (a+(a+d)-1-b) (a+(a+d)-1)) (.s v0 a12 (.o a12 v3 (.e v4 n0 (.f v3 v4)))) tr h1 g1 k3 (Qwq (a+(a+d)-1) b :))))) (λg2 k2=>(lin (X4 c a d (a+(a+d)-1-b)) (.s v0 a12 (.o a12 v3 (.h v3 n0))) tr h1 g1 k2)))
theorem om350 {a b c:Nat}(h0:a+b<=c)(h1:1<=b):a<c:=nB λg1=>(lin (X3 a b c) (.o a01 v2 (.o n1 v1 (.f v2 v0))) tr h0 h1 g1)
theorem om351 {a b c d:Nat}(h0:a+b<=c)(h1:d<=b)(h2:d > 1):a+d-1<c:=nB λg1=>(eSub (a+d) 1 (λg2 k2=>(lin (X5 a b c d (a+d-1)) (.o a01 v2 (.o v3 v1 (.o v2 v4 (.h p4 a03)))) tr h0 h1 g1 k2)) (λg2 k2=>(lin (X2 d a) (.s n1 v0 (.g a10 n1)) tr h2 g2)))
theorem om352 {a b:Nat}(h0:a+1<=b)(h1:a > 0):1<=b:=nA λg1=>(lin (X2 a b) (.o p0 v1 (.g v1 n1)) tr h0 g1)
theorem om353 {a b c:Nat}(h0:a+1<=b):c<c+b:=nB λg1=>(lin (X3 a b c) (.o p0 v1 (.f a21 v2)) tr h0 g1)
theorem om354 {a b:Nat}(h0:a+1<=b)(h1:¬(a > 0)):1<=b:=nA λg1=>(lin (X2 a b) (.o p0 v1 (.g v1 n1)) tr h0 g1)
theorem om355 {a b c:Nat}(h0:a<b):c+a<=c+b:=nA λg1=>(lin (X3 a b c) (.s v0 v1 (.g a21 a20)) tr h0 g1)
theorem om356 {a b c d:Nat}(h0:a+b<=c)(h1:d<b):a+d<=c:=nA λg1=>(lin (X4 a b c d) (.o a01 v2 (.s v3 v1 (.g v2 a03))) tr h0 h1 g1)
theorem om357 {a b c:Nat}(h0:a<b+c):a<=b+c-1:=nA λg1=>(lin (X4 a b c (b+c-1)) (.s v0 a12 (.s v3 v0 (.f a12 p3))) tr h0 g1 (Qah (b+c) 1 :))
theorem om358 {a b:Nat}(h0:a > 1):b+a-1<b+a:=nB λg1=>(eSub (b+a) 1 (λg2 k2=>(lin (X3 b a (b+a-1)) (.o a01 v2 (.h p2 a01)) tr g1 k2)) (λg2 k2=>(lin (X2 a b) (.s n1 v0 (.g a10 n1)) tr h0 g2)))
theorem om359 {a b c:Int}(h0:¬(a<b))(h1:a<=c)(h2:c<=b):c=b:=Qwd (Qac λg2=>(linz (Z2 c b) [] (.o z0 z1 (.g z1 z0)) tr h2 g2)) (Qac λg3=>(linz (Z3 b a c) [] (.o z0 z1 (.o z1 z2 (.g z2 z0))) tr (Qac h0 :) h1 g3))
theorem om360 {a:Nat}:0+1<=a+1:=nA λg1=>(lin (X1 a) (.g p0 (.a n0 n1)) tr g1)
theorem om361 {a b c d:Nat}(h0:a<=b)(h1:b<c+d):a<c+d:=nB λg1=>(lin (X4 a b c d) (.o v0 v1 (.s v1 a23 (.f a23 v0))) tr h0 h1 g1)
theorem om362 {a b c d:Nat}(h0:1<=a)(h1:a<=b)(h2:c+(b+1)-(0+1)<=d)(h3:d<c+(b+1)):d=c+(b+1)-1:=nE (nA λg2=>(lin (X4 d c b (c+(b+1)-1)) (.s v0 (.a v1 p2) (.s v3 v0 (.f (.a v1 p2) p3))) tr h3 g2 (Qah (c+(b+1)) 1 :))) (nA λg3=>(eSub (c+(b+1)) 1 (λg4 k4=>(lin (X5 (c+(b+1)-(0+1)) d (c+(b+1)-1) c b) (.o v0 v1 (.s v1 v2 (.e p2 (.a v3 p4) (.f (.a v3 p4) (.a v0 (.a n0 n1)))))) tr h2 g3 k4 (Qah (c+(b+1)) (0+1) :))) (λg4 k4=>(lin (X2 d (c+(b+1)-1)) (.s v0 v1 (.h v1 n0)) tr g3 k4))))
theorem om363 {a b:Nat}(h0:a<=b)(h1:¬(a=b)):a+1<=b:=nA λg1=>(eNeN h1 (λg2=>(lin (X2 b a) (.s v0 p1 (.g v1 v0)) tr g1 g2)) (λg2=>(lin (X2 a b) (.o v0 v1 (.g v1 v0)) tr h0 g2)))
theorem om364 {a b:Nat}(h0:a > 1):b<b+a:=nB λg1=>(lin (X2 a b) (.s n1 v0 (.f a10 v1)) tr h0 g1)
theorem om365 {a:Nat}(h0:1<=a)(h1:¬(a > 1)):a=1:=nE (nA λg2=>(lin (X1 a) (.o v0 n1 (.g n1 v0)) tr (nA h1 :) g2)) (nA λg3=>(lin (X1 a) (.o n1 v0 (.g v0 n1)) tr h0 g3))
theorem om368 {a b:Int}(h0:¬(a<b))(h1:¬(b<a)):a=b:=Qwd (Qac λg2=>(linz (Z2 a b) [] (.o z0 z1 (.g z1 z0)) tr (Qac h1 :) g2)) (Qac λg3=>(linz (Z2 b a) [] (.o z0 z1 (.g z1 z0)) tr (Qac h0 :) g3))
theorem om369 {a b:Int}(h0:¬(a<b))(h1:¬(b<a)):a<=b:=Qac λg1=>(linz (Z2 a b) [] (.o z0 z1 (.g z1 z0)) tr (Qac h1 :) g1)
theorem om370 {a b:Nat}(h0:a+1<=b):a+1+1<=b+1:=nA λg1=>(lin (X2 a b) (.o p0 v1 (.g p1 (.a p0 n1))) tr h0 g1)
theorem om371 {a b c:Nat}(h0:1<=a)(h1:a<=b):c+(b+1)-1=c+b:=nE (nA λg2=>(eSub (c+(b+1)) 1 (λg3 k3=>(lin (X3 c b (c+(b+1)-1)) (.s a01 v2 (.h p2 (.a v0 p1))) tr g2 k3)) (λg3 k3=>(lin (X2 c b) (.g (.a v0 p1) n1) tr g3)))) (nA λg4=>(lin (X3 (c+(b+1)-1) c b) (.s v0 a12 (.f (.a v1 p2) p0)) tr g4 (Qah (c+(b+1)) 1 :)))
theorem om372 {a b c d:Nat}(h0:a+1<=b)(h1:c+(b+1)-(a+1+1)<=d)(h2:d<c+(b+1))(h3:¬(d=c+b)):c+b-(a+1)<=d:=nA λg1=>(eSub (c+b) (a+1) (λg2 k2=>(lin (X6 (c+(b+1)-(a+1+1)) d (c+b-(a+1)) a c b) (.o v0 v1 (.s v1 v2 (.e (.a v2 p3) (.a v4 v5) (.f (.a v4 (.a v5 n1)) (.a v0 (.a p3 n1)))))) tr h1 g1 k2 (Qah (c+(b+1)) (a+1+1) :))) (λg2 k2=>(lin (X3 a b c) (.o p0 v1 (.g a21 p0)) tr h0 g2)))
theorem om373 {a b c:Nat}(h0:a<b+(c+1))(h1:¬(a=b+c)):a<b+c:=nB λg1=>(eNeN h1 (λg2=>(lin (X3 b c a) (.o a01 v2 (.g v2 a01)) tr g1 g2)) (λg2=>(lin (X3 a b c) (.s v0 (.a v1 p2) (.g a12 v0)) tr h0 g2)))
theorem om374 {a b c d e:Nat}(h0:a<=b)(h1:b<=c)(h2:c<a+min (max d 1) e)(h3:d=0):b=c:=nE (nA λg2=>(lin (X2 b c) (.o v0 v1 (.g v1 v0)) tr h1 g2)) (nA λg3=>(eMin (max d 1) e (λg4 k4=>(eMax d 1 (λg5 k5=>(lin (X5 a b c (min (max d 1) e) (max d 1)) (.o v0 v1 (.s v2 a03 (.s v1 v2 (.e v3 v4 (.h v4 n1))))) tr h0 h2 g3 k4 k5)) (λg5 k5=>(lin (X6 a b c (min (max d 1) e) d (max d 1)) (.o v0 v1 (.s v2 a03 (.e v4 n0 (.s v1 v2 (.e v3 v5 (.h v5 v4)))))) tr h0 h2 h3 g3 k4 k5)))) (λg4 k4=>(eMax d 1 (λg6 k6=>(lin (X6 a b c (min (max d 1) e) e (max d 1)) (.o v0 v1 (.s v2 a03 (.s v1 v2 (.o v4 v5 (.e v3 v4 (.h v5 n1)))))) tr h0 h2 g3 g4 k4 k6)) (λg6 k6=>(lin (X1 d) (.e v0 n0 (.f n1 v0)) tr h3 g6))))))
theorem om375 {a b c d:Nat}(h0:a<=b)(h1:c<d+min (max a 1) b)(h2:¬(a=0)):c<d+a:=nB λg1=>(eNeN h2 (λg2=>(lin (X1 a) (.g v0 n0) tr g2)) (λg2=>(eMin (max a 1) b (λg3 k3=>(eMax a 1 (λg4 k4=>(lin (X5 c d (min (max a 1) b) a (max a 1)) (.s v0 a12 (.o a13 v0 (.s n0 v3 (.e v2 v4 (.h v4 n1))))) tr h1 g1 g2 k3 k4)) (λg4 k4=>(lin (X5 c d (min (max a 1) b) a (max a 1)) (.s v0 a12 (.o a13 v0 (.e v2 v4 (.h v4 v3)))) tr h1 g1 k3 k4)))) (λg3 k3=>(eMax a 1 (λg5 k5=>(lin (X6 c d (min (max a 1) b) a b (max a 1)) (.s v0 a12 (.o a13 v0 (.s n0 v3 (.o v4 v5 (.e v2 v4 (.h v5 n1)))))) tr h1 g1 g2 g3 k3 k5)) (λg5 k5=>(lin (X6 c d (min (max a 1) b) a b (max a 1)) (.s v0 a12 (.o a13 v0 (.o v4 v5 (.e v2 v4 (.h v5 v3))))) tr h1 g1 g3 k3 k5)))))))
theorem om376 {a b:Nat}:min (max (max a 1) b) b=b:=nE (nA λg2=>(eMin (max (max a 1) b) b (λg3 k3=>(lin (X3 b (min (max (max a 1) b) b) (max (max a 1) b)) (.s v0 v1 (.o v2 v0 (.h v1 v2))) tr g2 g3 k3)) (λg3 k3=>(lin (X2 b (min (max (max a 1) b) b)) (.s v0 v1 (.h v1 v0)) tr g2 k3)))) (nA λg4=>(eMin (max (max a 1) b) b (λg5 k5=>(eMax (max a 1) b (λg6 k6=>(lin (X3 (min (max (max a 1) b) b) b (max (max a 1) b)) (.s v0 v1 (.i v2 v0 (.j v1 v2))) tr g4 k5 k6)) (λg6 k6=>(lin (X4 (min (max (max a 1) b) b) b (max (max a 1) b) (max a 1)) (.s v0 v1 (.i v2 v0 (.o v1 v3 (.j v3 v2)))) tr g4 k5 g6 k6)))) (λg5 k5=>(lin (X2 (min (max (max a 1) b) b) b) (.s v0 v1 (.j v1 v0)) tr g4 k5))))
theorem om377 {a b:Nat}(h0:a<b):min a b=a:=nE (nA λg2=>(eMin a b (λg3 k3=>(lin (X2 a (min a b)) (.s v0 v1 (.h v1 v0)) tr g2 k3)) (λg3 k3=>(lin (X2 a b) (.s v0 v1 (.f v1 v0)) tr h0 g3)))) (nA λg4=>(eMin a b (λg5 k5=>(lin (X2 (min a b) a) (.s v0 v1 (.j v1 v0)) tr g4 k5)) (λg5 k5=>(lin (X2 a b) (.s v0 v1 (.f v1 v0)) tr h0 g5))))
theorem Qdy {a:Nat}:0<=a:=nA λg1=>(lin (X1 a) (.g v0 n0) tr g1)
theorem om379 {a:Nat}:a<=a:=nA λg1=>(lin (X1 a) (.g v0 v0) tr g1)
theorem om383 {a b c:Int}(h0:a<=b)(h1:b<c):a<c:=Qa4 λg1=>(linz (Z3 a b c) [] (.o z0 z1 (.s z1 z2 (.f z2 z0))) tr h0 h1 g1)
theorem om384 {a b c:Int}(h0:a<=b)(h1:b<=c):a<=c:=Qac λg1=>(linz (Z3 a b c) [] (.o z0 z1 (.o z1 z2 (.g z2 z0))) tr h0 h1 g1)
theorem om385 {a b c:Nat}(h0:a<=b)(h1:b-a<=c-max 0 c):a=b:=nE (nA λg2=>(lin (X2 a b) (.o v0 v1 (.g v1 v0)) tr h0 g2)) (nA λg3=>(eSub b a (λg4 k4=>(eSub c (max 0 c) (λg5 k5=>(eMax 0 c (λg6 k6=>(lin (X6 (b-a) (c-max 0 c) a b (max 0 c) c) (.o v0 v1 (.s v2 v3 (.i v3 a02 (.e a14 v5 (.j v5 v4))))) tr h1 g3 k4 k5 k6)) (λg6 k6=>(lin (X5 (b-a) (c-max 0 c) a b c) (.o v0 v1 (.s v2 v3 (.i v3 a02 (.o v4 n0 (.f v1 v4))))) tr h1 g3 k4 g6 (Qwq c (max 0 c) :))))) (λg5 k5=>(lin (X4 (b-a) (c-max 0 c) a b) (.o v0 v1 (.s v2 v3 (.i v3 a02 (.h v1 n0)))) tr h1 g3 k4 k5)))) (λg4 k4=>(lin (X2 a b) (.s v0 v1 (.g v1 v0)) tr g3 g4))))
theorem om386 {a b:Nat}(h0:a<=b)(h1:a>=b):a=b:=nE (nA λg2=>(lin (X2 a b) (.o v0 v1 (.g v1 v0)) tr h0 g2)) (nA λg3=>(lin (X2 b a) (.o v0 v1 (.g v1 v0)) tr h1 g3))
theorem om387 {a b c d e f:Nat}(h0:a+b<=c)(h1:d<b)(h2:e<=d)(h3:¬(f>=e)):a+(f+e) / 2<c:=nB λg1=>(lin (X7 a b c d e f ((f+e) / 2)) (.c 2 a01 v2 (.c 2 (.a v3 n1) v1 (.c 2 v4 v3 (.s v5 v4 (.c 2 v2 (.a v0 v6) (.f (.m 2 v6) (.a v5 v4))))))) tr h0 h1 h2 (nB h3 :) g1 (And.left (Qgf (f+e)) :))
theorem om388 {a b:Int}(h0:a<b):¬(b<=a):=λg1=>(linz (Z2 a b) [] (.s z0 z1 (.f z1 z0)) tr h0 g1)
theorem om389 {a b:Nat}(h0:¬(a>=b)):a<=(a+b) / 2:=nA λg1=>(lin (X3 a b ((a+b) / 2)) (.s v0 v1 (.c 2 (.a v2 n1) v0 (.g a01 (.a (.m 2 v2) n2)))) tr (nB h0 :) g1 (And.right (Qgf (a+b)) :))
theorem om390 {a b:Int}(h0:¬(a<b)):b<=a:=Qac λg1=>(linz (Z2 b a) [] (.o z0 z1 (.g z1 z0)) tr (Qac h0 :) g1)
theorem om391 {a b c:Nat}(h0:a<=b)(h1:¬(c>=a)):(c+a) / 2<=b:=nA λg1=>(lin (X4 a b c ((c+a) / 2)) (.c 2 v0 v1 (.s v2 v0 (.c 2 (.a v1 n1) v3 (.f (.m 2 v3) a20)))) tr h0 (nB h1 :) g1 (And.left (Qgf (c+a)) :))
theorem om392 {a b c d:Nat}(h0:a<b)(h1:c-d<=b-a)(h2:¬(d>=c)):(d+c) / 2-d<=b-(a+1):=nA λg1=>(eSub c d (λg2 k2=>(eSub b a (λg3 k3=>(eSub ((d+c) / 2) d (λg4 k4=>(lin [c-d,b-a,b-(a+1),(d+c) / 2-d,c,d,a,b,(d+c) / 2] (.o v0 v1 (.c 2 (.a v2 n1) v3 (.i v4 (.a v0 v5) (.e (.a v1 v6) v7 (.c 2 (.a v3 v5) v8 (.o v7 (.a v2 (.a v6 n1)) (.f (.m 2 v8) (.a v5 v4)))))))) tr h1 g1 k2 k3 (nC k4 :) (Qah b (a+1) :) (And.left (Qgf (d+c)) :))) (λg4 k4=>(lin (X2 (b-(a+1)) ((d+c) / 2-d)) (.s v0 v1 (.h v1 n0)) tr g1 k4)))) (λg3 k3=>(lin (X2 a b) (.s v0 v1 (.g v1 v0)) tr h0 g3)))) (λg2 k2=>(lin (X2 d c) (.s v0 v1 (.g v1 v0)) tr (nB h2 :) g2)))
theorem om393 {a b c:Nat}(h0:¬(a>=b)):c<=c+(a+b) / 2:=nA λg1=>(lin (X2 c ((a+b) / 2)) (.g a01 v0) tr g1)
theorem om394 {a b c d:Nat}(h0:(a+b) / 2<=c):d+(a+b) / 2<=d+c:=nA λg1=>(lin (X3 ((a+b) / 2) c d) (.o v0 v1 (.g a21 a20)) tr h0 g1)
theorem om395 {a b c:Nat}(h0:a<b):c+a<c+b:=nB λg1=>(lin (X3 a b c) (.s v0 v1 (.f a21 a20)) tr h0 g1)
theorem om396 {a b:Nat}(h0:¬(a>=b)):(a+b) / 2+1<=b:=nA λg1=>(lin (X3 a b ((a+b) / 2)) (.s v0 v1 (.c 2 (.a v1 n1) p2 (.f (.m 2 v2) a01))) tr (nB h0 :) g1 (And.left (Qgf (a+b)) :))
theorem Quu {a b:Nat}(h0:a<=b):a<=b:=nA λg1=>(lin (X2 a b) (.o v0 v1 (.g v1 v0)) tr h0 g1)
theorem om398 {a b c d:Nat}(h0:a<b)(h1:c-d<=b-a)(h2:¬(d>=c)):c-((d+c) / 2+1)<=b-(a+1):=nA λg1=>(eSub c d (λg2 k2=>(eSub b a (λg3 k3=>(eSub c ((d+c) / 2+1) (λg4 k4=>(lin [c-d,b-a,b-(a+1),c-((d+c) / 2+1),c,d,a,b,(d+c) / 2] (.o v0 v1 (.c 2 (.a v2 n1) v3 (.i v4 (.a v0 v5) (.e (.a v1 v6) v7 (.c 2 (.a v3 (.a v8 n1)) v4 (.o v7 (.a v2 (.a v6 n1)) (.g (.a v5 v4) (.a (.m 2 v8) n2)))))))) tr h1 g1 k2 k3 (nC k4 :) (Qah b (a+1) :) (And.right (Qgf (d+c)) :))) (λg4 k4=>(lin (X2 (b-(a+1)) (c-((d+c) / 2+1))) (.s v0 v1 (.h v1 n0)) tr g1 k4)))) (λg3 k3=>(lin (X2 a b) (.s v0 v1 (.g v1 v0)) tr h0 g3)))) (λg2 k2=>(lin (X2 d c) (.s v0 v1 (.g v1 v0)) tr (nB h2 :) g2)))
theorem om399 {a b c d:Nat}(h0:a<(b+c) / 2+1):d+a<=d+(b+c) / 2:=nA λg1=>(lin (X3 a ((b+c) / 2) d) (.s v0 p1 (.g a21 a20)) tr h0 g1)
theorem om400 {a b c d:Nat}(h0:a<=b)(h1:¬(c>=a)):d+(c+a) / 2<d+b:=nB λg1=>(lin (X5 a b c d ((c+a) / 2)) (.c 2 v0 v1 (.s v2 v0 (.c 2 a31 a34 (.f (.m 2 v4) a20)))) tr h0 (nB h1 :) g1 (And.left (Qgf (c+a)) :))
theorem om401 {a b c:Nat}(h0:a<=b):c+b-(c+a)<=c+b:=nA λg1=>(lin (X3 c b (c+b-(c+a))) (.s a01 v2 (.f v2 a01)) tr g1 (Qwq (c+b) (c+a) :))
theorem om402 {a b c d e:Nat}(h0:a<b)(h1:c<=a)(h2:d<e\/e+b<=d):¬(d=e+a-(e+a-(e+c))):=λg1=>(Qb h2 (λg2=>(eSub (e+a) (e+c) (λg3 k3=>(lin (X6 (e+a-(e+a-(e+c))) d e (e+a-(e+c)) c a) (.i v0 v1 (.s v1 v2 (.e (.a v3 a24) (.a v2 v5) (.f (.a v2 v5) a03)))) tr g1 g2 k3 (Qah (e+a) (e+a-(e+c)) :))) (λg3 k3=>(lin (X3 c a e) (.o v0 v1 (.g a21 a20)) tr h1 g3)))) (λg2=>(lin (X5 a b d (e+a-(e+a-(e+c))) e) (.s v0 v1 (.e v2 v3 (.o a41 v2 (.f v3 a40)))) tr h0 g1 g2 (Qwq (e+a) (e+a-(e+c)) :))))
theorem om403 {a b c d e:Nat}(h0:a<b)(h1:c<=a)(h2:d<e\/e+b<=d):¬(e+a-(e+a-(e+c))<d/\d<=e+a):=λg1=>(Qb h2 (λg2=>(eSub (e+a) (e+c) (λg3 k3=>(lin (X6 (e+a-(e+a-(e+c))) d e (e+a-(e+c)) c a) (.s v0 v1 (.s v1 v2 (.e (.a v3 a24) (.a v2 v5) (.f (.a v2 v5) a03)))) tr (And.left g1 :) g2 k3 (Qah (e+a) (e+a-(e+c)) :))) (λg3 k3=>(lin (X3 c a e) (.o v0 v1 (.g a21 a20)) tr h1 g3)))) (λg2=>(lin (X4 a b d e) (.s v0 v1 (.o v2 a30 (.f a31 v2))) tr h0 (And.right g1 :) g2)))
theorem om404 {a b:Nat}(h0:a<b):min (a+1) b=a+1:=nE (nA λg2=>(eMin (a+1) b (λg3 k3=>(lin (X2 a (min (a+1) b)) (.s p0 v1 (.h v1 p0)) tr g2 k3)) (λg3 k3=>(lin (X3 a (min (a+1) b) b) (.s p0 v1 (.o v2 p0 (.h v1 v2))) tr g2 g3 k3)))) (nA λg4=>(eMin (a+1) b (λg5 k5=>(lin (X2 (min (a+1) b) a) (.s v0 p1 (.j p1 v0)) tr g4 k5)) (λg5 k5=>(lin (X3 a b (min (a+1) b)) (.s v0 v1 (.s v2 p0 (.j v1 v2))) tr h0 g4 k5))))
theorem Qut {a b c:Nat}(h0:a<=b)(h1:b<a+c):b-a<c:=nB λg1=>(eSub b a (λg2 k2=>(lin (X4 b a c (b-a)) (.s v0 a12 (.o v2 v3 (.h a31 v0))) tr h1 g1 k2)) (λg2 k2=>(lin (X2 a b) (.o v0 v1 (.g v1 v0)) tr h0 g2)))
theorem Qus {a b c:Nat}(h0:a+b<=c):b<=c-a:=nA λg1=>(lin (X4 a b c (c-a)) (.o a01 v2 (.s v3 v1 (.f v2 a30))) tr h0 g1 (Qah c a :))
theorem om408 {a b c d:Nat}(h0:a+b<=c)(h1:c<a+d):c-a<d:=nB λg1=>(eSub c a (λg2 k2=>(lin (X4 c a d (c-a)) (.s v0 a12 (.o v2 v3 (.h a31 v0))) tr h1 g1 k2)) (λg2 k2=>(lin (X3 a b c) (.o a01 v2 (.g v2 v0)) tr h0 g2)))
theorem Qur {a b c:Nat}(h0:a+b<=c):a+(c-a)=c:=nE (nA λg2=>(eSub c a (λg3 k3=>(lin (X3 c a (c-a)) (.s v0 a12 (.h a21 v0)) tr g2 k3)) (λg3 k3=>(lin (X3 a b c) (.o a01 v2 (.g v2 v0)) tr h0 g3)))) (nA λg4=>(lin (X3 a (c-a) c) (.s a01 v2 (.f v2 a10)) tr g4 (Qah c a :)))
theorem om424 {a b c:Nat}(h0:a<=b)(h1:b<=c):b-a<=c-0:=nA λg1=>(lin (X4 b c (c-0) (b-a)) (.o v0 v1 (.s v2 v3 (.o v1 (.a v2 n0) (.f v3 v0)))) tr h1 g1 (Qah c 0 :) (Qwq b a :))
theorem om425 {a b c:Nat}(h0:a<=b)(h1:¬(c>=a)):c+(a-c) / 2<b:=nB λg1=>(eSub a c (λg2 k2=>(lin (X5 a b c ((a-c) / 2) (a-c)) (.c 2 v0 v1 (.s v2 v0 (.c 2 v1 a23 (.e a42 v0 (.f (.m 2 v3) v4))))) tr h0 (nB h1 :) g1 k2 (And.left (Qgf (a-c)) :))) (λg2 k2=>(lin (X2 c a) (.s v0 v1 (.g v1 v0)) tr (nB h1 :) g2)))
theorem om426:(0:Nat)<1:=nB λg1=>(lin [] (.f n1 n0) tr g1)
theorem om427 {a b:Nat}(h0:a<b):a+0<b:=nB λg1=>(lin (X2 a b) (.s v0 v1 (.f v1 (.a v0 n0))) tr h0 g1)
theorem om428:(0+1:Nat)<=1:=nA λg1=>(lin [] (.g n1 (.a n0 n1)) tr g1)
theorem om429 {a b:Nat}(h0:¬(a>=b)):a+(b-a) / 2+1<=b:=nA λg1=>(eSub b a (λg2 k2=>(lin (X4 a b ((b-a) / 2) (b-a)) (.s v0 v1 (.c 2 (.a v1 n1) (.a a02 n1) (.e a30 v1 (.f (.m 2 v2) v3)))) tr (nB h0 :) g1 k2 (And.left (Qgf (b-a)) :))) (λg2 k2=>(lin (X2 a b) (.s v0 v1 (.g v1 v0)) tr (nB h0 :) g2)))
theorem om430 {a b c:Nat}(h0:a<b)(h1:¬(c>=b-a)):a+c<b:=nB λg1=>(eSub b a (λg2 k2=>(lin (X4 c (b-a) b a) (.s v0 v1 (.o v2 a30 (.h a13 v2))) tr (nB h1 :) g1 k2)) (λg2 k2=>(lin (X2 a b) (.s v0 v1 (.g v1 v0)) tr h0 g2)))
theorem om431 {a b c d:Nat}(h0:a<b)(h1:c-d<=b-a)(h2:¬(d>=c)):c-(d+(c-d) / 2+1)<=b-(a+1):=nA λg1=>(eSub c d (λg2 k2=>(eSub b a (λg3 k3=>(eSub c (d+(c-d) / 2+1) (λg4 k4=>(lin [c-d,b-a,b-(a+1),c-(d+(c-d) / 2+1),c,d,a,b,(c-d) / 2] (.o v0 v1 (.s v2 v3 (.i v4 (.a v0 v5) (.e (.a v1 v6) v7 (.e (.a v3 (.a (.a v5 v8) n1)) v4 (.f v7 (.a v2 (.a v6 n1)))))))) tr h1 g1 k2 k3 k4 (Qah b (a+1) :))) (λg4 k4=>(lin (X2 (b-(a+1)) (c-(d+(c-d) / 2+1))) (.s v0 v1 (.h v1 n0)) tr g1 k4)))) (λg3 k3=>(lin (X2 a b) (.s v0 v1 (.g v1 v0)) tr h0 g3)))) (λg2 k2=>(lin (X2 d c) (.s v0 v1 (.g v1 v0)) tr (nB h2 :) g2)))
theorem om432 {a b c:Nat}(h0:a<b+(c-b) / 2+1):a<=b+(c-b) / 2:=nA λg1=>(lin (X3 a b ((c-b) / 2)) (.s v0 (.a a12 n1) (.g a12 v0)) tr h0 g1)
theorem om433 {a:Nat}:a<2*a+1:=nB λg1=>(lin (X1 a) (.f (.a (.m 2 v0) n1) v0) tr g1)
theorem om434 {a b:Nat}(h0:0<=a)(h1:a+1<=b):a+1+1<=2*b+1:=nA λg1=>(lin (X2 a b) (.c 2 p0 v1 (.g (.a (.m 2 v1) n1) (.a p0 n1))) tr h1 g1)
theorem om435 {a b:Nat}:a<=a+(b-a) / 2:=nA λg1=>(lin (X2 a ((b-a) / 2)) (.g a01 v0) tr g1)
theorem om436 {a b c:Nat}(h0:a<=b)(h1:¬(c>=a)):c+(a-c) / 2<=b:=nA λg1=>(eSub a c (λg2 k2=>(lin (X5 a b c ((a-c) / 2) (a-c)) (.c 2 v0 v1 (.c 2 (.a v1 n1) a23 (.c 2 a42 v0 (.f (.m 2 v3) v4)))) tr h0 g1 (nC k2 :) (And.left (Qgf (a-c)) :))) (λg2 k2=>(lin (X2 c a) (.s v0 v1 (.g v1 v0)) tr (nB h1 :) g2)))
theorem om437 {a b c:Nat}(h0:a<b)(h1:max 0 b+1<=c):c>=b-a:=nA λg1=>(eMax 0 b (λg2 k2=>(lin (X4 (max 0 b) c (b-a) b) (.o p0 v1 (.s v1 v2 (.i v3 v0 (.f v2 v3)))) tr h1 g1 k2 (Qwq b a :))) (λg2 k2=>(lin (X3 c (b-a) b) (.s v0 v1 (.o v2 n0 (.f v1 v2))) tr g1 g2 (Qwq b a :))))
theorem om438 {a b c d:Nat}(h0:a<b)(h1:c-d<=b-a)(h2:¬(d>=c)):d+(c-d) / 2-d<=b-(a+1):=nA λg1=>(eSub c d (λg2 k2=>(eSub b a (λg3 k3=>(eSub (d+(c-d) / 2) d (λg4 k4=>(lin (X8 (c-d) (b-a) (b-(a+1)) (d+(c-d) / 2-d) a b d ((c-d) / 2)) (.o v0 v1 (.c 2 (.a v2 n1) v3 (.e a14 v5 (.c 2 (.a v3 v6) (.a v6 v7) (.o v5 (.a v2 p4) (.f (.m 2 v7) v0)))))) tr h1 g1 k3 (nC k4 :) (Qah b (a+1) :) (And.left (Qgf (c-d)) :))) (λg4 k4=>(lin (X2 (b-(a+1)) (d+(c-d) / 2-d)) (.s v0 v1 (.h v1 n0)) tr g1 k4)))) (λg3 k3=>(lin (X2 a b) (.s v0 v1 (.g v1 v0)) tr h0 g3)))) (λg2 k2=>(lin (X2 d c) (.s v0 v1 (.g v1 v0)) tr (nB h2 :) g2)))
theorem om439 {a b c d:Nat}(h0:a<b)(h1:c<d)(h2:a+c<b):a+c+1<=a+min d (b-a):=nA λg1=>(eMin d (b-a) (λg2 k2=>(lin (X4 c d a (min d (b-a))) (.s v0 v1 (.s a23 (.a a20 n1) (.j v1 v3))) tr h1 g1 k2)) (λg2 k2=>(lin (X5 a c b (min d (b-a)) (b-a)) (.s a01 v2 (.s a03 (.a a01 n1) (.i v4 v3 (.f v2 a40)))) tr h2 g1 k2 (Qah b a :))))
theorem om440 {a b c:Nat}(h0:a<b):a+min c (b-a)<=b:=nA λg1=>(eMin c (b-a) (λg2 k2=>(eSub b a (λg3 k3=>(lin (X5 b a (min c (b-a)) c (b-a)) (.s v0 a12 (.o v3 v4 (.e v2 v3 (.h a41 v0)))) tr g1 g2 k2 k3)) (λg3 k3=>(lin (X2 a b) (.s v0 v1 (.g v1 v0)) tr h0 g3)))) (λg2 k2=>(eSub b a (λg4 k4=>(lin (X4 b a (min c (b-a)) (b-a)) (.s v0 a12 (.e v2 v3 (.h a31 v0))) tr g1 k2 k4)) (λg4 k4=>(lin (X2 a b) (.s v0 v1 (.g v1 v0)) tr h0 g4)))))
theorem om441 {a b c:Nat}(h0:a<b+c+1):a<=b+c:=nA λg1=>(lin (X3 a b c) (.s v0 (.a a12 n1) (.g a12 v0)) tr h0 g1)
theorem om443 {a b c d:Nat}(h0:a<b)(h1:a+min c (b-a)<=d)(h2:a+c<b):a+c<=d:=nA λg1=>(eMin c (b-a) (λg2 k2=>(lin (X4 a (min c (b-a)) d c) (.o a01 v2 (.s v2 a03 (.j v3 v1))) tr h1 g1 k2)) (λg2 k2=>(lin (X4 a c b (b-a)) (.s a01 v2 (.o v3 v1 (.f v2 a30))) tr h2 g2 (Qah b a :))))
theorem om445 {a b c d:Nat}(h0:a<b)(h1:c<d)(h2:¬(d>=a+1)):a-d<b:=nB λg1=>(lin (X3 a b (a-d)) (.s v0 v1 (.o v1 v2 (.f v2 v0))) tr h0 g1 (Qwq a d :))
theorem om446 {a b:Nat}(h0:¬(a>=b+1)):a<=b:=nA λg1=>(lin (X2 a b) (.s v0 p1 (.g v1 v0)) tr (nB h0 :) g1)
theorem om447 {a b c:Nat}(h0:a<b)(h1:max 0 b+1<=c):c>=a+1:=nA λg1=>(eMax 0 b (λg2 k2=>(lin (X4 a b (max 0 b) c) (.s v0 v1 (.o p2 v3 (.s v3 p0 (.j v1 v2)))) tr h0 h1 g1 k2)) (λg2 k2=>(lin (X2 a b) (.s v0 v1 (.f v1 n0)) tr h0 g2)))
theorem om448 {a b c:Nat}(h0:a<b)(h1:a<=c):c+1-min b (c+1)<=c-a:=nA λg1=>(eSub c a (λg2 k2=>(eSub (c+1) (min b (c+1)) (λg3 k3=>(eMin b (c+1) (λg4 k4=>(lin (X6 a b (c-a) (c+1-min b (c+1)) c (min b (c+1))) (.s v0 v1 (.s v2 v3 (.i v4 a20 (.e (.a v3 v5) p4 (.j v1 v5))))) tr h0 g1 k2 k3 k4)) (λg4 k4=>(lin (X4 (c-a) (c+1-min b (c+1)) (min b (c+1)) c) (.s v0 v1 (.e a12 p3 (.j p3 v2))) tr g1 k3 k4)))) (λg3 k3=>(lin (X2 (c-a) (c+1-min b (c+1))) (.s v0 v1 (.h v1 n0)) tr g1 k3)))) (λg2 k2=>(lin (X2 a c) (.o v0 v1 (.g v1 v0)) tr h1 g2)))
theorem om449 {a b c:Nat}(h0:a<b)(h1:c<=a):a-c<=b:=nA λg1=>(lin (X3 a b (a-c)) (.s v0 v1 (.s v1 v2 (.f v2 v0))) tr h0 g1 (Qwq a c :))
theorem om450 {a b c:Nat}(h0:a-b<=c):a-b<=c:=nA λg1=>(lin (X2 (a-b) c) (.o v0 v1 (.g v1 v0)) tr h0 g1)
theorem om451 {a b c:Nat}(h0:a<b+1-min c (b+1))(h1:c>=b+1):False:=eSub (b+1) (min c (b+1)) (λg2 k2=>(eMin c (b+1) (λg3 k3=>(lin (X5 a (b+1-min c (b+1)) b c (min c (b+1))) (.s v0 v1 (.o p2 v3 (.e a14 p2 (.j v3 v4)))) tr h0 h1 k2 k3)) (λg3 k3=>(lin (X4 a (b+1-min c (b+1)) (min c (b+1)) b) (.s v0 v1 (.e a12 p3 (.j p3 v2))) tr h0 k2 k3)))) (λg2 k2=>(lin (X2 a (b+1-min c (b+1))) (.s v0 v1 (.h v1 n0)) tr h0 k2))
theorem om452 {a b c:Nat}(h0:a<b+1-min c (b+1)):a<=b-c:=nA λg1=>(eSub (b+1) (min c (b+1)) (λg2 k2=>(eMin c (b+1) (λg3 k3=>(lin (X6 a (b+1-min c (b+1)) (b-c) (min c (b+1)) b c) (.s v0 v1 (.s v2 v0 (.e a13 p4 (.i v5 v3 (.f v4 (.a v2 v5)))))) tr h0 g1 k2 k3 (Qah b c :))) (λg3 k3=>(lin (X4 a (b+1-min c (b+1)) (min c (b+1)) b) (.s v0 v1 (.e a12 p3 (.j p3 v2))) tr h0 k2 k3)))) (λg2 k2=>(lin (X2 a (b+1-min c (b+1))) (.s v0 v1 (.h v1 n0)) tr h0 k2)))
theorem om453 {a b c d:Nat}(h0:a<b)(h1:c<d)(h2:c<=a):a-d<b:=nB λg1=>(lin (X3 a b (a-d)) (.s v0 v1 (.o v1 v2 (.f v2 v0))) tr h0 g1 (Qwq a d :))
theorem om454 {a b c d:Nat}(h0:a+(b+c)=d):a<=d:=nA λg1=>(lin (X4 a b c d) (.e (.a v0 a12) v3 (.g v3 v0)) tr h0 g1)
theorem om455 {a b c:Nat}(h0:a+b<c):b+a<c:=nB λg1=>(lin (X3 a b c) (.s a01 v2 (.f v2 a10)) tr h0 g1)
theorem om456 {a b c:Nat}(h0:a<min b c):a<b:=nB λg1=>(eMin b c (λg2 k2=>(lin (X3 a (min b c) b) (.s v0 v1 (.o v2 v0 (.h v1 v2))) tr h0 g1 k2)) (λg2 k2=>(lin (X4 a (min b c) b c) (.s v0 v1 (.o v2 v0 (.o v3 v2 (.h v1 v3)))) tr h0 g1 g2 k2)))
theorem om457 {a b c d:Nat}(h0:a<min b c):d+a<d+b:=nB λg1=>(eMin b c (λg2 k2=>(lin (X4 a (min b c) d b) (.s v0 v1 (.o a23 a20 (.h v1 v3))) tr h0 g1 k2)) (λg2 k2=>(lin (X5 a (min b c) d b c) (.s v0 v1 (.o a23 a20 (.o v4 v3 (.h v1 v4)))) tr h0 g1 g2 k2)))
theorem om458 {a b c:Nat}(h0:a<min b c):a<c:=nB λg1=>(eMin b c (λg2 k2=>(lin (X4 a (min b c) c b) (.s v0 v1 (.o v2 v0 (.o v3 v2 (.h v1 v3)))) tr h0 g1 g2 k2)) (λg2 k2=>(lin (X3 a (min b c) c) (.s v0 v1 (.o v2 v0 (.h v1 v2))) tr h0 g1 k2)))
theorem om459 {a b:Nat}(h0:a<=b)(h1:¬(a=b)):a<b:=nB λg1=>(eNeN h1 (λg2=>(lin (X2 b a) (.o v0 v1 (.g v1 v0)) tr g1 g2)) (λg2=>(lin (X2 a b) (.o v0 v1 (.g v1 v0)) tr h0 g2)))
theorem om460 {a b c d:Nat}(h0:a<min b (c-d)):d+a<c:=nB λg1=>(eMin b (c-d) (λg2 k2=>(eSub c d (λg3 k3=>(lin (X6 a (min b (c-d)) c d b (c-d)) (.s v0 v1 (.o v2 a30 (.o v4 v5 (.e v1 v4 (.h (.a v5 v3) v2))))) tr h0 g1 g2 k2 k3)) (λg3 k3=>(lin (X4 a (min b (c-d)) b (c-d)) (.s v0 v1 (.o v2 v3 (.e v1 v2 (.h v3 n0)))) tr h0 g2 k2 k3)))) (λg2 k2=>(eSub c d (λg4 k4=>(lin (X5 a (min b (c-d)) c d (c-d)) (.s v0 v1 (.o v2 a30 (.e v1 v4 (.h a43 v2)))) tr h0 g1 k2 k4)) (λg4 k4=>(lin (X3 a (min b (c-d)) (c-d)) (.s v0 v1 (.e v1 v2 (.h v2 n0))) tr h0 k2 k4)))))
theorem Qsd {a b:Nat}(h0:a<=b)(h1:b<a+1):b=a:=nE (nA λg2=>(lin (X2 b a) (.s v0 p1 (.g v1 v0)) tr h1 g2)) (nA λg3=>(lin (X2 a b) (.o v0 v1 (.g v1 v0)) tr h0 g3))
theorem om462 {a b:Nat}(h0:a<b):min (a+1) b-a=1:=nE (nA λg2=>(eSub (min (a+1) b) a (λg3 k3=>(eMin (a+1) b (λg4 k4=>(lin (X3 (min (a+1) b-a) a (min (a+1) b)) (.s n1 v0 (.e a01 v2 (.h v2 p1))) tr g2 k3 k4)) (λg4 k4=>(lin (X4 (min (a+1) b-a) a (min (a+1) b) b) (.s n1 v0 (.e a01 v2 (.o v3 p1 (.h v2 v3)))) tr g2 k3 g4 k4)))) (λg3 k3=>(lin (X1 (min (a+1) b-a)) (.s n1 v0 (.h v0 n0)) tr g2 k3)))) (nA λg5=>(eMin (a+1) b (λg6 k6=>(lin (X3 (min (a+1) b-a) a (min (a+1) b)) (.s v0 n1 (.i p1 v2 (.f v2 a01))) tr g5 k6 (Qah (min (a+1) b) a :))) (λg6 k6=>(lin (X4 a b (min (a+1) b-a) (min (a+1) b)) (.s v0 v1 (.s v2 n1 (.i v1 v3 (.f v3 a20)))) tr h0 g5 k6 (Qah (min (a+1) b) a :)))))
theorem om463 {a:Nat}(h0:a=0):a=0:=nE (nA λg2=>(lin (X1 a) (.e v0 n0 (.g n0 v0)) tr h0 g2)) (nA λg3=>(lin (X1 a) (.g v0 n0) tr g3))
theorem om464 {a b c d:Nat}(h0:a<b+c)(h1:b+c<=d):a<=d:=nA λg1=>(lin (X4 a b c d) (.s v0 a12 (.o a12 v3 (.g v3 v0))) tr h0 h1 g1)
theorem om465 {a b c:Nat}(h0:a+1=b)(h1:a<=c)(h2:c<b):c=b-1:=nE (nA λg2=>(lin (X3 c b (b-1)) (.s v0 v1 (.s v2 v0 (.f v1 p2))) tr h2 g2 (Qah b 1 :))) (nA λg3=>(eSub b 1 (λg4 k4=>(lin (X4 b a c (b-1)) (.i v0 p1 (.o v1 v2 (.s v2 v3 (.h p3 v0)))) tr h0 h1 g3 k4)) (λg4 k4=>(lin (X2 c (b-1)) (.s v0 v1 (.h v1 n0)) tr g3 k4))))
theorem om466 {a b c d:Nat}(h0:a+b<=c)(h1:d<a+b):d<c:=nB λg1=>(lin (X4 a b c d) (.o a01 v2 (.s v3 a01 (.f v2 v3))) tr h0 h1 g1)
theorem Qsc {a b:Nat}(h0:a+1<b):a<b:=nB λg1=>(lin (X2 a b) (.s p0 v1 (.f v1 v0)) tr h0 g1)
theorem Qsb {a b:Nat}(h0:a<=b):a<=b+1:=nA λg1=>(lin (X2 a b) (.o v0 v1 (.g p1 v0)) tr h0 g1)
theorem om469 {a b:Nat}(h0:a<b)(h1:a+1=b):b<=a+1:=nA λg1=>(lin (X2 b a) (.i v0 p1 (.g p1 v0)) tr h1 g1)
theorem om470 {a b:Nat}(h0:a<b):a<=b-1:=nA λg1=>(lin (X3 a b (b-1)) (.s v0 v1 (.s v2 v0 (.f v1 p2))) tr h0 g1 (Qah b 1 :))
theorem Qsa {a:Nat}(h0:0<a):a-1<a:=nB λg1=>(eSub a 1 (λg2 k2=>(lin (X2 a (a-1)) (.o v0 v1 (.h p1 v0)) tr g1 k2)) (λg2 k2=>(lin (X1 a) (.s n0 v0 (.g v0 n1)) tr h0 g2)))
theorem Qr9 {a b:Nat}(h0:a+1<b)(h1:a<b)(h2:¬(a+1+1=b)):a+1+1<b:=nB λg1=>(eNeN h2 (λg2=>(lin (X2 b a) (.o v0 (.a p1 n1) (.g (.a p1 n1) v0)) tr g1 g2)) (λg2=>(lin (X2 a b) (.s p0 v1 (.g v1 (.a p0 n1))) tr h0 g2)))
theorem om473 {a b:Nat}(h0:a+1<b):a+(b-a)<=b:=nA λg1=>(eSub b a (λg2 k2=>(lin (X3 b a (b-a)) (.s v0 a12 (.h a21 v0)) tr g1 k2)) (λg2 k2=>(lin (X2 a b) (.s p0 v1 (.g v1 v0)) tr h0 g2)))
theorem om474 {a b:Nat}(h0:a+1<b):0<b-a:=nB λg1=>(lin (X3 a b (b-a)) (.s p0 v1 (.o v2 n0 (.f v1 a20))) tr h0 g1 (Qah b a :))
theorem om475 {a b:Nat}(h0:a<b):a+1+(b-(a+1))<=b:=nA λg1=>(eSub b (a+1) (λg2 k2=>(lin (X3 b a (b-(a+1))) (.s v0 (.a p1 v2) (.h (.a v2 p1) v0)) tr g1 k2)) (λg2 k2=>(lin (X2 a b) (.s v0 v1 (.g v1 p0)) tr h0 g2)))
theorem om476 {a b:Nat}(h0:a<b)(h1:¬(a+1=b)):0<b-(a+1):=nB λg1=>(eNeN h1 (λg2=>(lin (X3 (b-(a+1)) a b) (.o v0 n0 (.s p1 v2 (.f v2 (.a v0 p1)))) tr g1 g2 (Qah b (a+1) :))) (λg2=>(lin (X2 a b) (.s v0 v1 (.g v1 p0)) tr h0 g2)))
theorem om477 {a b c d:Nat}(h0:a<b)(h1:a+1<=c)(h2:c<a+1+d):c-(a+1)<d:=nB λg1=>(eSub c (a+1) (λg2 k2=>(lin (X4 c a d (c-(a+1))) (.s v0 (.a p1 v2) (.o v2 v3 (.h (.a v3 p1) v0))) tr h2 g1 k2)) (λg2 k2=>(lin (X2 a c) (.o p0 v1 (.g v1 p0)) tr h1 g2)))
theorem om478 {a b c d:Nat}(h0:a+1<b)(h1:a+c<=d)(h2:d<b):d-a<b-a:=nB λg1=>(eSub d a (λg2 k2=>(lin (X5 d b (b-a) (d-a) a) (.s v0 v1 (.o v2 v3 (.e a34 v0 (.f v1 a24)))) tr h2 g1 k2 (Qah b a :))) (λg2 k2=>(lin (X3 a c d) (.o a01 v2 (.g v2 v0)) tr h1 g2)))
theorem om479 {a b c:Nat}(h0:a<b)(h1:a+1<=c):a+1+(c-(a+1))=c:=nE (nA λg2=>(eSub c (a+1) (λg3 k3=>(lin (X3 c a (c-(a+1))) (.s v0 (.a p1 v2) (.h (.a v2 p1) v0)) tr g2 k3)) (λg3 k3=>(lin (X2 a c) (.o p0 v1 (.g v1 p0)) tr h1 g3)))) (nA λg4=>(lin (X3 a (c-(a+1)) c) (.s (.a p0 v1) v2 (.f v2 (.a v1 p0))) tr g4 (Qah c (a+1) :)))
theorem om480 {a b c d:Nat}(h0:a<b)(h1:a+1+c<=d):c<=d-(a+1):=nA λg1=>(lin (X4 a c d (d-(a+1))) (.o (.a p0 v1) v2 (.s v3 v1 (.f v2 (.a v3 p0)))) tr h1 g1 (Qah d (a+1) :))
theorem om481 {a b c d:Nat}(h0:a<b)(h1:a+1+c<=d)(h2:d<b):d-(a+1)<b-(a+1):=nB λg1=>(eSub d (a+1) (λg2 k2=>(lin (X5 d b (b-(a+1)) (d-(a+1)) a) (.s v0 v1 (.o v2 v3 (.e (.a v3 p4) v0 (.f v1 (.a v2 p4))))) tr h2 g1 k2 (Qah b (a+1) :))) (λg2 k2=>(lin (X3 a c d) (.o (.a p0 v1) v2 (.g v2 p0)) tr h1 g2)))
theorem om482 {a b:Int}(h0:a<b):a<=b:=Qac λg1=>(linz (Z2 a b) [] (.s z0 z1 (.g z1 z0)) tr h0 g1)
theorem om483 {a b c d:Nat}(h0:a<b)(h1:a+1+c<=d):a+1+(d-(a+1))=d:=nE (nA λg2=>(eSub d (a+1) (λg3 k3=>(lin (X3 d a (d-(a+1))) (.s v0 (.a p1 v2) (.h (.a v2 p1) v0)) tr g2 k3)) (λg3 k3=>(lin (X3 a c d) (.o (.a p0 v1) v2 (.g v2 p0)) tr h1 g3)))) (nA λg4=>(lin (X3 a (d-(a+1)) d) (.s (.a p0 v1) v2 (.f v2 (.a v1 p0))) tr g4 (Qah d (a+1) :)))
theorem om484:(0:Nat)<=0:=nA λg1=>(lin [] (.g n0 n0) tr g1)
theorem om485 {a b c:Nat}(h0:a<b)(h1:c<=b-(a+1)):a+1+c<=b:=nA λg1=>(eSub b (a+1) (λg2 k2=>(lin (X4 c (b-(a+1)) b a) (.o v0 v1 (.s v2 (.a p3 v0) (.h (.a v1 p3) v2))) tr h1 g1 k2)) (λg2 k2=>(lin (X2 a b) (.s v0 v1 (.g v1 p0)) tr h0 g2)))
theorem om486 {a b c:Nat}(h0:a<b):0<=c:=nA λg1=>(lin (X1 c) (.g v0 n0) tr g1)
theorem om487 {a b c:Nat}(h0:a+1<b)(h1:c<=b-a):a+c<=b:=nA λg1=>(eSub b a (λg2 k2=>(lin (X4 c (b-a) b a) (.o v0 v1 (.s v2 a30 (.h a13 v2))) tr h1 g1 k2)) (λg2 k2=>(lin (X2 a b) (.s p0 v1 (.g v1 v0)) tr h0 g2)))
theorem om488 {a b c d e:Nat}(h0:a<=b):a<=b+1+(min (c+1+d) e-(c+1)):=nA λg1=>(lin (X3 a b (min (c+1+d) e-(c+1))) (.o v0 v1 (.g (.a p1 v2) v0)) tr h0 g1)
theorem om489 {a b c d e:Nat}(h0:a<=b):a<=b+(min (c+d) e-c):=nA λg1=>(lin (X3 a b (min (c+d) e-c)) (.o v0 v1 (.g a12 v0)) tr h0 g1)
theorem om490 {a:Nat}(h0:1=a):a<=1:=nA λg1=>(lin (X1 a) (.i v0 n1 (.g n1 v0)) tr h0 g1)
theorem om491 {a b c:Nat}(h0:a<b)(h1:a+1+c=b):b<=a+1+c:=nA λg1=>(lin (X3 b a c) (.i v0 (.a p1 v2) (.g (.a p1 v2) v0)) tr h1 g1)
theorem om492 {a b c:Nat}(h0:a+b=c):c<=a+b:=nA λg1=>(lin (X3 c a b) (.i v0 a12 (.g a12 v0)) tr h0 g1)
theorem om493 {a b c:Nat}(h0:a+1<b)(h1:c<=b-a)(h2:¬(a+c+1=b))(h3:¬(a+c=b)):a+c+1<b:=nB λg1=>(eNeN h2 (λg2=>(lin (X3 b a c) (.o v0 (.a a12 n1) (.g (.a a12 n1) v0)) tr g1 g2)) (λg2=>(eNeN h3 (λg3=>(lin (X3 b a c) (.s v0 (.a a12 n1) (.g a12 v0)) tr g2 g3)) (λg3=>(eSub b a (λg4 k4=>(lin (X4 c (b-a) b a) (.o v0 v1 (.s v2 a30 (.h a13 v2))) tr h1 g3 k4)) (λg4 k4=>(lin (X2 a b) (.s p0 v1 (.g v1 v0)) tr h0 g4)))))))
theorem om494 {a:Nat}(h0:¬(a > 0)):a=0:=nE (nA λg2=>(lin (X1 a) (.o v0 n0 (.g n0 v0)) tr (nA h0 :) g2)) (nA λg3=>(lin (X1 a) (.g v0 n0) tr g3))
theorem om495 {a:Nat}(h0:¬(0+1=a))(h1:0<a):0+1<a:=nB λg1=>(eNeN h0 (λg2=>(lin (X1 a) (.o v0 (.a n0 n1) (.g (.a n0 n1) v0)) tr g1 g2)) (λg2=>(lin (X1 a) (.s n0 v0 (.g v0 (.a n0 n1))) tr h1 g2)))
theorem om496 {a b c:Nat}(h0:a<b)(h1:c<=b-(a+1))(h2:¬(a+1+c=b)):a+1+c<b:=nB λg1=>(eNeN h2 (λg2=>(lin (X3 b a c) (.o v0 (.a p1 v2) (.g (.a p1 v2) v0)) tr g1 g2)) (λg2=>(eSub b (a+1) (λg3 k3=>(lin (X4 c (b-(a+1)) b a) (.o v0 v1 (.s v2 (.a p3 v0) (.h (.a v1 p3) v2))) tr h1 g2 k3)) (λg3 k3=>(lin (X2 a b) (.s v0 v1 (.g v1 p0)) tr h0 g3)))))
theorem om497 {a b:Nat}(h0:¬(1=a))(h1:¬(0+1=b))(h2:0<b)(h3:0<a):1<a:=nB λg1=>(eNeN h0 (λg2=>(lin (X1 a) (.o v0 n1 (.g n1 v0)) tr g1 g2)) (λg2=>(lin (X1 a) (.s n0 v0 (.g v0 n1)) tr h3 g2)))
theorem om498 {a b c:Nat}(h0:a<b)(h1:¬(c > 0)):c=0:=nE (nA λg2=>(lin (X1 c) (.o v0 n0 (.g n0 v0)) tr (nA h1 :) g2)) (nA λg3=>(lin (X1 c) (.g v0 n0) tr g3))
theorem Quq {a b:Nat}(h0:a<b)(h1:¬(a+1=b)):a+1<b:=nB λg1=>(eNeN h1 (λg2=>(lin (X2 b a) (.o v0 p1 (.g p1 v0)) tr g1 g2)) (λg2=>(lin (X2 a b) (.s v0 v1 (.g v1 p0)) tr h0 g2)))
theorem om500 {a b c:Nat}(h0:max 0 (a+b)+1<=c)(h1:c<=a+b):False:=eMax 0 (a+b) (λg2 k2=>(lin (X4 (max 0 (a+b)) c a b) (.o p0 v1 (.o v1 a23 (.j a23 v0))) tr h0 h1 k2)) (λg2 k2=>(lin (X4 (max 0 (a+b)) c a b) (.o p0 v1 (.o v1 a23 (.f a23 n0))) tr h0 h1 g2))
theorem Qr8 {a b c:Nat}(h0:a+1+b<=c):a+1+(b+1)<=c+1:=nA λg1=>(lin (X3 a b c) (.o (.a p0 v1) v2 (.g p2 (.a p0 p1))) tr h0 g1)
theorem om504 {a b c:Nat}(h0:a<=b)(h1:b<a+(c-a)):b<c:=nB λg1=>(eSub c a (λg2 k2=>(lin (X4 b a (c-a) c) (.s v0 a12 (.o v3 v0 (.h a21 v3))) tr h1 g1 k2)) (λg2 k2=>(lin (X3 a b (c-a)) (.o v0 v1 (.s v1 a02 (.h v2 n0))) tr h0 h1 k2)))
theorem om505 {a b c:Nat}(h0:a<=b)(h1:c<a):c<=b:=nA λg1=>(lin (X3 a b c) (.o v0 v1 (.s v2 v0 (.g v1 v2))) tr h0 h1 g1)
theorem om506 {a:Nat}(h0:0<a):a=a-1+1:=nE (nA λg2=>(lin (X2 (a-1) a) (.s p0 v1 (.f v1 p0)) tr g2 (Qah a 1 :))) (nA λg3=>(eSub a 1 (λg4 k4=>(lin (X2 a (a-1)) (.s v0 p1 (.h p1 v0)) tr g3 k4)) (λg4 k4=>(lin (X1 a) (.s n0 v0 (.g v0 n1)) tr h0 g4))))
theorem Qup {a:Nat}:a<=a+1:=nA λg1=>(lin (X1 a) (.g p0 v0) tr g1)
theorem om508 {a b:Nat}(h0:a=1)(h1:b<a):b=0:=nE (nA λg2=>(lin (X2 a b) (.e v0 n1 (.s v1 v0 (.g n0 v1))) tr h0 h1 g2)) (nA λg3=>(lin (X1 b) (.g v0 n0) tr g3))
theorem om509 {a:Nat}(h0:a-1<a):0<a:=nB λg1=>(lin (X2 (a-1) a) (.s v0 v1 (.f v1 n0)) tr h0 g1)
theorem Quo {a b:Nat}(h0:0<a)(h1:a<=b):a-1<b:=nB λg1=>(eSub a 1 (λg2 k2=>(lin (X3 a b (a-1)) (.o v0 v1 (.o v1 v2 (.h p2 v0))) tr h1 g1 k2)) (λg2 k2=>(lin (X1 a) (.s n0 v0 (.g v0 n1)) tr h0 g2)))
theorem Qun {a b:Nat}(h0:1<a)(h1:a<=b):a-1<b:=nB λg1=>(eSub a 1 (λg2 k2=>(lin (X3 a b (a-1)) (.o v0 v1 (.o v1 v2 (.h p2 v0))) tr h1 g1 k2)) (λg2 k2=>(lin (X1 a) (.s n1 v0 (.g v0 n1)) tr h0 g2)))
theorem om512 {a:Nat}(h0:1<a):0<a:=nB λg1=>(lin (X1 a) (.s n1 v0 (.f v0 n0)) tr h0 g1)
theorem om513 {a b:Nat}(h0:a<=b):0+a<=b:=nA λg1=>(lin (X2 a b) (.o v0 v1 (.g v1 (.a n0 v0))) tr h0 g1)
theorem Qr7 {a b:Nat}(h0:a-1<b)(h1:¬(a-1=0)):0<a-1:=nB λg1=>(eNeN h1 (λg2=>(lin (X1 (a-1)) (.g v0 n0) tr g2)) (λg2=>(lin (X1 (a-1)) (.o v0 n0 (.g n0 v0)) tr g1 g2)))
theorem Qjt {a b:Nat}(h0:a-1<b):a-1<=b:=nA λg1=>(lin (X2 (a-1) b) (.s v0 v1 (.g v1 v0)) tr h0 g1)
theorem om516 {a b:Nat}(h0:a-1<b):0+(a-1)<=b:=nA λg1=>(lin (X2 (a-1) b) (.s v0 v1 (.g v1 (.a n0 v0))) tr h0 g1)
theorem om517 {a b:Nat}(h0:1<a)(h1:a-1<b)(h2:¬(a-1=1)):a-1-1<a-1:=nB λg1=>(eSub (a-1) 1 (λg2 k2=>(lin (X2 (a-1) (a-1-1)) (.o v0 v1 (.h p1 v0)) tr g1 k2)) (λg2 k2=>(lin (X2 a (a-1)) (.s n1 v0 (.s v1 n1 (.f v0 p1))) tr h0 g2 (Qah a 1 :))))
theorem om518 {a b c d:Nat}(h0:1<a)(h1:b<=c)(h2:d<a):d<=a-1:=nA λg1=>(lin (X3 d a (a-1)) (.s v0 v1 (.s v2 v0 (.f v1 p2))) tr h2 g1 (Qah a 1 :))
theorem Qum {a b:Nat}(h0:a-1<b):a-1<b:=nB λg1=>(lin (X2 (a-1) b) (.s v0 v1 (.f v1 v0)) tr h0 g1)
theorem om520 {a b c:Nat}(h0:a<=b):a<=b+c:=nA λg1=>(lin (X3 a b c) (.o v0 v1 (.g a12 v0)) tr h0 g1)
theorem om521 {a b c:Nat}(h0:a-1<b)(h1:c<=a-1):c<=a-1:=nA λg1=>(lin (X2 c (a-1)) (.o v0 v1 (.g v1 v0)) tr h1 g1)
theorem om522 {a b c:Nat}(h0:a-1<b):0<=c:=nA λg1=>(lin (X1 c) (.g v0 n0) tr g1)
theorem om523 {a b:Nat}(h0:0<a)(h1:b<a):b<=a-1:=nA λg1=>(lin (X3 b a (a-1)) (.s v0 v1 (.s v2 v0 (.f v1 p2))) tr h1 g1 (Qah a 1 :))
theorem om524 {a b c d e f:Nat}(h0:0<a)(h1:1<b)(h2:b-1<c)(h3:¬(b-1=1))(h4:b-1-d > 0)(h5:e<b-1)(h6:f<a):f<=a-1:=nA λg1=>(lin (X3 f a (a-1)) (.s v0 v1 (.s v2 v0 (.f v1 p2))) tr h6 g1 (Qah a 1 :))
theorem om525 {a:Nat}(h0:¬(a=0)):0<a:=nB λg1=>(eNeN h0 (λg2=>(lin (X1 a) (.g v0 n0) tr g2)) (λg2=>(lin (X1 a) (.o v0 n0 (.g n0 v0)) tr g1 g2)))
theorem om526 {a b c d:Nat}(h0:a-1<b)(h1:c-1<d):a-1<b:=nB λg1=>(lin (X2 (a-1) b) (.s v0 v1 (.f v1 v0)) tr h0 g1)
theorem om527 {a b c:Nat}(h0:a<=b)(h1:c<=a):c<=b:=nA λg1=>(lin (X3 a b c) (.o v0 v1 (.o v2 v0 (.g v1 v2))) tr h0 h1 g1)
theorem om528 {a b c d e:Nat}(h0:a-1<b)(h1:c<=d):c<=d+e:=nA λg1=>(lin (X3 c d e) (.o v0 v1 (.g a12 v0)) tr h1 g1)
theorem om529 {a b c:Nat}(h0:a<=b)(h1:¬(b-a > 0))(h2:c<b):c<a:=nB λg1=>(lin (X4 (b-a) c b a) (.o v0 n0 (.s v1 v2 (.o v3 v1 (.f v2 a03)))) tr (nA h1 :) h2 g1 (Qah b a :))
theorem om530 {a b:Nat}(h0:0<a)(h1:¬(b-1=0))(h2:¬(a=1)):0<b-1:=nB λg1=>(eNeN h1 (λg2=>(lin (X1 (b-1)) (.g v0 n0) tr g2)) (λg2=>(lin (X1 (b-1)) (.o v0 n0 (.g n0 v0)) tr g1 g2)))
theorem om531 {a:Nat}(h0:a-1<a):a-1<=a:=nA λg1=>(lin (X2 (a-1) a) (.s v0 v1 (.g v1 v0)) tr h0 g1)
theorem om532 {a:Nat}(h0:0<a)(h1:¬(a=1)):1<a:=nB λg1=>(eNeN h1 (λg2=>(lin (X1 a) (.s n0 v0 (.g v0 n1)) tr h0 g2)) (λg2=>(lin (X1 a) (.o v0 n1 (.g n1 v0)) tr g1 g2)))
theorem om533 {a b c:Nat}(h0:a-1<b)(h1:¬(c=1))(h2:¬(c=0)):1<c:=nB λg1=>(eNeN h1 (λg2=>(eNeN h2 (λg3=>(lin (X1 c) (.g v0 n0) tr g3)) (λg3=>(lin (X1 c) (.s v0 n1 (.g n0 v0)) tr g2 g3)))) (λg2=>(lin (X1 c) (.o v0 n1 (.g n1 v0)) tr g1 g2)))
theorem om534 {a b c:Nat}(h0:a-1<b)(h1:c<=a-1):c<=b:=nA λg1=>(lin (X3 (a-1) b c) (.s v0 v1 (.o v2 v0 (.g v1 v2))) tr h0 h1 g1)
theorem om535 {a b c:Nat}(h0:1<a)(h1:a-1<b)(h2:¬(a-1=1))(h3:c<=a-1)(h4:¬(a-1-c > 0)):1<a-1:=nB λg1=>(eNeN h2 (λg2=>(lin (X2 a (a-1)) (.s n1 v0 (.s v1 n1 (.f v0 p1))) tr h0 g2 (Qah a 1 :))) (λg2=>(lin (X1 (a-1)) (.o v0 n1 (.g n1 v0)) tr g1 g2)))
theorem om536 {a b c d:Nat}(h0:1<a)(h1:a-1<b)(h2:¬(a-1=1))(h3:c<=a-1)(h4:¬(a-1-c > 0))(h5:d<a-1):d<c:=nB λg1=>(lin (X4 (a-1-c) d (a-1) c) (.o v0 n0 (.s v1 v2 (.o v3 v1 (.f v2 a03)))) tr (nA h4 :) h5 g1 (Qah (a-1) c :))
theorem om537 {a b:Nat}(h0:1<a)(h1:b<a):b<=a-1:=nA λg1=>(lin (X3 b a (a-1)) (.s v0 v1 (.s v2 v0 (.f v1 p2))) tr h1 g1 (Qah a 1 :))
theorem om539 {a b c:Nat}(h0:0<a)(h1:1<b)(h2:c<a):c<=a-1:=nA λg1=>(lin (X3 c a (a-1)) (.s v0 v1 (.s v2 v0 (.f v1 p2))) tr h2 g1 (Qah a 1 :))
theorem om540 {a b:Nat}(h0:1<a)(h1:a-1<b)(h2:¬(a-1=1)):1<a-1:=nB λg1=>(eNeN h2 (λg2=>(lin (X2 a (a-1)) (.s n1 v0 (.s v1 n1 (.f v0 p1))) tr h0 g2 (Qah a 1 :))) (λg2=>(lin (X1 (a-1)) (.o v0 n1 (.g n1 v0)) tr g1 g2)))
theorem om541 {a b c d:Nat}:¬(a+b<=c/\c<a+b+0/\c<d):=λg1=>(lin (X3 a b c) (.o a01 v2 (.g v2 (.a a01 n0))) tr (And.left g1 :) (And.left g1.2 :))
theorem om542 {a b c d:Nat}(h0:a+b<=c)(h1:a<=d/\d<a+b):a<=d/\d<a+b/\d<c:=⟨nA λg1=>(lin (X2 a d) (.o v0 v1 (.g v1 v0)) tr (And.left h1 :) g1) ,⟨nB λg2=>(lin (X3 d a b) (.s v0 a12 (.f a12 v0)) tr (And.right h1 :) g2) ,nB λg3=>(lin (X4 a b c d) (.o a01 v2 (.s v3 a01 (.f v2 v3))) tr h0 (And.right h1 :) g3) ⟩⟩
theorem om543 {a b c d:Nat}(h0:¬(a<=b/\b<a+c)):¬(a<=b/\b<a+c/\b<d):=λg1=>(eNA h0 (λg2=>(lin (X2 a b) (.o v0 v1 (.g v1 v0)) tr (And.left g1 :) (nB g2 :))) (λg2=>(lin (X3 b a c) (.s v0 a12 (.f a12 v0)) tr (And.left g1.2 :) (nA g2 :))))
theorem om544 {a b c:Nat}(h0:a+b<=c):min a c=a:=nE (nA λg2=>(eMin a c (λg3 k3=>(lin (X2 a (min a c)) (.s v0 v1 (.h v1 v0)) tr g2 k3)) (λg3 k3=>(lin (X3 a (min a c) c) (.s v0 v1 (.o v2 v0 (.h v1 v2))) tr g2 g3 k3)))) (nA λg4=>(eMin a c (λg5 k5=>(lin (X2 (min a c) a) (.s v0 v1 (.j v1 v0)) tr g4 k5)) (λg5 k5=>(lin (X4 a b c (min a c)) (.o a01 v2 (.s v3 v0 (.j v2 v3))) tr h0 g4 k5))))
theorem om545 {a b c d:Nat}(h0:a=b)(h1:c<b):¬(b<=c/\c<b+d):=λg1=>(lin (X2 c b) (.s v0 v1 (.f v1 v0)) tr h1 (And.left g1 :))
theorem om546 {a b c d e:Nat}(h0:a+(b+1)<=c/\c<a+(b+1)+d/\c<e):a+b<=c/\c<a+b+(d+1)/\c<e:=⟨nA λg1=>(lin (X3 a b c) (.o (.a v0 p1) v2 (.g v2 a01)) tr (And.left h0 :) g1) ,⟨nB λg2=>(lin (X4 c a b d) (.s v0 (.a (.a v1 p2) v3) (.f (.a a12 p3) v0)) tr (And.left h0.2 :) g2) ,nB λg3=>(lin (X2 c e) (.s v0 v1 (.f v1 v0)) tr (And.right h0.2 :) g3) ⟩⟩
theorem om548 {a b c d:Nat}(h0:a<=b)(h1:b<=c)(h2:d=b-a):a+d<=c:=nA λg1=>(eSub b a (λg2 k2=>(lin (X5 b c d (b-a) a) (.o v0 v1 (.e v2 v3 (.s v1 a42 (.h a34 v0)))) tr h1 h2 g1 k2)) (λg2 k2=>(lin (X2 a b) (.o v0 v1 (.g v1 v0)) tr h0 g2)))
theorem om549 {a b c:Nat}(h0:a=b)(h1:¬(c<b)):a<=c:=nA λg1=>(lin (X3 a b c) (.e v0 v1 (.o v1 v2 (.g v2 v0))) tr h0 (nA h1 :) g1)
theorem om550 {a b c:Nat}(h0:a<=b)(h1:c=b-a):a+c=b:=nE (nA λg2=>(eSub b a (λg3 k3=>(lin (X4 c (b-a) b a) (.e v0 v1 (.s v2 a30 (.h a13 v2))) tr h1 g2 k3)) (λg3 k3=>(lin (X2 a b) (.o v0 v1 (.g v1 v0)) tr h0 g3)))) (nA λg4=>(lin (X4 (b-a) c a b) (.i v0 v1 (.s a21 v3 (.f v3 a02))) tr h1 g4 (Qah b a :)))
theorem om551 {a b c d e:Nat}(h0:a+(b+1)<=c/\c<a+(b+1)+d/\c<e):c-(a+b)=c-(a+(b+1))+1:=nE (nA λg2=>(eSub c (a+b) (λg3 k3=>(lin (X5 (c-(a+(b+1))) (c-(a+b)) a b c) (.s p0 v1 (.e (.a v1 a23) v4 (.f v4 (.a v0 (.a v2 p3))))) tr g2 k3 (Qah c (a+(b+1)) :))) (λg3 k3=>(lin (X3 a b c) (.o (.a v0 p1) v2 (.g v2 a01)) tr (And.left h0 :) g3)))) (nA λg4=>(eSub c (a+(b+1)) (λg5 k5=>(lin (X5 (c-(a+b)) (c-(a+(b+1))) a b c) (.s v0 p1 (.e (.a v1 (.a v2 p3)) v4 (.f v4 (.a v0 a23)))) tr g4 k5 (Qah c (a+b) :))) (λg5 k5=>(lin (X3 a b c) (.o (.a v0 p1) v2 (.g v2 (.a v0 p1))) tr (And.left h0 :) g5))))
theorem om552 {a b c d:Nat}(h0:a=b)(h1:¬(c<b))(h2:c<b+d):b<=c/\c<b+d:=⟨nA λg1=>(lin (X2 b c) (.o v0 v1 (.g v1 v0)) tr (nA h1 :) g1) ,nB λg2=>(lin (X3 c b d) (.s v0 a12 (.f a12 v0)) tr h2 g2) ⟩
theorem om553 {a b c d:Nat}(h0:a=b)(h1:¬(c<b))(h2:c<b+d):c-b<d:=nB λg1=>(eSub c b (λg2 k2=>(lin (X4 c b d (c-b)) (.s v0 a12 (.o v2 v3 (.h a31 v0))) tr h2 g1 k2)) (λg2 k2=>(lin (X2 b c) (.o v0 v1 (.g v1 v0)) tr (nA h1 :) g2)))
theorem om554 {a b c d:Nat}(h0:a=b)(h1:¬(c<b+d)):¬(b<=c/\c<b+d):=λg1=>(lin (X3 b d c) (.o a01 v2 (.g v2 a01)) tr (nA h1 :) (And.right g1 :))
theorem om555 {a b c d:Nat}(h0:a+b=c)(h1:c<d):a+b<d:=nB λg1=>(lin (X4 a b c d) (.e a01 v2 (.s v2 v3 (.f v3 a01))) tr h0 h1 g1)
theorem om556 {a b c d:Nat}(h0:a=b)(h1:¬(c<b))(h2:¬(c<b+d)):d<=c-b:=nA λg1=>(lin (X4 b d c (c-b)) (.o a01 v2 (.s v3 v1 (.f v2 a30))) tr (nA h2 :) g1 (Qah c b :))
theorem om557 {a b c d e:Nat}(h0:a+b=c)(h1:c<d):a+b<=c/\c<a+b+(e+1)/\c<d:=⟨nA λg1=>(lin (X3 a b c) (.e a01 v2 (.g v2 a01)) tr h0 g1) ,⟨nB λg2=>(lin (X4 c a b e) (.i v0 a12 (.f (.a a12 p3) v0)) tr h0 g2) ,nB λg3=>(lin (X2 c d) (.s v0 v1 (.f v1 v0)) tr h1 g3) ⟩⟩
theorem om558 {a b c d:Nat}(h0:a=b)(h1:¬(c<b+d)):b+d+(c-b-d)=c:=nE (nA λg2=>(eSub (c-b) d (λg3 k3=>(eSub c b (λg4 k4=>(lin (X5 c b d (c-b-d) (c-b)) (.s v0 (.a a12 v3) (.e a32 v4 (.h a41 v0))) tr g2 k3 k4)) (λg4 k4=>(lin (X5 b d c (c-b-d) (c-b)) (.o a01 v2 (.s v2 (.a a01 v3) (.e v4 n0 (.f v3 v4)))) tr (nA h1 :) g2 k4 (Qwq (c-b) d :))))) (λg3 k3=>(lin (X4 b d c (c-b)) (.o a01 v2 (.s v3 v1 (.f v2 a30))) tr (nA h1 :) g3 (Qah c b :))))) (nA λg5=>(lin (X5 b d (c-b-d) c (c-b)) (.s (.a a01 v2) v3 (.o v4 a21 (.f v3 a40))) tr g5 (Qah (c-b) d :) (Qah c b :)))
theorem om559 {a b c:Nat}(h0:a+b=c):c-(a+b)=0:=nE (nA λg2=>(eSub c (a+b) (λg3 k3=>(lin (X4 c a b (c-(a+b))) (.i v0 a12 (.s n0 v3 (.h (.a v3 a12) v0))) tr h0 g2 k3)) (λg3 k3=>(lin (X3 a b c) (.e a01 v2 (.g v2 a01)) tr h0 g3)))) (nA λg4=>(lin (X1 (c-(a+b))) (.g v0 n0) tr g4))
theorem om560 {a b c d:Nat}(h0:a+b=c)(h1:¬(c<d)):¬(a+b<d):=λg1=>(lin (X4 c a b d) (.i v0 a12 (.o v3 v0 (.g a12 v3))) tr h0 (nA h1 :) g1)
theorem om561 {a b c d e:Nat}(h0:¬(a<b)):¬(c+d<=a/\a<c+d+(e+1)/\a<b):=λg1=>(lin (X2 b a) (.o v0 v1 (.g v1 v0)) tr (nA h0 :) (And.right g1.2 :))
theorem om562 {a b c d:Nat}(h0:a+b<c)(h1:c<=d):b<min c d-a:=nB λg1=>(eMin c d (λg2 k2=>(lin (X5 a b c (min c d-a) (min c d)) (.s a01 v2 (.o v3 v1 (.i v2 v4 (.f v4 a30)))) tr h0 g1 k2 (Qah (min c d) a :))) (λg2 k2=>(lin (X6 a b c d (min c d-a) (min c d)) (.s a01 v2 (.o v2 v3 (.o v4 v1 (.i v3 v5 (.f v5 a40))))) tr h0 h1 g1 k2 (Qah (min c d) a :))))
theorem om563 {a b c d e:Nat}(h0:¬(a+(b+1)<=c/\c<a+(b+1)+d/\c<e))(h1:¬(a+b=c)):¬(a+b<=c/\c<a+b+(d+1)/\c<e):=λg1=>(eNeN h1 (λg2=>(eNA h0 (λg3=>(lin (X3 a b c) (.s a01 v2 (.g v2 (.a v0 p1))) tr g2 (nB g3 :))) (λg3=>(eNA g3 (λg4=>(lin (X4 c a b d) (.s v0 (.a a12 p3) (.f (.a (.a v1 p2) v3) v0)) tr (And.left g1.2 :) (nA g4 :))) (λg4=>(lin (X2 c e) (.s v0 v1 (.f v1 v0)) tr (And.right g1.2 :) (nA g4 :))))))) (λg2=>(lin (X3 a b c) (.o a01 v2 (.g v2 a01)) tr (And.left g1 :) g2)))
theorem om564 {a b c d e:Nat}(h0:1<=a)(h1:b+c+a<=d)(h2:e=d):b+c<e:=nB λg1=>(lin (X5 a b c d e) (.o n1 v0 (.o (.a a12 v0) v3 (.i v3 v4 (.f v4 a12)))) tr h0 h1 h2 g1)
theorem om565 {a b c d:Nat}(h0:a+b<c)(h1:d<b):a+d<c:=nB λg1=>(lin (X4 a b c d) (.s a01 v2 (.s v3 v1 (.f v2 a03))) tr h0 h1 g1)
theorem om566 {a b c d:Nat}(h0:a<=b)(h1:b-a=0)(h2:¬(c+b<=d)):d<c+a:=nB λg1=>(lin (X5 (b-a) d c b a) (.e v0 n0 (.s v1 a23 (.o a24 v1 (.f v3 a04)))) tr h1 (nB h2 :) g1 (Qah b a :))
theorem om567 {a b:Nat}:a+b<=a+b:=nA λg1=>(lin (X2 a b) (.g a01 a01) tr g1)
theorem Qul {a b c:Nat}(h0:¬(a<b+c)):b+c<=a:=nA λg1=>(lin (X3 b c a) (.o a01 v2 (.g v2 a01)) tr (nA h0 :) g1)
theorem om569 {a b c d:Nat}(h0:1<=a)(h1:b+a<c)(h2:d<=a):b+d+(a-d)-1<c:=nB λg1=>(eSub a d (λg2 k2=>(lin (X6 b a c (b+d+(a-d)-1) (a-d) d) (.s a01 v2 (.o v2 v3 (.e (.a v4 v5) v1 (.f v3 (.a (.a v0 v5) v4))))) tr h1 g1 k2 (Qwq (b+d+(a-d)) 1 :))) (λg2 k2=>(lin (X2 d a) (.o v0 v1 (.g v1 v0)) tr h2 g2)))
theorem om570 {a b c d e f:Nat}(h0:a+b+c<=d)(h1:e=d)(h2:f<c):a+b+f<e:=nB λg1=>(lin (X6 a b c d e f) (.o (.a a01 v2) v3 (.i v3 v4 (.s v5 v2 (.f v4 (.a a01 v5))))) tr h0 h1 h2 g1)
theorem om571 {a:Nat}(h0:1<=a):a-1<a:=nB λg1=>(eSub a 1 (λg2 k2=>(lin (X2 a (a-1)) (.o v0 v1 (.h p1 v0)) tr g1 k2)) (λg2 k2=>(lin (X1 a) (.o n1 v0 (.g v0 n1)) tr h0 g2)))
theorem om572 {a b c:Nat}(h0:1<=a)(h1:b<=a):c+b+(a-b)-1=c+a-1:=nE (nA λg2=>(eSub (c+a) 1 (λg3 k3=>(eSub (c+b+(a-b)) 1 (λg4 k4=>(eSub a b (λg5 k5=>(lin (X6 (c+a-1) (c+b+(a-b)-1) c a b (a-b)) (.s v0 v1 (.i a23 p0 (.e p1 (.a a24 v5) (.h (.a v5 v4) v3)))) tr g2 k3 k4 k5)) (λg5 k5=>(lin (X2 b a) (.o v0 v1 (.g v1 v0)) tr h1 g5)))) (λg4 k4=>(lin (X2 (c+a-1) (c+b+(a-b)-1)) (.s v0 v1 (.h v1 n0)) tr g2 k4)))) (λg3 k3=>(lin (X2 a c) (.o n1 v0 (.g a10 n1)) tr h0 g3)))) (nA λg6=>(eSub (c+a) 1 (λg7 k7=>(lin (X6 (c+b+(a-b)-1) (c+a-1) c a b (a-b)) (.s v0 v1 (.e p1 a23 (.o (.a a24 v5) p0 (.f v3 (.a v5 v4))))) tr g6 k7 (Qah (c+b+(a-b)) 1 :) (Qah a b :))) (λg7 k7=>(lin (X2 (c+b+(a-b)-1) (c+a-1)) (.s v0 v1 (.h v1 n0)) tr g6 k7))))
theorem om573 {a b c d:Nat}(h0:a+b<=c)(h1:c<a+b+d):c-(a+b)<d:=nB λg1=>(eSub c (a+b) (λg2 k2=>(lin (X5 c a b d (c-(a+b))) (.s v0 (.a a12 v3) (.o v3 v4 (.h (.a v4 a12) v0))) tr h1 g1 k2)) (λg2 k2=>(lin (X3 a b c) (.o a01 v2 (.g v2 a01)) tr h0 g2)))
theorem om574 {a b c:Nat}(h0:a+b<=c):a+b+(c-(a+b))=c:=nE (nA λg2=>(eSub c (a+b) (λg3 k3=>(lin (X4 c a b (c-(a+b))) (.s v0 (.a a12 v3) (.h (.a v3 a12) v0)) tr g2 k3)) (λg3 k3=>(lin (X3 a b c) (.o a01 v2 (.g v2 a01)) tr h0 g3)))) (nA λg4=>(lin (X4 a b (c-(a+b)) c) (.s (.a a01 v2) v3 (.f v3 (.a v2 a01))) tr g4 (Qah c (a+b) :)))
theorem om575 {a b c d:Nat}(h0:a+b+c<=d):c<=d-(a+b):=nA λg1=>(lin (X5 a b c d (d-(a+b))) (.o (.a a01 v2) v3 (.s v4 v2 (.f v3 (.a v4 a01)))) tr h0 g1 (Qah d (a+b) :))
theorem om576 {a b c d e:Nat}(h0:a+b+c<=d)(h1:d<a+b+e):d-(a+b)<e:=nB λg1=>(eSub d (a+b) (λg2 k2=>(lin (X5 d a b e (d-(a+b))) (.s v0 (.a a12 v3) (.o v3 v4 (.h (.a v4 a12) v0))) tr h1 g1 k2)) (λg2 k2=>(lin (X4 a b c d) (.o (.a a01 v2) v3 (.g v3 a01)) tr h0 g2)))
theorem om577 {a b c d:Nat}(h0:a+b+c<=d):a+b+(d-(a+b))=d:=nE (nA λg2=>(eSub d (a+b) (λg3 k3=>(lin (X4 d a b (d-(a+b))) (.s v0 (.a a12 v3) (.h (.a v3 a12) v0)) tr g2 k3)) (λg3 k3=>(lin (X4 a b c d) (.o (.a a01 v2) v3 (.g v3 a01)) tr h0 g3)))) (nA λg4=>(lin (X4 a b (d-(a+b)) d) (.s (.a a01 v2) v3 (.f v3 (.a v2 a01))) tr g4 (Qah d (a+b) :)))
theorem om578 {a b c:Nat}(h0:a=0):b+c+a<=b+c:=nA λg1=>(lin (X3 a b c) (.e v0 n0 (.g a12 (.a a12 v0))) tr h0 g1)
theorem om579 {a b c:Nat}(h0:1<=a):b+c<b+c+a:=nB λg1=>(lin (X3 a b c) (.o n1 v0 (.f (.a a12 v0) a12)) tr h0 g1)
theorem om580 {a b c:Nat}(h0:1<=a)(h1:b<=a)(h2:¬(a-b=0)):c+b<=c+a-1:=nA λg1=>(eNeN h2 (λg2=>(lin (X1 (a-b)) (.g v0 n0) tr g2)) (λg2=>(eSub a b (λg3 k3=>(lin (X5 (c+a-1) c b (a-b) a) (.s v0 a12 (.s n0 v3 (.e a32 v4 (.f a14 p0)))) tr g1 g2 k3 (Qah (c+a) 1 :))) (λg3 k3=>(lin (X2 b a) (.o v0 v1 (.g v1 v0)) tr h1 g3)))))
theorem om581 {a b:Nat}(h0:1<=a):b+a-1<b+a:=nB λg1=>(eSub (b+a) 1 (λg2 k2=>(lin (X3 b a (b+a-1)) (.o a01 v2 (.h p2 a01)) tr g1 k2)) (λg2 k2=>(lin (X2 a b) (.o n1 v0 (.g a10 n1)) tr h0 g2)))
theorem Quk {a b c d e:Nat}(h0:a<=b)(h1:c=b-a)(h2:d<c):e+a+d<e+b:=nB λg1=>(eSub b a (λg2 k2=>(lin (X6 c (b-a) d e b a) (.e v0 v1 (.s v2 v0 (.o a34 (.a (.a v3 v5) v2) (.h (.a v1 v5) v4)))) tr h1 h2 g1 k2)) (λg2 k2=>(lin (X2 a b) (.o v0 v1 (.g v1 v0)) tr h0 g2)))
theorem Qop {a b c:Nat}(h0:a+b<c):a+b<=c:=nA λg1=>(lin (X3 a b c) (.s a01 v2 (.g v2 a01)) tr h0 g1)
theorem om589 {a b c d e f i j k l:Nat}(h0:a+b+c<=d)(h1:e=d)(h2:f<=b)(h3:i<=c)(h4:j=b-f)(h5:k=i)(h6:l<j):a+f+l<e:=nB λg1=>(eSub b f (λg2 k2=>(lin [a,b,c,d,e,j,b-f,l,f] (.o (.a a01 v2) v3 (.i v3 v4 (.e v5 v6 (.s v7 v5 (.o v4 (.a (.a v0 v8) v7) (.h (.a v6 v8) v1)))))) tr h0 h1 h4 h6 g1 k2)) (λg2 k2=>(lin (X2 f b) (.o v0 v1 (.g v1 v0)) tr h2 g2)))
theorem om590 {a b c d e:Nat}(h0:a=b)(h1:c<a):d+e+c<d+e+b:=nB λg1=>(lin (X5 a b c d e) (.e v0 v1 (.s v2 v0 (.f (.a a34 v1) (.a a34 v2)))) tr h0 h1 g1)
theorem Qoo {a b c d e f i:Nat}(h0:a+b+c<=d)(h1:e=d)(h2:f<=c)(h3:i=f):a+b+f<=e:=nA λg1=>(lin (X6 a b c d e f) (.o (.a a01 v2) v3 (.i v3 v4 (.o v5 v2 (.g v4 (.a a01 v5))))) tr h0 h1 h2 g1)
theorem om592 {a b c d e f i j:Nat}(h0:a+b+c<=d)(h1:e=d)(h2:f<=c)(h3:i=f)(h4:j<i):a+b+j<e:=nB λg1=>(lin (X8 a b c d e f i j) (.o (.a a01 v2) v3 (.i v3 v4 (.o v5 v2 (.e v6 v5 (.s v7 v6 (.f v4 (.a a01 v7))))))) tr h0 h1 h2 h3 h4 g1)
theorem om593 {a b c d e f:Nat}(h0:a<=b)(h1:c=b-a)(h2:d<=e)(h3:e<c):f+a+d<f+b:=nB λg1=>(eSub b a (λg2 k2=>(lin (X7 c (b-a) d e f b a) (.e v0 v1 (.o v2 v3 (.s v3 v0 (.o (.a v4 v5) (.a (.a v4 v6) v2) (.h (.a v1 v6) v5))))) tr h1 h2 h3 g1 k2)) (λg2 k2=>(lin (X2 a b) (.o v0 v1 (.g v1 v0)) tr h0 g2)))
theorem om594 {a b c:Nat}(h0:0<=a):b<=b+c+a:=nA λg1=>(lin (X3 b c a) (.g (.a a01 v2) v0) tr g1)
theorem om595 {a b c d:Nat}(h0:a<=b):c+d+a<=c+d+b:=nA λg1=>(lin (X4 a b c d) (.o v0 v1 (.g (.a a23 v1) (.a a23 v0))) tr h0 g1)
theorem om596 {a b c d e f:Nat}(h0:a=b)(h1:c<=d)(h2:d<a):e+f+c<e+f+b:=nB λg1=>(lin (X6 a b c d e f) (.e v0 v1 (.o v2 v3 (.s v3 v0 (.f (.a (.a v4 v5) v1) (.a (.a v4 v5) v2))))) tr h0 h1 h2 g1)
theorem om597 {a b c:Nat}(h0:0<=a):b+c<=b+c+a:=nA λg1=>(lin (X3 b c a) (.g (.a a01 v2) a01) tr g1)
theorem om598 {a b c d e f:Nat}(h0:a<=b)(h1:c=a)(h2:d<c):e+f+d<e+f+b:=nB λg1=>(lin (X6 a b c d e f) (.o v0 v1 (.e v2 v0 (.s v3 v2 (.f (.a (.a v4 v5) v1) (.a (.a v4 v5) v3))))) tr h0 h1 h2 g1)
theorem om599 {a b c d e:Nat}(h0:a<=b)(h1:¬(c=0))(h2:d=c):e+b+0<e+b+c:=nB λg1=>(eNeN h1 (λg2=>(lin (X1 c) (.g v0 n0) tr g2)) (λg2=>(lin (X3 e b c) (.o (.a a01 v2) (.a a01 n0) (.g n0 v2)) tr g1 g2)))
theorem om600 {a b c d e:Nat}(h0:1<=a)(h1:b<=a)(h2:¬(a-b=0))(h3:¬(c=0))(h4:d=c):e+b+0<e+a:=nB λg1=>(eNeN h2 (λg2=>(lin (X1 (a-b)) (.g v0 n0) tr g2)) (λg2=>(eSub a b (λg3 k3=>(lin (X4 e a b (a-b)) (.o a01 (.a a02 n0) (.s n0 v3 (.h a32 v1))) tr g1 g2 k3)) (λg3 k3=>(lin (X2 b a) (.o v0 v1 (.g v1 v0)) tr h1 g3)))))
theorem om601 {a b:Nat}:a+b<=a+b+0:=nA λg1=>(lin (X2 a b) (.g (.a a01 n0) a01) tr g1)
theorem om602 {a b c d e:Nat}(h0:a<=b)(h1:¬(c=0))(h2:d=c):e+b+(c-1)<e+b+c:=nB λg1=>(eNeN h1 (λg2=>(lin (X1 c) (.g v0 n0) tr g2)) (λg2=>(eSub c 1 (λg3 k3=>(lin (X4 e b c (c-1)) (.o (.a a01 v2) (.a a01 v3) (.h p3 v2)) tr g1 k3)) (λg3 k3=>(lin (X1 c) (.s n0 v0 (.g v0 n1)) tr g2 g3)))))
theorem om603 {a b c d e:Nat}(h0:1<=a)(h1:b<=a)(h2:¬(a-b=0))(h3:¬(c=0))(h4:d=c):e+b+(a-b-1)<e+a:=nB λg1=>(eNeN h2 (λg2=>(lin (X1 (a-b)) (.g v0 n0) tr g2)) (λg2=>(eNeN h3 (λg3=>(lin (X1 c) (.g v0 n0) tr g3)) (λg3=>(eSub (a-b) 1 (λg4 k4=>(eSub a b (λg5 k5=>(lin (X5 e a b (a-b-1) (a-b)) (.o a01 (.a a02 v3) (.e p3 v4 (.h a42 v1))) tr g1 k4 k5)) (λg5 k5=>(lin (X2 b a) (.o v0 v1 (.g v1 v0)) tr h1 g5)))) (λg4 k4=>(lin (X1 (a-b)) (.s n0 v0 (.g v0 n1)) tr g2 g4)))))))
theorem om604 {a b c d e:Nat}(h0:1<=a)(h1:b<=a)(h2:¬(a-b=0))(h3:¬(c=0))(h4:d=c):e+b+(a-b-1)=e+a-1:=nE (nA λg2=>(eNeN h2 (λg3=>(lin (X1 (a-b)) (.g v0 n0) tr g3)) (λg3=>(eNeN h3 (λg4=>(lin (X1 c) (.g v0 n0) tr g4)) (λg4=>(eSub (e+a) 1 (λg5 k5=>(eSub (a-b) 1 (λg6 k6=>(eSub a b (λg7 k7=>(lin (X6 (e+a-1) e b (a-b-1) a (a-b)) (.s v0 (.a a12 v3) (.i a14 p0 (.e p3 v5 (.h (.a v5 v2) v4)))) tr g2 k5 k6 k7)) (λg7 k7=>(lin (X2 b a) (.o v0 v1 (.g v1 v0)) tr h1 g7)))) (λg6 k6=>(lin (X1 (a-b)) (.s n0 v0 (.g v0 n1)) tr g3 g6)))) (λg5 k5=>(lin (X2 a e) (.o n1 v0 (.g a10 n1)) tr h0 g5)))))))) (nA λg8=>(eSub (e+a) 1 (λg9 k9=>(lin (X6 e b (a-b-1) (e+a-1) a (a-b)) (.s (.a a01 v2) v3 (.e p3 a04 (.o v5 p2 (.f v4 (.a v5 v1))))) tr g8 k9 (Qah (a-b) 1 :) (Qah a b :))) (λg9 k9=>(lin (X2 a e) (.o n1 v0 (.g a10 n1)) tr h0 g9))))
theorem om605 {a b c:Nat}:a+b<=a+b+(c-1):=nA λg1=>(lin (X3 a b (c-1)) (.g (.a a01 v2) a01) tr g1)
theorem om606 {a b c:Nat}:a+b<=a+b+c:=nA λg1=>(lin (X3 a b c) (.g (.a a01 v2) a01) tr g1)
theorem om607 {a b c:Nat}(h0:a<=b):c+b=c+a+(c+b-(c+a)):=nE (nA λg2=>(lin (X4 c a (c+b-(c+a)) b) (.s (.a a01 v2) a03 (.f a03 (.a v2 a01))) tr g2 (Qah (c+b) (c+a) :))) (nA λg3=>(eSub (c+b) (c+a) (λg4 k4=>(lin (X4 c b a (c+b-(c+a))) (.s a01 (.a a02 v3) (.h (.a v3 a02) a01)) tr g3 k4)) (λg4 k4=>(lin (X3 a b c) (.o v0 v1 (.g a21 a20)) tr h0 g4))))
theorem om609 {a b c d e f i j:Nat}(h0:a+b+c<=d)(h1:e=d)(h2:f<=b)(h3:i<=c)(h4:j=b+i-f):a+f+j<=e:=nA λg1=>(eSub (b+i) f (λg2 k2=>(lin [a,b,c,d,e,i,j,b+i-f,f] (.o (.a a01 v2) v3 (.i v3 v4 (.o v5 v2 (.e v6 v7 (.s v4 (.a (.a v0 v8) v6) (.h (.a v7 v8) (.a v1 v5))))))) tr h0 h1 h3 h4 g1 k2)) (λg2 k2=>(lin (X3 f b i) (.o v0 v1 (.g a12 v0)) tr h2 g2)))
theorem om610 {a b c d:Nat}(h0:a<=b):c+a<=c+b+d:=nA λg1=>(lin (X4 a b c d) (.o v0 v1 (.g (.a a21 v3) a20)) tr h0 g1)
theorem om611 {a b c d e f:Nat}(h0:a+b+c<=d)(h1:e=d)(h2:f<=c):a+b+f<=e:=nA λg1=>(lin (X6 a b c d e f) (.o (.a a01 v2) v3 (.i v3 v4 (.o v5 v2 (.g v4 (.a a01 v5))))) tr h0 h1 h2 g1)
theorem om612 {a b c d e f i:Nat}(h0:a<=b)(h1:c=d+a-e)(h2:f<i\/i+d+b<=f):¬(i+e<=f/\f<i+e+c):=λg1=>(Qb h2 (λg2=>(lin (X3 i e f) (.o a01 v2 (.g v2 v0)) tr (And.left g1 :) g2)) (λg2=>(eSub (d+a) e (λg3 k3=>(lin (X8 a b c (d+a-e) f i e d) (.o v0 v1 (.e v2 v3 (.s v4 (.a (.a v5 v6) v2) (.o (.a (.a v5 v7) v1) v4 (.h (.a v3 v6) (.a v7 v0)))))) tr h0 h1 (And.right g1 :) g2 k3)) (λg3 k3=>(lin (X5 c (d+a-e) i e f) (.e v0 v1 (.o a23 v4 (.s v4 (.a a23 v0) (.h v1 n0)))) tr h1 (And.left g1 :) (And.right g1 :) k3)))))
theorem om613 {a b c:Nat}(h0:a<b+c):b+c-1<b+c:=nB λg1=>(eSub (b+c) 1 (λg2 k2=>(lin (X3 b c (b+c-1)) (.o a01 v2 (.h p2 a01)) tr g1 k2)) (λg2 k2=>(lin (X3 a b c) (.s v0 a12 (.g a12 n1)) tr h0 g2)))
theorem om614 {a b c:Nat}:0<=a-(b+c):=nA λg1=>(lin (X1 (a-(b+c))) (.g v0 n0) tr g1)
theorem om615 {a b c d e:Nat}(h0:a<=b)(h1:c+d<=a/\a<c+d+e)(h2:c+d<=b/\b<c+d+e):a-(c+d)<=b-(c+d):=nA λg1=>(eSub a (c+d) (λg2 k2=>(lin (X6 a b (b-(c+d)) (a-(c+d)) c d) (.o v0 v1 (.s v2 v3 (.e (.a v3 (.a v4 v5)) v0 (.f v1 (.a v2 (.a v4 v5)))))) tr h0 g1 k2 (Qah b (c+d) :))) (λg2 k2=>(lin (X3 c d a) (.o a01 v2 (.g v2 a01)) tr (And.left h1 :) g2)))
theorem Quj {a b c d e f:Nat}(h0:a=b+c-d)(h1:e+d<=f/\f<e+d+a):f-(e+d)<a:=nB λg1=>(eSub f (e+d) (λg2 k2=>(lin (X5 f e d a (f-(e+d))) (.s v0 (.a a12 v3) (.o v3 v4 (.h (.a v4 a12) v0))) tr (And.right h1 :) g1 k2)) (λg2 k2=>(lin (X3 e d f) (.o a01 v2 (.g v2 a01)) tr (And.left h1 :) g2)))
theorem om617 {a b c d e f i j:Nat}(h0:a=b+c-d)(h1:e<=f)(h2:i+d<=e/\e<i+d+a)(h3:¬(i+d<=f/\f<i+d+a))(h4:j<i+b+c):j<=f:=nA λg1=>(eNA h3 (λg2=>(lin (X4 e f i d) (.o v0 v1 (.o a23 v0 (.g v1 a23))) tr h1 (And.left h2 :) (nB g2 :))) (λg2=>(lin (X8 (b+c-d) a j i b c f d) (.i v0 v1 (.s v2 (.a a34 v5) (.s v6 v2 (.o (.a (.a v3 v7) v1) v6 (.f (.a v4 v5) (.a v0 v7)))))) tr h0 h4 g1 (nA g2 :) (Qah (b+c) d :))))
theorem om618 {a b c d e f i:Nat}(h0:a=b+c-d)(h1:e<=f)(h2:i+d<=e/\e<i+d+a)(h3:¬(i+d<=f/\f<i+d+a)):i+b+c<=f:=nA λg1=>(eNA h3 (λg2=>(lin (X4 e f i d) (.o v0 v1 (.o a23 v0 (.g v1 a23))) tr h1 (And.left h2 :) (nB g2 :))) (λg2=>(lin (X7 (b+c-d) a f i b c d) (.i v0 v1 (.s v2 (.a a34 v5) (.o (.a (.a v3 v6) v1) v2 (.f (.a v4 v5) (.a v0 v6))))) tr h0 g1 (nA g2 :) (Qah (b+c) d :))))
theorem om619 {a b c d e f i:Nat}(h0:a=b+c-d)(h1:e<=f)(h2:¬(i+d<=e/\e<i+d+a))(h3:i+d<=f/\f<i+d+a):e<i+d:=nB λg1=>(eNA h2 (λg2=>(lin (X3 i d e) (.o a01 v2 (.g v2 a01)) tr g1 (nB g2 :))) (λg2=>(lin (X5 e f i d a) (.o v0 v1 (.s v1 (.a a23 v4) (.f (.a a23 v4) v0))) tr h1 (And.right h3 :) (nA g2 :))))
theorem om620 {a b c d e f i j:Nat}(h0:a=b+c-d)(h1:e<=f)(h2:¬(i+d<=e/\e<i+d+a))(h3:i+d<=f/\f<i+d+a)(h4:i+d<=j):e<=j:=nA λg1=>(eNA h2 (λg2=>(lin (X4 i d j e) (.o a01 v2 (.s v2 v3 (.g v3 a01))) tr h4 g1 (nB g2 :))) (λg2=>(lin (X5 e f i d a) (.o v0 v1 (.s v1 (.a a23 v4) (.f (.a a23 v4) v0))) tr h1 (And.right h3 :) (nA g2 :))))
theorem om621 {a b c d e:Nat}(h0:a<=b)(h1:c<d+e+a):c<d+e+b:=nB λg1=>(lin (X5 a b c d e) (.o v0 v1 (.s v2 (.a a34 v0) (.f (.a a34 v1) v2))) tr h0 h1 g1)
theorem om622 {a b c d e f i:Nat}(h0:a=b+c-d)(h1:e<=f)(h2:¬(i+d<=e/\e<i+d+a))(h3:¬(i+d<=f/\f<i+d+a))(h4:¬(e<i+d)):i+b+c<=f:=nA λg1=>(eNA h2 (λg2=>(lin (X3 i d e) (.o a01 v2 (.g v2 a01)) tr (nA h4 :) (nB g2 :))) (λg2=>(lin (X8 (b+c-d) a e f i b c d) (.i v0 v1 (.o v2 v3 (.s v3 (.a (.a v4 v5) v6) (.o (.a (.a v4 v7) v1) v2 (.f (.a v5 v6) (.a v0 v7)))))) tr h0 h1 g1 (nA g2 :) (Qah (b+c) d :))))
theorem om623 {a b c d:Nat}(h0:1<=a)(h1:b+a+c<=d):b+(c+1)<=d:=nA λg1=>(lin (X4 a b c d) (.o n1 v0 (.o (.a a10 v2) v3 (.g v3 (.a v1 p2)))) tr h0 h1 g1)
theorem om624 {a b c d e:Nat}(h0:a+b+c<=d)(h1:e<a+b):e<d:=nB λg1=>(lin (X5 a b c d e) (.o (.a a01 v2) v3 (.s v4 a01 (.f v3 v4))) tr h0 h1 g1)
theorem om625 {a b c:Nat}(h0:1<=a)(h1:b+a<=c):b<=c:=nA λg1=>(lin (X3 b a c) (.o a01 v2 (.g v2 v0)) tr h1 g1)
theorem om626 {a b:Nat}(h0:1<=a)(h1:a<64):1<=a+b:=nA λg1=>(lin (X2 a b) (.o n1 v0 (.g a01 n1)) tr h0 g1)
theorem om627 {a:Nat}(h0:¬(a<64)):1<=a / 2:=nA λg1=>(lin (X2 a (a / 2)) (.o (.n 64) v0 (.c 2 (.a v1 n1) n1 (.g v0 (.a (.m 2 v1) n2)))) tr (nA h0 :) g1 (And.right (Qgf a) :))
theorem om628 {a b:Nat}(h0:a+1<b):min a b=a:=nE (nA λg2=>(eMin a b (λg3 k3=>(lin (X2 a (min a b)) (.s v0 v1 (.h v1 v0)) tr g2 k3)) (λg3 k3=>(lin (X2 a b) (.s p0 v1 (.f v1 v0)) tr h0 g3)))) (nA λg4=>(eMin a b (λg5 k5=>(lin (X2 (min a b) a) (.s v0 v1 (.j v1 v0)) tr g4 k5)) (λg5 k5=>(lin (X2 a b) (.s p0 v1 (.f v1 v0)) tr h0 g5))))
theorem om629 {a b c d e f:Nat}(h0:a<=b)(h1:c+d+e+f<=a):c+d+e<=b:=nA λg1=>(lin (X6 a b c d e f) (.o v0 v1 (.o (.a (.a a23 v4) v5) v0 (.g v1 (.a a23 v4)))) tr h0 h1 g1)
theorem om630 {a b c d e f:Nat}(h0:a+b+c+d<=e)(h1:e<=f):a+b+c<=f:=nA λg1=>(lin (X6 a b c d e f) (.o (.a (.a a01 v2) v3) v4 (.o v4 v5 (.g v5 (.a a01 v2)))) tr h0 h1 g1)
theorem om631 {a b:Nat}(h0:1<=a)(h1:1<=b):1<=a+b:=nA λg1=>(lin (X2 b a) (.o n1 v0 (.g a10 n1)) tr h1 g1)
theorem om632 {a b:Nat}:a+(b+1)+1=a+(b+1+1):=nE (nA λg2=>(lin (X2 a b) (.g (.a v0 (.a p1 n1)) (.a (.a v0 p1) n1)) tr g2)) (nA λg3=>(lin (X2 a b) (.g (.a (.a v0 p1) n1) (.a v0 (.a p1 n1))) tr g3))
theorem om633 {a b:Nat}(h0:2<=a)(h1:min (max 0 a) a<=b)(h2:b<=a):b=a:=nE (nA λg2=>(lin (X2 b a) (.o v0 v1 (.g v1 v0)) tr h2 g2)) (nA λg3=>(eMin (max 0 a) a (λg4 k4=>(eMax 0 a (λg5 k5=>(lin (X4 (min (max 0 a) a) b a (max 0 a)) (.o v0 v1 (.s v1 v2 (.i v3 v0 (.j v2 v3)))) tr h1 g3 k4 k5)) (λg5 k5=>(lin (X1 a) (.o n2 v0 (.f v0 n0)) tr h0 g5)))) (λg4 k4=>(lin (X3 (min (max 0 a) a) b a) (.o v0 v1 (.s v1 v2 (.j v2 v0))) tr h1 g3 k4))))
theorem om634 {a b:Nat}(h0:¬(a>=b)):a+(b-a)<=b:=nA λg1=>(eSub b a (λg2 k2=>(lin (X3 b a (b-a)) (.s v0 a12 (.h a21 v0)) tr g1 k2)) (λg2 k2=>(lin (X2 a b) (.s v0 v1 (.g v1 v0)) tr (nB h0 :) g2)))
theorem om635 {a b:Nat}(h0:¬(a>=b)):1<=b-a:=nA λg1=>(lin (X3 a b (b-a)) (.s v0 v1 (.s v2 n1 (.f v1 a20))) tr (nB h0 :) g1 (Qah b a :))
theorem om639 {a b c d:Nat}(h0:a<b)(h1:min a b<=c)(h2:1<=d):min (a+1) b<=c+d:=nA λg1=>(eMin a b (λg2 k2=>(eMin (a+1) b (λg3 k3=>(lin (X5 (min a b) c d (min (a+1) b) a) (.o v0 v1 (.o n1 v2 (.s a12 v3 (.i v4 v0 (.h v3 p4))))) tr h1 h2 g1 k2 k3)) (λg3 k3=>(lin (X6 (min a b) c d (min (a+1) b) a b) (.o v0 v1 (.o n1 v2 (.s a12 v3 (.i v4 v0 (.o v5 p4 (.h v3 v5)))))) tr h1 h2 g1 k2 g3 k3)))) (λg2 k2=>(lin (X2 a b) (.s v0 v1 (.f v1 v0)) tr h0 g2)))
theorem om641 {a:Nat}(h0:a > 1):a-2<a:=nB λg1=>(eSub a 2 (λg2 k2=>(lin (X2 a (a-2)) (.o v0 v1 (.h (.a v1 n2) v0)) tr g1 k2)) (λg2 k2=>(lin (X2 a (a-2)) (.s n1 v0 (.o v0 v1 (.h v1 n0))) tr h0 g1 k2)))
theorem om643 {a:Nat}(h0:a > 1):a-2+1<a:=nB λg1=>(eSub a 2 (λg2 k2=>(lin (X2 a (a-2)) (.o v0 p1 (.h (.a v1 n2) v0)) tr g1 k2)) (λg2 k2=>(lin (X1 a) (.s n1 v0 (.g v0 n2)) tr h0 g2)))
theorem om644 {a b c:Nat}(h0:¬(a>=b))(h1:c<=b-a):a+c<=b:=nA λg1=>(eSub b a (λg2 k2=>(lin (X4 c (b-a) b a) (.o v0 v1 (.s v2 a30 (.h a13 v2))) tr h1 g1 k2)) (λg2 k2=>(lin (X2 a b) (.s v0 v1 (.g v1 v0)) tr (nB h0 :) g2)))
theorem om645 {a:Nat}(h0:¬(a<=1)):a-2-1+1<a:=nB λg1=>(eSub a 2 (λg2 k2=>(lin (X3 a (a-2-1) (a-2)) (.o v0 p1 (.e (.a v2 n2) v0 (.f v1 v2))) tr g1 k2 (Qwq (a-2) 1 :))) (λg2 k2=>(lin (X1 a) (.s n1 v0 (.g v0 n2)) tr (nB h0 :) g2)))
theorem om646 {a:Nat}(h0:¬(a<=1)):a-2+1<a:=nB λg1=>(eSub a 2 (λg2 k2=>(lin (X2 a (a-2)) (.o v0 p1 (.h (.a v1 n2) v0)) tr g1 k2)) (λg2 k2=>(lin (X1 a) (.s n1 v0 (.g v0 n2)) tr (nB h0 :) g2)))
theorem om647 {a:Nat}(h0:¬(a<=1))(h1:¬(a-2 > 0)):a-2+1<a:=nB λg1=>(lin (X2 a (a-2)) (.s n1 v0 (.o v1 n0 (.f v0 p1))) tr (nB h0 :) (nA h1 :) g1)
theorem om650 {a b:Nat}(h0:2<=a)(h1:b<=a):b<=max 1 (a-0):=nA λg1=>(eMax 1 (a-0) (λg2 k2=>(lin (X4 b a (max 1 (a-0)) (a-0)) (.o v0 v1 (.s v2 v0 (.i v3 v2 (.f v1 (.a v3 n0))))) tr h1 g1 k2 (Qah a 0 :))) (λg2 k2=>(lin (X2 a (a-0)) (.o n2 v0 (.o v1 n1 (.f v0 (.a v1 n0)))) tr h0 g2 (Qah a 0 :))))
theorem om651 {a:Nat}(h0:2<=a)(h1:0=a):False:=lin (X1 a) (.o n2 v0 (.j v0 n0)) tr h0 h1
theorem om652 {a:Nat}(h0:¬(a<64)):2<=a:=nA λg1=>(lin (X1 a) (.o (.n 64) v0 (.g v0 n2)) tr (nA h0 :) g1)
theorem om653 {a b c:Nat}(h0:a<=b)(h1:c=a):a<=b+1:=nA λg1=>(lin (X2 a b) (.o v0 v1 (.g p1 v0)) tr h0 g1)
theorem om654 {a b c:Nat}(h0:a=b)(h1:¬(c<b))(h2:c<a+1):c=b:=nE (nA λg2=>(lin (X3 a b c) (.e v0 v1 (.s v2 p0 (.g v1 v2))) tr h0 h2 g2)) (nA λg3=>(lin (X2 b c) (.o v0 v1 (.g v1 v0)) tr (nA h1 :) g3))
theorem om655 {a b:Nat}(h0:a=b):a<=b:=nA λg1=>(lin (X2 a b) (.e v0 v1 (.g v1 v0)) tr h0 g1)
theorem om658 {a b c d e:Nat}(h0:a=b)(h1:b=c)(h2:d=c)(h3:a<=e):b<=e:=nA λg1=>(lin (X3 b a e) (.i v0 v1 (.o v1 v2 (.g v2 v0))) tr h0 h3 g1)
theorem om659 {a:Int}(h0:0<=a/\a<((0:Nat):Int)):False:=linz (Z1 a) [] (.o m0 z0 (.g z0 (.q n0))) tr (And.left h0 :) (And.right h0 :)
theorem om660 {b:Nat}{a:Int}(h0:0<=a/\a<((b+1:Nat):Int))(h1:a≠(b:Int)):0<=a/\a<(b:Int):=⟨Qac λg1=>(linz (Z1 a) [] (.o m0 z0 (.g z0 m0)) tr (And.left h0 :) g1) ,Qa4 λg2=>(eNeZ h1 (λg3=>(linz (Z1 a) (X1 b) (.o q0 z0 (.g z0 q0)) tr g2 g3)) (λg3=>(linz (Z1 a) (X1 b) (.s z0 (.q p0) (.g q0 z0)) tr (And.right h0 :) g3))) ⟩
theorem om661 {a:Nat}:a<=a-1+1:=nA λg1=>(lin (X2 (a-1) a) (.s p0 v1 (.f v1 p0)) tr g1 (Qah a 1 :))
theorem om662 {a b c:Nat}(h0:a<=b)(h1:c<=a+1):c<=b+1:=nA λg1=>(lin (X3 a b c) (.o v0 v1 (.o v2 p0 (.g p1 v2))) tr h0 h1 g1)
theorem om663 {a b:Nat}(h0:(a:Int)=(b:Int)):a=b:=nE (nA λg2=>(linz [] (X2 a b) (.e q0 q1 (.f (.q p1) q0)) tr h0 (nD g2 :))) (nA λg3=>(linz [] (X2 b a) (.i q0 q1 (.f (.q p1) q0)) tr h0 (nD g3 :)))
theorem om664 {a b:Nat}(h0:a=b):(b:Int)=(a:Int):=Qwd (Qac λg2=>(linz [] (X2 b a) (.o q0 q1 (.g q1 q0)) tr (nD (nC h0.symm) :) g2)) (Qac λg3=>(linz [] (X2 a b) (.o q0 q1 (.g q1 q0)) tr (nD (nC h0) :) g3))
theorem om674 {a b c:Nat}(h0:a<=b)(h1:b=c-1)(h2:0<c):a+1<=c:=nA λg1=>(eSub c 1 (λg2 k2=>(lin (X4 a b (c-1) c) (.o v0 v1 (.e v1 v2 (.s v3 p0 (.h p2 v3)))) tr h0 h1 g1 k2)) (λg2 k2=>(lin (X1 c) (.s n0 v0 (.g v0 n1)) tr h2 g2)))
theorem om675 {a b c:Nat}(h0:2<=a)(h1:b<=c):b+1<=a+c:=nA λg1=>(lin (X3 a b c) (.o n2 v0 (.o v1 v2 (.g a02 p1))) tr h0 h1 g1)
theorem om676 {a b:Nat}(h0:a=b+1)(h1:a<=b):False:=lin (X2 b a) (.i p0 v1 (.f v1 v0)) tr h0 h1
end Mine
namespace Mine
open PySem PyProof.Rows
structure SB (a₀:Array Keyed)(st:SortSt):Prop where
 perm:(arrOf st).Perm a₀
 kind:kindOf st=oneType'
 failed:failedOf st=none
theorem SB.size {a₀:Array Keyed}{st:SortSt}(h:SB a₀ st):(arrOf st).size=a₀.size:=h.perm.size_eq
theorem SB.setArr {a₀:Array Keyed}{st:SortSt}(h:SB a₀ st){xs:Array Keyed}(hp:xs.Perm (arrOf st)):SB a₀ (setArr st xs):=⟨hp.trans h.perm,h.kind,h.failed⟩
noncomputable def IntAt (xs:Array Keyed)(i:Nat):Prop:=∃n t q,xs[i]? = some (.int n t,q)
theorem Qs5 {xs:Array Keyed}{i:Nat}{n:Int}{t:Tok}{q:Value}(h:xs[i]? = some (.int n t,q)):K xs i=n:=by unfold K;rw [h];rfl
theorem IntKeys.at' {xs:Array Keyed}(h:IntKeys xs){i:Nat}(hi:i<xs.size):IntAt xs i:=by
 obtain ⟨n,t,e⟩:=h xs[i] (by simp)
 exact ⟨n,t,xs[i].2,by rw [getElem?_pos xs i hi];exact congrArg some (Prod.ext e rfl)⟩
theorem SB.ints {a₀:Array Keyed}{st:SortSt}(h:SB a₀ st)(h0:IntKeys a₀):IntKeys (arrOf st):=λp hp=>h0 p ((Qyu.mp h.perm).mem_iff.mp hp)
noncomputable def Seg (xs:Array Keyed)(lo hi:Nat):Prop:=∀i j,lo<=i->i<=j->j<hi->K xs i<=K xs j
theorem Seg.one (xs:Array Keyed)(lo:Nat):Seg xs lo (lo+1):=λi j h1 h2 h3=>by
 have:i=j:=by exact om327 ‹_› ‹_› ‹_›
 subst this;exact Qw0 _
theorem Seg.congr {xs ys:Array Keyed}{lo hi:Nat}(h:Seg xs lo hi)(e:∀k,lo<=k->k<hi->K ys k=K xs k):Seg ys lo hi:=λi j h1 h2 h3=>by
 rw [e i h1 (by exact Qsg ‹_› ‹_›),e j (by exact Quw ‹_› ‹_›) h3];exact h i j h1 h2 h3
theorem Seg.snoc {xs:Array Keyed}{lo hi:Nat}(h:Seg xs lo hi)(hl:lo<hi)(e:K xs (hi-1)<=K xs hi):Seg xs lo (hi+1):=λi j h1 h2 h3=>by
 by_cases hj:j<hi
 . exact h i j h1 h2 hj
 . obtain rfl:j=hi:=by exact om328 ‹_› ‹_›
   by_cases hi':i=j
   . subst hi';exact Qw0 _
   . exact Qwh (h i (j-1) h1 (by exact om329 ‹_› ‹_› ‹_›) (by exact om330 ‹_›)) e
noncomputable def Dsc (xs:Array Keyed)(lo hi:Nat):Prop:=∀i j,lo<=i->i<=j->j<hi->K xs j<=K xs i
theorem Dsc.congr {xs ys:Array Keyed}{lo hi:Nat}(h:Dsc xs lo hi)(e:∀k,lo<=k->k<hi->K ys k=K xs k):Dsc ys lo hi:=λi j h1 h2 h3=>by
 rw [e i h1 (by exact Qsg ‹_› ‹_›),e j (by exact Quw ‹_› ‹_›) h3];exact h i j h1 h2 h3
theorem Dsc.snoc {xs:Array Keyed}{lo hi:Nat}(h:Dsc xs lo hi)(hl:lo<hi)(e:K xs hi<=K xs (hi-1)):Dsc xs lo (hi+1):=λi j h1 h2 h3=>by
 by_cases hj:j<hi
 . exact h i j h1 h2 hj
 . obtain rfl:j=hi:=by exact om328 ‹_› ‹_›
   by_cases hi':i=j
   . subst hi';exact Qw0 _
   . exact Qwh e (h i (j-1) h1 (by exact om329 ‹_› ‹_› ‹_›) (by exact om330 ‹_›))
structure Fr (a₀:Array Keyed)(lo hi:Nat)(st st':SortSt):Prop where
 sb:SB a₀ st'
 pend:pendingOf st'=pendingOf st
 out:∀k,k<lo\/hi<=k->K (arrOf st') k=K (arrOf st) k
theorem Fr.refl {a₀:Array Keyed}{lo hi:Nat}{st:SortSt}(h:SB a₀ st):Fr a₀ lo hi st st:=⟨h,rfl,λu_ u_=>rfl⟩
theorem Fr.trans {a₀:Array Keyed}{lo hi:Nat}{s1 s2 s3:SortSt}(h:Fr a₀ lo hi s1 s2)(h':Fr a₀ lo hi s2 s3):Fr a₀ lo hi s1 s3:=⟨h'.sb,h'.pend.trans h.pend,λk hk=>(h'.out k hk).trans (h.out k hk)⟩
section
variable {prog:Program} {w:World} {A:Around} {E:Value->Shared->Prop} {s:Shared} {a₀:Array Keyed}
theorem Qku {st:SortSt}{a b:Int}{t u:Tok}{p q:Value}{Q:Option Bool->SortSt->Prop}(hk:kindOf st=oneType')(h:Q (some (decide (a<b))) st) :
   wpS (model prog w) A E s (lt' (.int a t,p) (.int b u,q)) Q st:=by
 rw [lt'_eq]
 refine wpS_bind (wpS_get ?_)
 rw [hk,keyLt'_oneType]
 refine wpS_bind (wpS_lift (wpAny_attempt (oneLt_int ⟨rfl,?_⟩)))
 exact wpS_pure h
theorem Qtl {st:SortSt}{xs:Array Keyed}{i:Nat}{x:Keyed}{Q:Keyed->SortSt->Prop}(h:xs[i]? = some x)(hq:Q x st):wpS (model prog w) A E s (elem' xs i) Q st:=by
 rw [elem'_eq,h];exact wpS_pure hq
theorem Qgn {st:SortSt}{i j:Nat}{Q:Option Bool->SortSt->Prop}(hB:SB a₀ st)(h0:IntKeys a₀)(hi:i<a₀.size)(hj:j<a₀.size)
   (h:Q (some (decide (K (arrOf st) i<K (arrOf st) j))) st):wpS (model prog w) A E s (ltAt' i j) Q st:=by
 obtain ⟨n,t,p,e1⟩:=IntKeys.at' (hB.ints h0) (i:=i) (by rw [hB.size];exact hi)
 obtain ⟨m,u,q,e2⟩:=IntKeys.at' (hB.ints h0) (i:=j) (by rw [hB.size];exact hj)
 refine wpS_ltAt hB.kind e1 e2 ?_
 rw [Qs5 e1,Qs5 e2] at h
 exact h
theorem Fr.mirror {st:SortSt}{lo hi i j:Nat}(hB:SB a₀ st)(h1:lo<=i)(h2:j<=hi)(hj:j<=a₀.size):Fr a₀ lo hi st (setArr st (mirror (arrOf st) i j ((j-i) / 2))) :=
 ⟨hB.setArr (mirror_perm _ _ _ _),rfl,λk hk=>by
   show K (PyProof.Rows.mirror (arrOf st) i j ((j-i) / 2)) k=_
   rw [K_mirror (by rw [hB.size];exact hj),if_neg (by omega)]⟩
theorem Qn4 {st:SortSt}{lo a nrem:Nat}{Q:AscSt->SortSt->Prop}(h0:IntKeys a₀)(hn:lo+nrem<=a₀.size)(ha:1<=a)(han:a<=nrem)(hB:SB a₀ st)(hs:Seg (arrOf st) lo (lo+a))
   (h:∀n,a<=n->n<=nrem->Seg (arrOf st) lo (lo+n)->(n=nrem\/K (arrOf st) (lo+n)<K (arrOf st) (lo+n-1))->Q (none,n) st) :
   wpS (model prog w) A E s (forIn [a:nrem] ((none,a):AscSt) λu_ __s=>do
     let __x <-ltAt' (lo+__s.snd) (lo+__s.snd-1)
     match __x with
     | some smaller=>if smaller=true then pure (ForInStep.done (none,__s.snd)) else pure (ForInStep.yield (none,__s.snd+1))
     | _=>pure (ForInStep.done (some none,__s.snd))) Q st:=by
 refine wpS_forRange (I:=λx c st'=>st'=st/\c=(none,x)/\Seg (arrOf st) lo (lo+x)) ?_ ?_ ⟨rfl,rfl,hs⟩
 . rintro x c st' hax hxn ⟨rfl,rfl,hs'⟩
   dsimp only
   refine wpS_bind (Qgn hB h0 (by exact Qm1 ‹_› ‹_›) (by exact om333 ‹_› ‹_› ‹_› ‹_›) ?_)
   by_cases hless:K (arrOf st') (lo+x)<K (arrOf st') (lo+x-1)
   . simp only [hless,decide_true,if_true]
     exact wpS_pure (h x hax (by exact Quv ‹_›) hs' (.inr hless))
   . simp only [hless,decide_false,Bool.false_eq_true,if_false]
     exact wpS_pure ⟨rfl,rfl,hs'.snoc (by exact om335 ‹_› ‹_›) (Qyq.mp hless)⟩
 . rintro c st' ⟨rfl,rfl,hs'⟩
   rw [show max a nrem=nrem by exact om336 ‹_›] at hs' ⊢
   exact h nrem han (Qwb _) hs' (.inl rfl)
end
end Mine
namespace Mine
open PySem PyProof.Rows
noncomputable def ascL (lo a nrem:Nat):StateT SortSt Sem AscSt :=
 forIn [a:nrem] ((none,a):AscSt) λu_ __s=>do
   let __x <-ltAt' (lo+__s.snd) (lo+__s.snd-1)
   match __x with
   | some smaller=>if smaller=true then pure (ForInStep.done (none,__s.snd)) else pure (ForInStep.yield (none,__s.snd+1))
   | _=>pure (ForInStep.done (some none,__s.snd))
noncomputable def endL (lo n nrem:Nat):StateT SortSt Sem (Option Nat):=do
 reverseSlice' lo (lo+n)
 let __s <-ascL lo n nrem
 match __s.fst with
 | some r=>pure r
 | none=>pure (some __s.snd)
noncomputable def dscL (lo n nrem:Nat):StateT SortSt Sem DescSt :=
 forIn [n:nrem] ((none,n,0):DescSt) λu_ __s=>do
   let __x <-ltAt' (lo+__s.snd.fst) (lo+__s.snd.fst-1)
   match __x with
   | some smaller =>
     if smaller=true then
       if __s.snd.snd > 0 then do
         reverseSlice' (lo+__s.snd.fst-(__s.snd.snd+1)) (lo+__s.snd.fst)
         pure (ForInStep.yield (none,__s.snd.fst+1,0))
       else pure (ForInStep.yield (none,__s.snd.fst+1,0))
     else do
       let __x <-ltAt' (lo+__s.snd.fst-1) (lo+__s.snd.fst)
       match __x with
       | some larger =>
         if larger=true then pure (ForInStep.done (none,__s.snd.fst,__s.snd.snd))
         else pure (ForInStep.yield (none,__s.snd.fst+1,__s.snd.snd+1))
       | _=>pure (ForInStep.done (some none,__s.snd.fst,__s.snd.snd))
   | _=>pure (ForInStep.done (some none,__s.snd.fst,__s.snd.snd))
noncomputable def Qss (lo n nrem:Nat):StateT SortSt Sem (Option Nat):=do
 liftM (rule "list.sort.descending-run")
 let __s <-dscL lo (n+1) nrem
 match __s.fst with
 | some r=>pure r
 | none =>
   if __s.snd.snd > 0 then do
     reverseSlice' (lo+__s.snd.fst-(__s.snd.snd+1)) (lo+__s.snd.fst)
     endL lo __s.snd.fst nrem
   else endL lo __s.snd.fst nrem
theorem Qka (lo nrem:Nat):countRun' lo nrem=(do
   let __s <-ascL lo 1 nrem
   match __s.fst with
   | some r=>pure r
   | none =>
     if (__s.snd == nrem)=true then pure (some __s.snd)
     else if __s.snd > 1 then do
       let __x <-ltAt' lo (lo+__s.snd-1)
       match __x with
       | some rose=>if rose=true then pure (some __s.snd) else do
           reverseSlice' lo (lo+__s.snd)
           Qss lo __s.snd nrem
       | _=>pure none
     else Qss lo __s.snd nrem):=by kernel_rfl
section
variable {prog:Program} {w:World} {A:Around} {E:Value->Shared->Prop} {s:Shared} {a₀:Array Keyed}
theorem Qig {st:SortSt}{i j:Nat}{Q:Unit->SortSt->Prop}(h:Q () (setArr st (mirror (arrOf st) i j ((j-i) / 2)))):wpS (model prog w) A E s (reverseSlice' i j) Q st:=wpS_reverse h
theorem Ql3 {st:SortSt}{lo n nrem:Nat}{Q:Option Nat->SortSt->Prop}(h0:IntKeys a₀)(hn:lo+nrem<=a₀.size)(h1:1<=n)(hnn:n<=nrem)(hB:SB a₀ st)(hs:Dsc (arrOf st) lo (lo+n))
   (h:∀m st',Fr a₀ lo (lo+nrem) st st'->1<=m->m<=nrem->Seg (arrOf st') lo (lo+m)->Q (some m) st'):wpS (model prog w) A E s (endL lo n nrem) Q st:=by
 unfold endL
 have hf:=Fr.mirror (lo:=lo) (hi:=lo+nrem) (i:=lo) (j:=lo+n) hB (Qwb _) (by exact Qse ‹_›) (by exact Qk4 ‹_› ‹_›)
 refine wpS_bind (Qig ?_)
 refine wpS_bind (Qn4 h0 hn h1 hnn hf.sb ?_ λm hm1 hm2 hsm u_=>wpS_pure (h m _ hf (by exact om339 ‹_› ‹_›) hm2 hsm))
 intro i j hi hij hj
 show K (mirror (arrOf st) lo (lo+n) _) i<=K (mirror (arrOf st) lo (lo+n) _) j
 rw [K_mirror (by rw [hB.size];exact Qk4 ‹_› ‹_›),K_mirror (by rw [hB.size];exact Qk4 ‹_› ‹_›),if_pos (by exact om340 ‹_› ‹_› ‹_›),if_pos (by exact om342 ‹_› ‹_› ‹_›)]
 exact hs _ _ (by exact om345 ‹_›) (by exact om348 ‹_› ‹_›) (by exact om349 ‹_› ‹_›)
theorem Qru {st:SortSt}{lo n nrem:Nat}{Q:DescSt->SortSt->Prop}(h0:IntKeys a₀)(hn:lo+nrem<=a₀.size)(h1:1<=n)(hnn:n<=nrem)(hB:SB a₀ st)(hs:Dsc (arrOf st) lo (lo+n))
   (h:∀m neq st',Fr a₀ lo (lo+nrem) st st'->n<=m->m<=nrem->Dsc (arrOf st') lo (lo+m)->neq+1<=m->(∀i,lo+m-(neq+1)<=i->i<lo+m->K (arrOf st') i=K (arrOf st') (lo+m-1))->Q (none,m,neq) st') :
   wpS (model prog w) A E s (dscL lo n nrem) Q st:=by
 unfold dscL
 refine wpS_forRange (I:=λx c st'=>∃neq,c=(none,x,neq)/\Fr a₀ lo (lo+nrem) st st'/\Dsc (arrOf st') lo (lo+x)/\neq+1<=x/\(∀i,lo+x-(neq+1)<=i->i<lo+x->K (arrOf st') i=K (arrOf st') (lo+x-1))) ?_ ?_ ⟨0,rfl,.refl hB,hs,by exact om341 ‹_›,λi h1 h2=>by congr 1;exact om343 ‹_› ‹_› ‹_›⟩
 . intro x c st' hax hxn hJ_
   refine smG λH_ k_=>?_
   obtain ⟨neq,rfl,hF,hs',hq,he⟩:=hJ_
   refine k_ ?_
   clear k_ H_
   have hB':=hF.sb
   dsimp only
   refine wpS_bind (Qgn hB' h0 (by exact Qm1 ‹_› ‹_›) (by exact om346 ‹_› ‹_› ‹_›) ?_)
   by_cases hless:K (arrOf st') (lo+x)<K (arrOf st') (lo+x-1)
   . simp only [hless,decide_true,if_true]
     have hd:=hs'.snoc (by exact om353 ‹_›) (Qw8 hless)
     by_cases hneq:neq > 0
     . rw [if_pos hneq]
       have hm:=Fr.mirror (lo:=lo) (hi:=lo+nrem) (i:=lo+x-(neq+1)) (j:=lo+x) hB' (by exact om347 ‹_›) (by exact om355 ‹_›) (by exact om356 ‹_› ‹_›)
       refine wpS_bind (Qig (wpS_pure ⟨0,rfl,hF.trans hm,hd.congr λk u_ u_=>?_,by omega,λi h1 h2=>by congr 1;omega⟩))
       exact K_mirror_equal (by rw [hB'.size];exact om356 ‹_› ‹_›) he k
     . rw [if_neg hneq]
       exact wpS_pure ⟨0,rfl,hF,hd,by exact om360,λi h1 h2=>by congr 1;exact om362 ‹_› ‹_› ‹_› ‹_›⟩
   . simp only [hless,decide_false,Bool.false_eq_true,if_false]
     refine wpS_bind (Qgn hB' h0 (by exact om346 ‹_› ‹_› ‹_›) (by exact Qm1 ‹_› ‹_›) ?_)
     by_cases hlarger:K (arrOf st') (lo+x-1)<K (arrOf st') (lo+x)
     . simp only [hlarger,decide_true,if_true]
       exact wpS_pure (h x neq st' hF hax (by exact Quv ‹_›) hs' hq he)
     . simp only [hlarger,decide_false,Bool.false_eq_true,if_false]
       have heqx:K (arrOf st') (lo+x)=K (arrOf st') (lo+x-1):=by exact om368 ‹_› ‹_›
       refine wpS_pure ⟨neq+1,rfl,hF,hs'.snoc (by exact om353 ‹_›) (by exact om369 ‹_› ‹_›),by exact om370 ‹_›,λi h1 h2=>?_⟩
       rw [show lo+(x+1)-1=lo+x by exact om371 ‹_› ‹_›]
       by_cases hix:i=lo+x
       . subst hix;rfl
       . rw [heqx];exact he i (by exact om372 ‹_› ‹_› ‹_› ‹_›) (by exact om373 ‹_› ‹_›)
 . intro c st' hJ_
   refine smG λH_ k_=>?_
   obtain ⟨neq,rfl,hF,hs',hq,he⟩:=hJ_
   refine k_ ?_
   clear k_ H_
   rw [show max n nrem=nrem by exact om336 ‹_›] at hs' hq he ⊢
   exact h nrem neq st' hF hnn (Qwb _) hs' hq he
theorem Qjl {st:SortSt}{lo n nrem:Nat}{Q:Option Nat->SortSt->Prop}(h0:IntKeys a₀)(hn:lo+nrem<=a₀.size)(hnn:n+1<=nrem)(hB:SB a₀ st)(hs:Dsc (arrOf st) lo (lo+(n+1)))
   (h:∀m st',Fr a₀ lo (lo+nrem) st st'->1<=m->m<=nrem->Seg (arrOf st') lo (lo+m)->Q (some m) st'):wpS (model prog w) A E s (Qss lo n nrem) Q st:=by
 unfold Qss
 refine wpS_bind (wpS_lift (wpAny_rule ⟨rfl,?_⟩))
 refine wpS_bind (Qru h0 hn (by exact om344) hnn hB hs λm neq st' hF hm1 hm2 hs' hq he=>?_)
 dsimp only
 by_cases hneq:neq > 0
 . rw [if_pos hneq]
   have hm:=Fr.mirror (lo:=lo) (hi:=lo+nrem) (i:=lo+m-(neq+1)) (j:=lo+m) hF.sb (by exact om347 ‹_›) (by exact Qse ‹_›) (by exact Qk4 ‹_› ‹_›)
   refine wpS_bind (Qig (Ql3 h0 hn (by exact om352 ‹_› ‹_›) hm2 hm.sb (hs'.congr λk u_ u_=>?_) λm' st2 hF2=>h m' st2 ((hF.trans hm).trans hF2)))
   exact K_mirror_equal (by rw [hF.sb.size];exact Qk4 ‹_› ‹_›) he k
 . rw [if_neg hneq]
   exact Ql3 h0 hn (by exact om354 ‹_› ‹_›) hm2 hF.sb hs' λm' st2 hF2=>h m' st2 (hF.trans hF2)
theorem Qmv {st:SortSt}{lo nrem:Nat}{Q:Option Nat->SortSt->Prop}(h0:IntKeys a₀)(hn:lo+nrem<=a₀.size)(h1:1<=nrem)(hB:SB a₀ st)
   (h:∀m st',Fr a₀ lo (lo+nrem) st st'->1<=m->m<=nrem->Seg (arrOf st') lo (lo+m)->Q (some m) st'):wpS (model prog w) A E s (countRun' lo nrem) Q st:=by
 rw [Qka]
 refine wpS_bind (Qn4 h0 hn (Qwb 1) h1 hB (Seg.one _ _) λn hn1 hn2 hsn hor=>?_)
 dsimp only
 by_cases hnn:n=nrem
 . rw [if_pos (by simpa using hnn)]
   exact wpS_pure (h n st (.refl hB) hn1 hn2 hsn)
 . rw [if_neg (by simpa using hnn)]
   have hlt:K (arrOf st) (lo+n)<K (arrOf st) (lo+n-1):=hor.resolve_left hnn
   by_cases hgt:n > 1
   . rw [if_pos hgt]
     refine wpS_bind (Qgn hB h0 (by exact om350 ‹_› ‹_›) (by exact om351 ‹_› ‹_› ‹_›) ?_)
     by_cases hrose:K (arrOf st) lo<K (arrOf st) (lo+n-1)
     . simp only [hrose,decide_true,if_true]
       exact wpS_pure (h n st (.refl hB) hn1 hn2 hsn)
     . simp only [hrose,decide_false,Bool.false_eq_true,if_false]
       have hall:∀k,lo<=k->k<lo+n->K (arrOf st) k=K (arrOf st) (lo+n-1):=by
         intro k hk0 hk
         have a1:=hsn lo k (Qwb _) hk0 hk
         have a2:=hsn k (lo+n-1) hk0 (by exact om357 ‹_›) (by exact om358 ‹_›)
         exact om359 ‹_› ‹_› ‹_›
       have hm:=Fr.mirror (lo:=lo) (hi:=lo+nrem) (i:=lo) (j:=lo+n) hB (Qwb _) (by exact Qse ‹_›) (by exact Qk4 ‹_› ‹_›)
       have hd:Dsc (arrOf st) lo (lo+n):=λi j h1 h2 h3=>by rw [hall i h1 (by exact om361 ‹_› ‹_›),hall j (by exact Quw ‹_› ‹_›) h3];exact Qw0 _
       refine wpS_bind (Qig (Qjl h0 hn (by exact om363 ‹_› ‹_›) hm.sb ((hd.snoc (by exact om364 ‹_›) (Qw8 hlt)).congr λk u_ u_=>?_) λm' st2 hF2=>h m' st2 (hm.trans hF2)))
       exact K_mirror_equal (by rw [hB.size];exact Qk4 ‹_› ‹_›) hall k
   . rw [if_neg hgt]
     obtain rfl:n=1:=by exact om365 ‹_› ‹_›
     exact Qjl h0 hn (by omega) hB (Dsc.snoc (λi j h1 h2 h3=>by have:i=j:=(by omega);subst this;exact Qw0 _) (by omega) (Qw8 hlt)) h
end
end Mine
namespace Mine
open PySem PyProof.Rows
noncomputable def Qdo:Bool->Keyed->Array Keyed->Nat->Nat->Nat->StateT SortSt Sem (Option Nat):=sortPriv% PySem.Builtin.gallop
section
variable {prog:Program} {w:World} {A:Around} {E:Value->Shared->Prop} {s:Shared} {a₀:Array Keyed}
theorem Qnh {xs:Array Keyed}{lo p q:Nat}(hs:q<xs.size)(hlo:lo<=p)(hpq:p<=q)(hS:Seg xs lo q)(h1:∀t,lo<=t->t<p->K xs t<=K xs q)(h2:∀t,p<=t->t<q->K xs q<K xs t):Seg (bubble xs q (q-p)) lo (q+1):=by
 have hK:=λt=>K_bubble hs (d:=q-p) (Qwq _ _) t
 rw [Nat.sub_sub_self hpq] at hK
 have gp:K (bubble xs q (q-p)) p=K xs q:=by rw [hK,if_pos rfl]
 have gl:∀t,t<p->K (bubble xs q (q-p)) t=K xs t:=λt ht=>by rw [hK,if_neg (Qw5 ht),if_neg λc=>Nat.lt_asymm ht c.1]
 have gr:∀t,p<t->t<=q->K (bubble xs q (q-p)) t=K xs (t-1):=λt h1 h2=>by rw [hK,if_neg (Nat.ne_of_gt h1),if_pos ⟨h1,h2⟩]
 clear hK
 generalize bubble xs q (q-p)=ys at gp gl gr ⊢
 intro i j hi hij hj
 rcases Qy1 j p with c | c | c
 . rw [gl j c,gl i (Qxa hij c)];exact hS i j hi hij (Qzu c hpq)
 . subst c
   rcases Nat.lt_or_eq_of_le hij with c | c
   . rw [gl i c,gp];exact h1 i hi c
   . rw [c];exact Qw0 _
 . have hq:=Nat.le_of_lt_succ hj
   have hj':j-1<q:=Nat.sub_one_lt_of_le (Qxa (Qwv _) c) hq
   rw [gr j c hq]
   rcases Qy1 i p with d | d | d
   . rw [gl i d];exact hS i _ hi (Qyk (Qz5 d c)) hj'
   . rw [d,gp];exact Qw8 (h2 _ (Qyk c) hj')
   . rw [gr i d (Qdg hij hq)];exact hS _ _ (Qdg hlo (Qyk d)) (Nat.sub_le_sub_right hij 1) hj'
theorem Qrv {st:SortSt}{lo n ok:Nat}{Q:Bool->SortSt->Prop}(h0:IntKeys a₀)(hn:lo+n<=a₀.size)(hok:ok<=n)(hB:SB a₀ st)(hs:Seg (arrOf st) lo (lo+ok))
   (h:∀st',Fr a₀ lo (lo+n) st st'->Seg (arrOf st') lo (lo+n)->Q true st'):wpS (model prog w) A E s (binarySort' lo n ok) Q st:=by
 rw [binarySort'_eq]
 refine wpS_bind (wpS_mono (wpS_forRange (I:=λk c st'=>c=(none,())/\Fr a₀ lo (lo+n) st st'/\Seg (arrOf st') lo (lo+min k n))
   (Q:=λc st'=>c=(none,())/\Fr a₀ lo (lo+n) st st'/\Seg (arrOf st') lo (lo+n)) ?step ?fin ?init) ?post)
 case post =>
   intro c st' hJ_
   refine smG λH_ k_=>?_
   obtain ⟨rfl,hB',hs'⟩:=hJ_
   refine k_ ?_
   clear k_ H_
   exact wpS_pure (h st' hB' hs')
 case init =>
   refine ⟨rfl,.refl hB,λi j h1 hij hj=>?_⟩
   by_cases h2:ok=0
   . have:i=j:=by exact om374 ‹_› ‹_› ‹_› ‹_›
     subst this;exact Qw0 _
   . exact hs i j h1 hij (by exact om375 ‹_› ‹_› ‹_›)
 case fin =>
   intro c st' hJ_
   refine smG λH_ k_=>?_
   obtain ⟨hc,hB',hs'⟩:=hJ_
   refine k_ ?_
   clear k_ H_
   refine ⟨hc,hB',?_⟩
   rwa [show min (max (max ok 1) n) n=n by exact om376] at hs'
 case step =>
   intro k c st' hak hkn hJ_
   refine smG λH_ k_=>?_
   obtain ⟨rfl,hF,hs'⟩:=hJ_
   refine k_ ?_
   clear k_ H_
   have hB':=hF.sb
   rw [show min k n=k by exact om377 ‹_›] at hs'
   refine wpS_bind (wpS_mono (wpS_forRange (I:=λx c st''=>st''=st'/\∃l r,c=(none,l,r)/\l<=r/\r<=k/\r-l<=k-x /\
       (∀i,i<l->K (arrOf st') (lo+i)<=K (arrOf st') (lo+k))/\(∀i,r<=i->i<k->K (arrOf st') (lo+k)<K (arrOf st') (lo+i)))
     (Q:=λc st''=>st''=st'/\∃l r,c=(none,l,r)/\l<=k /\
       (∀i,i<l->K (arrOf st') (lo+i)<=K (arrOf st') (lo+k))/\(∀i,l<=i->i<k->K (arrOf st') (lo+k)<K (arrOf st') (lo+i))) ?istep ?ifin ?iinit) ?ipost)
   case iinit=>exact ⟨rfl,0,k,rfl,Qwv _,Qwb _,Qwb _,λi hi=>absurd hi (Nat.not_lt_zero _),λi h1 h2=>absurd h2 (Qyb.mpr h1)⟩
   case ifin =>
     intro c st'' hJ_
     refine smG λH_ k_=>?_
     obtain ⟨rfl,l,r,rfl,hlr,hrk,hm,hlo,hhi⟩:=hJ_
     refine k_ ?_
     clear k_ H_
     obtain rfl:l=r:=by exact om385 ‹_› ‹_›
     exact ⟨rfl,l,l,rfl,hrk,hlo,hhi⟩
   case istep =>
     intro x c st'' u_ hxk hJ_
     refine smG λH_ k_=>?_
     obtain ⟨rfl,l,r,rfl,hlr,hrk,hm,hlo,hhi⟩:=hJ_
     refine k_ ?_
     clear k_ H_
     dsimp only
     by_cases hge:l>=r
     . rw [if_pos hge]
       obtain rfl:l=r:=by exact om386 ‹_› ‹_›
       exact wpS_pure ⟨rfl,l,l,rfl,hrk,hlo,hhi⟩
     . rw [if_neg hge]
       refine wpS_bind (Qgn hB' h0 (by exact Qm1 ‹_› ‹_›) (by exact om387 ‹_› ‹_› ‹_› ‹_›) ?_)
       by_cases hless:K (arrOf st'') (lo+k)<K (arrOf st'') (lo+(l+r) / 2)
       . simp only [hless,decide_true,if_true]
         refine wpS_pure ⟨rfl,l,(l+r) / 2,rfl,by exact om389 ‹_›,by exact om391 ‹_› ‹_›,by exact om392 ‹_› ‹_› ‹_›,hlo,λi h1 h2=>?_⟩
         exact Qzt hless (hs' _ _ (by exact om393 ‹_›) (by exact om394 ‹_›) (by exact om395 ‹_›))
       . simp only [hless,decide_false,Bool.false_eq_true,if_false]
         refine wpS_pure ⟨rfl,(l+r) / 2+1,r,rfl,by exact om396 ‹_›,by exact Quu ‹_›,by exact om398 ‹_› ‹_› ‹_›,λi h1=>?_,hhi⟩
         exact Qwh (hs' (lo+i) (lo+(l+r) / 2) (by exact om47) (by exact om399 ‹_›) (by exact om400 ‹_› ‹_›)) (Qyq.mp hless)
   case ipost =>
     intro c st'' hJ_
     refine smG λH_ k_=>?_
     obtain ⟨rfl,l,r,rfl,hlk,hlo,hhi⟩:=hJ_
     refine k_ ?_
     clear k_ H_
     show wpS _ _ _ _ (do moveDown' (lo+k) (lo+l);pure (ForInStep.yield (none,()))) _ _
     rw [moveDown'_eq]
     have hks:lo+k<(arrOf st'').size:=by rw [hB'.size];exact Qm1 ‹_› ‹_›
     have hK:=λt=>K_bubble hks (d:=lo+k-(lo+l)) (by exact om401 ‹_›) t
     refine wpS_bind (wpS_modify (wpS_pure ⟨rfl,hF.trans ⟨hB'.setArr (bubble_perm _ _ _),rfl,λt ht=>?_⟩,?_⟩))
     . show K (bubble (arrOf st'') (lo+k) (lo+k-(lo+l))) t=_
       rw [hK,if_neg (by exact om402 ‹_› ‹_› ‹_›),if_neg (by exact om403 ‹_› ‹_› ‹_›)]
     . rw [show min (k+1) n=k+1 by exact om404 ‹_›]
       exact Qnh hks (Qx3 _ _) (Qw2 hlk lo) hs' (λt t1 t2=>by have:=hlo (t-lo) (by exact Qut ‹_› ‹_›);rwa [show lo+(t-lo)=t by exact om75 ‹_›] at this) λt t1 t2=>by have:=hhi (t-lo) (by exact Qus ‹_›) (by exact om408 ‹_› ‹_›);rwa [show lo+(t-lo)=t by exact Qur ‹_›] at this
noncomputable def bey (left:Bool)(key:Keyed)(arr:Array Keyed)(base:Nat)(i:Nat):StateT SortSt Sem (Option Bool):=do
 let x <-elem' arr (base+i)
 if left then lt' x key else return (<-lt' key x).map (!·)
theorem Qnb (left:Bool)(key:Keyed)(arr:Array Keyed)(base n hint:Nat):Qdo left key arr base n hint=(do
 let mut lastofs:=0
 let mut ofs:=1
 let mut lo:=0
 let mut hi:=0
 let some right <-bey left key arr base hint | return none
 if right then
   let maxofs:=n-hint
   for _ in [0:n] do
     if ofs>=maxofs then break
     let some more <-bey left key arr base (hint+ofs) | return none
     if !more then break
     lastofs:=ofs
     ofs:=2*ofs+1
   lo:=hint+lastofs+1
   hi:=hint+min ofs maxofs
 else
   let maxofs:=hint+1
   for _ in [0:n] do
     if ofs>=maxofs then break
     let some found <-bey left key arr base (hint-ofs) | return none
     if found then break
     lastofs:=ofs
     ofs:=2*ofs+1
   lo:=hint+1-min ofs maxofs
   hi:=hint-lastofs
 for _ in [0:n] do
   if lo>=hi then break
   let m:=lo+(hi-lo) / 2
   let some more <-bey left key arr base m | return none
   if more then lo:=m+1 else hi:=m
 return some hi):=rfl
noncomputable def beyP (left:Bool)(k x:Int):Bool:=if left then decide (x<k) else decide (x<=k)
theorem Qih {st:SortSt}{left:Bool}{k:Int}{t:Tok}{q:Value}{arr:Array Keyed}{base i:Nat}{Q:Option Bool->SortSt->Prop}(hk:kindOf st=oneType')(hi:IntAt arr (base+i))(h:Q (some (beyP left k (K arr (base+i)))) st) :
   wpS (model prog w) A E s (bey left (.int k t,q) arr base i) Q st:=by
 refine smG λH_ k_=>?_
 obtain ⟨m,u,p,e⟩:=hi
 refine k_ ?_
 clear k_ H_
 rw [Qs5 e] at h
 unfold bey
 refine wpS_bind (Qtl e ?_)
 cases left with
 | true=>exact Qku hk h
 | false =>
   refine wpS_bind (Qku hk (wpS_pure ?_))
   have:(!decide (k<m))=decide (m<=k):=by
     by_cases hh:k<m
     . rw [decide_eq_true hh,decide_eq_false (by exact om388 ‹_›)];rfl
     . rw [decide_eq_false hh,decide_eq_true (by exact om390 ‹_›)];rfl
   show Q (some (!decide (k<m))) st
   rw [this];exact h
theorem Qpl {left:Bool}{k x y:Int}(h:x<=y)(hy:beyP left k y=true):beyP left k x=true:=by
 cases left with
 | true=>simp only [beyP,if_true,decide_eq_true_eq] at *;exact om383 ‹_› ‹_›
 | false=>simp only [beyP,Bool.false_eq_true,if_false,decide_eq_true_eq] at *;exact om384 ‹_› ‹_›
abbrev Qrd:=Option (Option Nat)×Nat×Nat
noncomputable def halfL (left:Bool)(key:Keyed)(arr:Array Keyed)(base n lo hi:Nat):StateT SortSt Sem Qrd :=
 forIn [0:n] ((none,lo,hi):Qrd) λu_ __s =>
   if __s.snd.fst>=__s.snd.snd then pure (ForInStep.done (none,__s.snd.fst,__s.snd.snd))
   else do
     let __x <-bey left key arr base (__s.snd.fst+(__s.snd.snd-__s.snd.fst) / 2)
     match __x with
     | some more =>
       if more=true then pure (ForInStep.yield (none,__s.snd.fst+(__s.snd.snd-__s.snd.fst) / 2+1,__s.snd.snd))
       else pure (ForInStep.yield (none,__s.snd.fst,__s.snd.fst+(__s.snd.snd-__s.snd.fst) / 2))
     | _=>pure (ForInStep.done (some none,__s.snd.fst,__s.snd.snd))
structure Cut (left:Bool)(k:Int)(arr:Array Keyed)(base n j:Nat):Prop where
 le:j<=n
 lo:∀i,i<j->beyP left k (K arr (base+i))=true
 hi:∀i,j<=i->i<n->beyP left k (K arr (base+i))=false
theorem Ql2 {st:SortSt}{left:Bool}{k:Int}{t:Tok}{q:Value}{arr:Array Keyed}{base n lo hi:Nat}{Q:Qrd->SortSt->Prop}(hk:kindOf st=oneType')(hI:∀i,i<n->IntAt arr (base+i))
   (dn:∀i j,i<=j->j<n->beyP left k (K arr (base+j))=true->beyP left k (K arr (base+i))=true) (hlh:lo<=hi) (hn:hi<=n) (h1:∀i,i<lo->beyP left k (K arr (base+i))=true) (h2:∀i,hi<=i->i<n->beyP left k (K arr (base+i))=false)
   (h:∀l j,Cut left k arr base n j->Q (none,l,j) st):wpS (model prog w) A E s (halfL left (.int k t,q) arr base n lo hi) Q st:=by
 unfold halfL
 refine (wpS_mono (wpS_forRange (I:=λx c st'=>st'=st/\∃lo hi,c=(none,lo,hi)/\lo<=hi/\hi<=n/\hi-lo<=n-x/\(∀i,i<lo->beyP left k (K arr (base+i))=true)/\(∀i,hi<=i->i<n->beyP left k (K arr (base+i))=false))
   (Q:=λc st'=>st'=st/\∃lo hi,c=(none,lo,hi)/\Cut left k arr base n hi) ?_ ?_ ⟨rfl,lo,hi,rfl,hlh,hn,by exact om424 ‹_› ‹_›,h1,h2⟩) ?_)
 . intro x c st' u_ hx hJ_
   refine smG λH_ k_=>?_
   obtain ⟨rfl,lo,hi,rfl,g1,g2,g3,g4,g5⟩:=hJ_
   refine k_ ?_
   clear k_ H_
   dsimp only
   by_cases hge:lo>=hi
   . rw [if_pos hge]
     obtain rfl:lo=hi:=by exact om386 ‹_› ‹_›
     exact wpS_pure ⟨rfl,lo,lo,rfl,g2,g4,g5⟩
   . rw [if_neg hge]
     refine wpS_bind (Qih hk (hI _ (by exact om425 ‹_› ‹_›)) ?_)
     dsimp only
     cases hm:beyP left k (K arr (base+(lo+(hi-lo) / 2))) with
     | true =>
       rw [if_pos rfl]
       exact wpS_pure ⟨rfl,_,_,rfl,by exact om429 ‹_›,g2,by exact om431 ‹_› ‹_› ‹_›,λi hi'=>dn i _ (by exact om432 ‹_›) (by exact om425 ‹_› ‹_›) hm,g5⟩
     | false =>
       rw [if_neg (by simp)]
       refine wpS_pure ⟨rfl,_,_,rfl,by exact om435,by exact om436 ‹_› ‹_›,by exact om438 ‹_› ‹_› ‹_›,g4,λi h1 h2=>?_⟩
       cases hc:beyP left k (K arr (base+i)) with
       | false=>rfl
       | true=>rw [dn _ i h1 h2 hc] at hm;cases hm
 . intro c st' hJ_
   refine smG λH_ k_=>?_
   obtain ⟨rfl,lo,hi,rfl,g1,g2,g3,g4,g5⟩:=hJ_
   refine k_ ?_
   clear k_ H_
   obtain rfl:lo=hi:=by exact om385 ‹_› ‹_›
   exact ⟨rfl,lo,lo,rfl,g2,g4,g5⟩
 . intro c st' hJ_
   refine smG λH_ k_=>?_
   obtain ⟨rfl,lo,hi,rfl,hc⟩:=hJ_
   refine k_ ?_
   clear k_ H_
   exact h lo hi hc
theorem Qfq {st:SortSt}{left:Bool}{k:Int}{t:Tok}{q:Value}{arr:Array Keyed}{base n hint:Nat}{Q:Option Nat->SortSt->Prop}(hk:kindOf st=oneType')(hI:∀i,i<n->IntAt arr (base+i))(hh:hint<n)(hs:Seg arr base (base+n))
   (h:∀j,Cut left k arr base n j->Q (some j) st):wpS (model prog w) A E s (Qdo left (.int k t,q) arr base n hint) Q st:=by
 have dn:∀i j,i<=j->j<n->beyP left k (K arr (base+j))=true->beyP left k (K arr (base+i))=true:=λi j hij hj hb=>Qpl (hs (base+i) (base+j) (by exact om47) (by exact Qse ‹_›) (by exact om395 ‹_›)) hb
 have up:∀i j,i<=j->j<n->beyP left k (K arr (base+i))=false->beyP left k (K arr (base+j))=false:=λi j hij hj hb=>by
   cases hc:beyP left k (K arr (base+j)) with
   | false=>rfl
   | true=>rw [dn i j hij hj hc] at hb;cases hb
 rw [Qnb]
 refine wpS_bind (Qih hk (hI hint hh) ?_)
 dsimp only
 cases hr:beyP left k (K arr (base+hint)) with
 | true =>
   rw [if_pos rfl]
   refine wpS_bind (wpS_mono (wpS_forRange (I:=λx c st'=>st'=st/\∃l o,c=(none,l,o)/\l<o/\hint+l<n/\x+1<=o/\beyP left k (K arr (base+(hint+l)))=true)
     (Q:=λc st'=>st'=st/\∃l o,c=(none,l,o)/\l<o/\hint+l<n/\beyP left k (K arr (base+(hint+l)))=true/\(o>=n-hint\/beyP left k (K arr (base+(hint+o)))=false)) ?_ ?_ ⟨rfl,0,1,rfl,by exact om426,by exact om427 ‹_›,by exact om428,hr⟩) ?_)
   . intro x c st' u_ hx hJ_
     refine smG λH_ k_=>?_
     obtain ⟨rfl,l,o,rfl,g1,g2,g3,g4⟩:=hJ_
     refine k_ ?_
     clear k_ H_
     dsimp only
     by_cases hge:o>=n-hint
     . rw [if_pos hge]
       exact wpS_pure ⟨rfl,l,o,rfl,g1,g2,g4,.inl hge⟩
     . rw [if_neg hge]
       refine wpS_bind (Qih hk (hI _ (by exact om430 ‹_› ‹_›)) ?_)
       dsimp only
       cases hm:beyP left k (K arr (base+(hint+o))) with
       | true =>
         rw [if_neg (by simp)]
         exact wpS_pure ⟨rfl,o,2*o+1,rfl,by exact om433,by exact om430 ‹_› ‹_›,by exact om434 ‹_› ‹_›,hm⟩
       | false =>
         rw [if_pos (show (!false)=true from rfl)]
         exact wpS_pure ⟨rfl,l,o,rfl,g1,g2,g4,.inr hm⟩
   . intro c st' hJ_
     refine smG λH_ k_=>?_
     obtain ⟨rfl,l,o,rfl,g1,g2,g3,g4⟩:=hJ_
     refine k_ ?_
     clear k_ H_
     exact ⟨rfl,l,o,rfl,g1,g2,g4,.inl (by exact om437 ‹_› ‹_›)⟩
   . intro c st' hJ_
     refine smG λH_ k_=>?_
     obtain ⟨rfl,l,o,rfl,g1,g2,g3,g4⟩:=hJ_
     refine k_ ?_
     clear k_ H_
     refine wpS_bind (Ql2 (lo:=hint+l+1) (hi:=hint+min o (n-hint)) hk hI dn (by exact om439 ‹_› ‹_› ‹_›) (by exact om440 ‹_›) (λi hi=>dn i _ (by exact om441 ‹_›) g2 g3) (λi h1 h2=>?_) λl j hc=>wpS_pure (h j hc))
     rcases g4 with g4 | g4
     . omega
     . by_cases ho:hint+o<n
       . exact up _ i (by exact om443 ‹_› ‹_› ‹_›) h2 g4
       . omega
 | false =>
   rw [if_neg (by simp)]
   refine wpS_bind (wpS_mono (wpS_forRange (I:=λx c st'=>st'=st/\∃l o,c=(none,l,o)/\l<o/\l<=hint/\x+1<=o/\beyP left k (K arr (base+(hint-l)))=false)
     (Q:=λc st'=>st'=st/\∃l o,c=(none,l,o)/\l<o/\l<=hint/\beyP left k (K arr (base+(hint-l)))=false/\(o>=hint+1\/beyP left k (K arr (base+(hint-o)))=true)) ?_ ?_ ⟨rfl,0,1,rfl,by exact om426,by exact Qdy,by exact om428,hr⟩) ?_)
   . intro x c st' u_ hx hJ_
     refine smG λH_ k_=>?_
     obtain ⟨rfl,l,o,rfl,g1,g2,g3,g4⟩:=hJ_
     refine k_ ?_
     clear k_ H_
     dsimp only
     by_cases hge:o>=hint+1
     . rw [if_pos hge]
       exact wpS_pure ⟨rfl,l,o,rfl,g1,g2,g4,.inl hge⟩
     . rw [if_neg hge]
       refine wpS_bind (Qih hk (hI _ (by exact om445 ‹_› ‹_› ‹_›)) ?_)
       dsimp only
       cases hm:beyP left k (K arr (base+(hint-o))) with
       | true =>
         rw [if_pos rfl]
         exact wpS_pure ⟨rfl,l,o,rfl,g1,g2,g4,.inr hm⟩
       | false =>
         rw [if_neg (by simp)]
         exact wpS_pure ⟨rfl,o,2*o+1,rfl,by exact om433,by exact om446 ‹_›,by exact om434 ‹_› ‹_›,hm⟩
   . intro c st' hJ_
     refine smG λH_ k_=>?_
     obtain ⟨rfl,l,o,rfl,g1,g2,g3,g4⟩:=hJ_
     refine k_ ?_
     clear k_ H_
     exact ⟨rfl,l,o,rfl,g1,g2,g4,.inl (by exact om447 ‹_› ‹_›)⟩
   . intro c st' hJ_
     refine smG λH_ k_=>?_
     obtain ⟨rfl,l,o,rfl,g1,g2,g3,g4⟩:=hJ_
     refine k_ ?_
     clear k_ H_
     refine wpS_bind (Ql2 (lo:=hint+1-min o (hint+1)) (hi:=hint-l) hk hI dn (by exact om448 ‹_› ‹_›) (by exact om449 ‹_› ‹_›) (λi hi=>?_) (λi h1 h2=>up _ i (by exact om450 ‹_›) h2 g3) λl j hc=>wpS_pure (h j hc))
     rcases g4 with g4 | g4
     . exact (om451 ‹_› ‹_›).elim
     . exact dn i _ (by exact om452 ‹_›) (by exact om453 ‹_› ‹_› ‹_›) g4
end
end Mine
namespace Mine
open PySem PyProof.Rows
noncomputable def kf (p:Keyed):Int:=numOf p.1
noncomputable def LeK (p q:Keyed):Prop:=kf p<=kf q
noncomputable def GeK (p q:Keyed):Prop:=kf q<=kf p
structure MgI (R:Keyed->Keyed->Prop)(L X Y O:List Keyed):Prop where
 perm:(O++(X++Y)).Perm L
 so:O.Pairwise R
 le:∀x∈O,∀y∈X++Y,R x y
theorem MgI.takeX {R:Keyed->Keyed->Prop}{L X Y O T X':List Keyed}(h:MgI R L X Y O)(hp:X.Perm (T++X'))(hT:T.Pairwise R)(h1:∀x∈T,∀y∈X',R x y)(h2:∀x∈T,∀y∈Y,R x y):MgI R L X' Y (O++T) where
 perm:=by
   refine List.Perm.trans ?_ h.perm
   rw [Qwr,<-Qwr T]
   exact List.Perm.append_left _ (List.Perm.append_right _ hp.symm)
 so:=Qxz.mpr ⟨h.so,hT,λx hx y hy=>h.le x hx y (Qaq _ (hp.mem_iff.mpr (Qaq _ hy)))⟩
 le:=λx hx y hy=>by
   rcases Qaz.mp hx with hx | hx
   . refine h.le x hx y ?_
     rcases Qaz.mp hy with hy | hy
     . exact Qaq _ (hp.mem_iff.mpr (Qbv _ hy))
     . exact Qbv _ hy
   . rcases Qaz.mp hy with hy | hy
     . exact h1 x hx y hy
     . exact h2 x hx y hy
theorem MgI.symm {R:Keyed->Keyed->Prop}{L X Y O:List Keyed}(h:MgI R L X Y O):MgI R L Y X O :=
 ⟨(List.Perm.append_left _ Qwf).trans h.perm,h.so,λx hx y hy=>h.le x hx y (Qwf.mem_iff.mp hy)⟩
theorem MgI.takeY {R:Keyed->Keyed->Prop}{L X Y O T Y':List Keyed}(h:MgI R L X Y O)(hp:Y.Perm (T++Y'))(hT:T.Pairwise R)(h1:∀x∈T,∀y∈Y',R x y)(h2:∀x∈T,∀y∈X,R x y):MgI R L X Y' (O++T) :=
 (h.symm.takeX hp hT h1 h2).symm
theorem MgI.fin {R:Keyed->Keyed->Prop}{L X Y O Z:List Keyed}(h:MgI R L X Y O)(hp:Z.Perm (X++Y))(hZ:Z.Pairwise R):(O++Z).Perm L/\(O++Z).Pairwise R :=
 ⟨(List.Perm.append_left _ hp).trans h.perm,Qxz.mpr ⟨h.so,hZ,λx hx y hy=>h.le x hx y (hp.mem_iff.mp hy)⟩⟩
theorem MgI.len {R:Keyed->Keyed->Prop}{L X Y O:List Keyed}(h:MgI R L X Y O):O.length<=L.length:=by
 have:=h.perm.length_eq
 simp only [Qey] at this
 exact om454 ‹_›
theorem Qjw {xs:Array Keyed}{i:Nat}(h:i<xs.toList.length):kf xs.toList[i]=K xs i:=(K_eq (by simpa using h)).symm
theorem Qda {xs:Array Keyed}{i:Nat}{y:Keyed}(h:y∈xs.toList.drop i):∃j,i<=j/\j<xs.size/\kf y=K xs j:=by
 obtain ⟨j,hj,rfl⟩:=List.mem_drop_iff_getElem.mp h
 exact ⟨i+j,by exact om47,by simp at hj;exact om455 ‹_›,Qjw _⟩
theorem Qc8 {xs:Array Keyed}{i:Nat}{y:Keyed}(h:y∈xs.toList.take i):∃j,j<i/\j<xs.size/\kf y=K xs j:=by
 obtain ⟨j,hj,rfl⟩:=Qx2.mp h
 exact ⟨j,by exact om456 ‹_›,by simp at hj;exact om458 ‹_›,Qjw _⟩
theorem Qe5 {xs:Array Keyed}{i k:Nat}{y:Keyed}(h:y∈(xs.toList.drop i).take k):∃j,i<=j/\j<i+k/\j<xs.size/\kf y=K xs j:=by
 obtain ⟨j,hj,rfl⟩:=Qx2.mp h
 rw [List.getElem_drop]
 exact ⟨i+j,by exact om47,by exact om457 ‹_›,by simp at hj;exact om460 ‹_›,Qjw _⟩
theorem Seg.pw {xs:Array Keyed}(h:Seg xs 0 xs.size):xs.toList.Pairwise LeK:=by
 rw [Qyz]
 intro i j hi hj hij
 unfold LeK
 rw [Qjw,Qjw]
 exact h i j (by exact Qdy) (by exact Quv ‹_›) (by simpa using hj)
theorem Seg.of_pw {xs:Array Keyed}(h:xs.toList.Pairwise LeK):Seg xs 0 xs.size:=by
 intro i j h1 h2 h3
 rw [Qyz] at h
 by_cases e:i=j
 . subst e;exact Qw0 _
 . have:=h i j (by simp;exact Qsg ‹_› ‹_›) (by simpa using h3) (by exact om459 ‹_› ‹_›)
   unfold LeK at this
   rwa [Qjw,Qjw] at this
abbrev MLo (a b out:Array Keyed)(ia ib:Nat):Prop:=MgI LeK (a.toList++b.toList) (a.toList.drop ia) (b.toList.drop ib) out.toList
noncomputable def Mgd (a b out:Array Keyed):Prop:=out.toList.Perm (a.toList++b.toList)/\out.toList.Pairwise LeK
section
variable {a b out:Array Keyed} {ia ib:Nat}
theorem MLo.takeA (h:MLo a b out ia ib)(ha:Seg a 0 a.size)(k:Nat)(hk:ia+k<=a.size)(h2:∀i j,ia<=i->i<ia+k->ib<=j->j<b.size->K a i<=K b j):MLo a b (out++a.extract ia (ia+k)) (ia+k) ib:=by
 have e:(out++a.extract ia (ia+k)).toList=out.toList++(a.toList.drop ia).take k:=by simp
 unfold MLo
 rw [e,show a.toList.drop (ia+k)=(a.toList.drop ia).drop k by rw [Qyd]]
 refine MgI.takeX h (by rw [Qwl]) ?_ ?_ ?_
 . exact (ha.pw.sublist ((Qxf _ _).trans (Qxg _ _)))
 . intro x hx y hy
   rw [Qyd] at hy
   obtain ⟨i,i1,i2,i3,e1⟩:=Qe5 hx
   obtain ⟨j,j1,j2,e2⟩:=Qda hy
   unfold LeK;rw [e1,e2];exact ha i j (by exact Qdy) (by exact om464 ‹_› ‹_›) j2
 . intro x hx y hy
   obtain ⟨i,i1,i2,i3,e1⟩:=Qe5 hx
   obtain ⟨j,j1,j2,e2⟩:=Qda hy
   unfold LeK;rw [e1,e2];exact h2 i j i1 i2 j1 j2
theorem MLo.takeB (h:MLo a b out ia ib)(hb:Seg b 0 b.size)(k:Nat)(hk:ib+k<=b.size)(h2:∀i j,ib<=i->i<ib+k->ia<=j->j<a.size->K b i<=K a j):MLo a b (out++b.extract ib (ib+k)) ia (ib+k):=by
 have e:(out++b.extract ib (ib+k)).toList=out.toList++(b.toList.drop ib).take k:=by simp
 unfold MLo
 rw [e,show b.toList.drop (ib+k)=(b.toList.drop ib).drop k by rw [Qyd]]
 refine MgI.takeY h (by rw [Qwl]) ?_ ?_ ?_
 . exact (hb.pw.sublist ((Qxf _ _).trans (Qxg _ _)))
 . intro x hx y hy
   rw [Qyd] at hy
   obtain ⟨i,i1,i2,i3,e1⟩:=Qe5 hx
   obtain ⟨j,j1,j2,e2⟩:=Qda hy
   unfold LeK;rw [e1,e2];exact hb i j (by exact Qdy) (by exact om464 ‹_› ‹_›) j2
 . intro x hx y hy
   obtain ⟨i,i1,i2,i3,e1⟩:=Qe5 hx
   obtain ⟨j,j1,j2,e2⟩:=Qda hy
   unfold LeK;rw [e1,e2];exact h2 i j i1 i2 j1 j2
theorem Qhc {xs:Array Keyed}{i:Nat}(h:i<xs.size):xs.extract i (i+1) = #[xs[i]]:=by
 apply Array.ext
 . simp;exact om462 ‹_›
 . intro k h1 h2
   have:k=0:=by simp at h2;exact om463 ‹_›
   subst this;simp
theorem Qmc {xs:Array Keyed}{i:Nat}(h:i<xs.size):out.push xs[i]=out++xs.extract i (i+1):=by
 rw [Qhc h,Qzh]
theorem MLo.pushA (h:MLo a b out ia ib)(ha:Seg a 0 a.size)(hi:ia<a.size)(h2:∀j,ib<=j->j<b.size->K a ia<=K b j):MLo a b (out.push a[ia]) (ia+1) ib:=by
 rw [Qmc hi]
 refine MLo.takeA h ha 1 (by exact Qm2 ‹_›) λi j i1 i2=>?_
 obtain rfl:i=ia:=by exact Qsd ‹_› ‹_›
 exact h2 j
theorem MLo.pushB (h:MLo a b out ia ib)(hb:Seg b 0 b.size)(hi:ib<b.size)(h2:∀j,ia<=j->j<a.size->K b ib<=K a j):MLo a b (out.push b[ib]) ia (ib+1):=by
 rw [Qmc hi]
 refine MLo.takeB h hb 1 (by exact Qm2 ‹_›) λi j i1 i2=>?_
 obtain rfl:i=ib:=by exact Qsd ‹_› ‹_›
 exact h2 j
theorem Qcj (xs:Array Keyed)(i:Nat):(xs.extract i xs.size).toList=xs.toList.drop i:=by
 rw [Qzi,Qy0,Qxs]
 simp
theorem MLo.done (h:MLo a b out ia ib)(ha:Seg a 0 a.size)(hb:Seg b 0 b.size)(e:a.size<=ia\/b.size<=ib):Mgd a b (out++a.extract ia a.size++b.extract ib b.size):=by
 unfold Mgd
 rw [Qwj,Qwj,Qcj,Qcj,Qwr]
 refine MgI.fin h (List.Perm.refl _) ?_
 rcases e with e | e
 . rw [Qy8 (by simpa using e),Qld]
   exact hb.pw.sublist (Qxg _ _)
 . rw [Qy8 (l:=b.toList) (by simpa using e),Qxv]
   exact ha.pw.sublist (Qxg _ _)
theorem MLo.last (h:MLo a b out ia ib)(ha:Seg a 0 a.size)(hb:Seg b 0 b.size)(e:ia+1=a.size)(hl:∀j,j<b.size->K b j<=K a (a.size-1)):Mgd a b (out++b.extract ib b.size++a.extract ia a.size):=by
 unfold Mgd
 rw [Qwj,Qwj,Qcj,Qcj,Qwr]
 refine MgI.fin h Qwf ?_
 refine Qxz.mpr ⟨hb.pw.sublist (Qxg _ _),ha.pw.sublist (Qxg _ _),λx hx y hy=>?_⟩
 obtain ⟨i,i1,i2,e1⟩:=Qda hx
 obtain ⟨j,j1,j2,e2⟩:=Qda hy
 unfold LeK;rw [e1,e2,show j=a.size-1 by exact om465 ‹_› ‹_› ‹_›];exact hl i i2
theorem MLo.first (ha:Seg a 0 a.size)(hb:Seg b 0 b.size)(hb0:0<b.size)(h2:∀j,j<a.size->K b 0<=K a j):MLo a b #[b[0]] 0 1:=by
 have h0:MLo a b #[] 0 0:=⟨by simp,by simp,by simp⟩
 have:=MLo.pushB h0 hb hb0 λj u_=>h2 j
 simpa using this
end
end Mine
namespace Mine
open PySem PyProof.Rows
noncomputable def Qip:Array Keyed->Array Keyed->StateT SortSt Sem (Array Keyed):=sortPriv% PySem.Builtin.mergeLo
abbrev Qe0 (st:SortSt)(g:Nat):SortSt:=SortSt.mk' (kindOf st) (arrOf st) (pendingOf st) g (failedOf st)
noncomputable def Qa3 (g:Nat):StateT SortSt Sem Unit:=modify λst=>Qe0 st g
section
variable {prog:Program} {w:World} {A:Around} {E:Value->Shared->Prop} {s:Shared} {a₀:Array Keyed}
noncomputable def GS (st st':SortSt):Prop:=∃g,st'=Qe0 st g
theorem GS.refl (st:SortSt):GS st st:=⟨gallopOf st,rfl⟩
theorem GS.set {st st':SortSt}(h:GS st st')(g:Nat):GS st (Qe0 st' g):=by obtain ⟨k,rfl⟩:=h;exact ⟨g,rfl⟩
theorem GS.kind {st st':SortSt}(h:GS st st'):kindOf st'=kindOf st:=by obtain ⟨k,rfl⟩:=h;rfl
theorem Qpm {xs:Array Keyed}(hI:∀i,i<xs.size->IntAt xs i){i:Nat}(hi:i<xs.size):∃n t q,xs[i]? = some (.int n t,q)/\K xs i=n/\xs[i]=(.int n t,q):=by
 refine smG λH_ k_=>?_
 obtain ⟨n,t,q,e⟩:=hI i hi
 refine k_ ?_
 clear k_ H_
 exact ⟨n,t,q,e,Qs5 e,by rw [getElem?_pos xs i hi] at e;exact Option.some.inj e⟩
theorem Qa1 {st:SortSt}{xs:Array Keyed}{i:Nat}{Q:Keyed->SortSt->Prop}(hi:i<xs.size)(hq:Q xs[i] st):wpS (model prog w) A E s (elem' xs i) Q st:=Qtl (getElem?_pos xs i hi) hq
theorem Qn3 {st:SortSt}{xs ys:Array Keyed}{i j:Nat}{hi:i<xs.size}{hj:j<ys.size}{Q:Option Bool->SortSt->Prop}(hk:kindOf st=oneType')(h1:∀i,i<xs.size->IntAt xs i)(h2:∀i,i<ys.size->IntAt ys i)
   (h:Q (some (decide (K xs i<K ys j))) st):wpS (model prog w) A E s (lt' xs[i] ys[j]) Q st:=by
 refine smG λH_ k_=>?_
 obtain ⟨n,t,q,e1,e2,e3⟩:=Qpm h1 hi
 refine k_ ?_
 clear k_ H_
 refine smG λH_ k_=>?_
 obtain ⟨n',t',q',e1',e2',e3'⟩:=Qpm h2 hj
 refine k_ ?_
 clear k_ H_
 rw [e3,e3']
 refine Qku hk ?_
 rwa [e2,e2'] at h
theorem Qdh {st:SortSt}{left:Bool}{xs arr:Array Keyed}{i base n hint:Nat}{hi:i<xs.size}{Q:Option Nat->SortSt->Prop}(hk:kindOf st=oneType')(h1:∀i,i<xs.size->IntAt xs i)(hI:∀i,i<arr.size->IntAt arr i)(hn:base+n<=arr.size)(hh:hint<n)(hs:Seg arr 0 arr.size)
   (h:∀j,Cut left (K xs i) arr base n j->Q (some j) st):wpS (model prog w) A E s (Qdo left xs[i] arr base n hint) Q st:=by
 refine smG λH_ k_=>?_
 obtain ⟨m,t,q,e1,e2,e3⟩:=Qpm h1 hi
 refine k_ ?_
 clear k_ H_
 rw [e3]
 rw [e2] at h
 exact Qfq hk (λi hi=>hI _ (by exact Qm1 ‹_› ‹_›)) hh (λi j h1 h2 h3=>hs i j (by exact Qdy) h2 (by exact om466 ‹_› ‹_›)) h
theorem Qed {st:SortSt}{g:Nat}{Q:Unit->SortSt->Prop}(h:Q () (Qe0 st g)):wpS (model prog w) A E s (Qa3 g) Q st:=wpS_modify h
structure MP (a b:Array Keyed):Prop where
 ia:∀i,i<a.size->IntAt a i
 ib:∀i,i<b.size->IntAt b i
 sa:Seg a 0 a.size
 sb:Seg b 0 b.size
 na:0<a.size
 nb:0<b.size
 fst:K b 0<K a 0
 lst:K b (b.size-1)<K a (a.size-1)
abbrev LSt1:=Option (Array Keyed)×Array Keyed×Nat×Nat×Nat×Nat
abbrev LSt2:=Option (Array Keyed)×Array Keyed×Nat×Nat×Nat×Nat×Nat
abbrev LSt0:=Option (Array Keyed)×Array Keyed×Nat×Nat×Nat
structure LN (a b out:Array Keyed)(ia ib m:Nat):Prop where
 hm:MLo a b out ia ib
 ha:ia+1<a.size
 hb:ib<b.size
 hs:m<=out.size
noncomputable def LOk (a b:Array Keyed)(m:Nat)(r:Option (Array Keyed))(out:Array Keyed)(ia ib:Nat):Prop :=
 (∃R,r=some R/\Mgd a b R)\/(r=none/\LN a b out ia ib m)
noncomputable def Qs4 (a b:Array Keyed)(m:Nat)(st:SortSt)(r:ForInStep LSt2)(st':SortSt):Prop :=
 match r with
 | ForInStep.done c'=>GS st st'/\LOk a b m c'.fst c'.snd.fst c'.snd.snd.fst c'.snd.snd.snd.fst
 | ForInStep.yield c'=>GS st st'/\c'.fst=none/\LOk a b m c'.fst c'.snd.fst c'.snd.snd.fst c'.snd.snd.snd.fst
noncomputable def loT3 (a b out:Array Keyed)(ia ib g k k1:Nat):StateT SortSt Sem (ForInStep LSt2):=do
     let y <-elem' a ia
     if (ia+1+1 == a.size)=true then
       pure (ForInStep.done ((some (out.push y++b.extract ib b.size++a.extract (ia+1) a.size),out.push y,ia+1,ib,g,k,k1):LSt2))
     else if (decide (k<7) && decide (k1<7))=true then
       pure (ForInStep.done ((none,out.push y,ia+1,ib,g,k,k1):LSt2))
     else pure (ForInStep.yield ((none,out.push y,ia+1,ib,g,k,k1):LSt2))
noncomputable def loT2 (a b out:Array Keyed)(ia ib g k bc:Nat):StateT SortSt Sem (ForInStep LSt2):=do
     let y <-elem' b ib
     if (ib+1 == b.size)=true then
       pure (ForInStep.done ((some (out.push y++a.extract ia a.size++b.extract (ib+1) b.size),out.push y,ia,ib+1,g,k,bc):LSt2))
     else do
       let y1 <-elem' a ia
       let z <-Qdo true y1 b (ib+1) (b.size-(ib+1)) 0
       match z with
       | some k_1 =>
         if k_1 > 0 then
           if (ib+1+k_1 == b.size)=true then
             pure (ForInStep.done ((some (out.push y++b.extract (ib+1) (ib+1+k_1)++a.extract ia a.size++b.extract (ib+1+k_1) b.size),out.push y++b.extract (ib+1) (ib+1+k_1),ia,ib+1+k_1,g,k,k_1):LSt2))
           else loT3 a b (out.push y++b.extract (ib+1) (ib+1+k_1)) ia (ib+1+k_1) g k k_1
         else loT3 a b (out.push y) ia (ib+1) g k k_1
       | _=>pure (ForInStep.done ((some (out.push y++a.extract ia a.size++b.extract (ib+1) b.size),out.push y,ia,ib+1,g,k,bc):LSt2))
noncomputable def loT1 (a b out:Array Keyed)(ia ib g ac bc:Nat):StateT SortSt Sem (ForInStep LSt2):=do
 let y <-elem' b ib
 let z <-Qdo false y a ia (a.size-ia) 0
 match z with
 | some k =>
   if k > 0 then
     if (ia+k+1 == a.size)=true then
       pure (ForInStep.done ((some (out++a.extract ia (ia+k)++b.extract ib b.size++a.extract (ia+k) a.size),out++a.extract ia (ia+k),ia+k,ib,g,k,bc):LSt2))
     else if (ia+k == a.size)=true then
       pure (ForInStep.done ((some (out++a.extract ia (ia+k)++a.extract (ia+k) a.size++b.extract ib b.size),out++a.extract ia (ia+k),ia+k,ib,g,k,bc):LSt2))
     else loT2 a b (out++a.extract ia (ia+k)) (ia+k) ib g k bc
   else loT2 a b out ia ib g k bc
 | _=>pure (ForInStep.done ((some (out++a.extract ia a.size++b.extract ib b.size),out,ia,ib,g,ac,bc):LSt2))
noncomputable def loT4 (a b out:Array Keyed)(ia ib g ac bc:Nat):StateT SortSt Sem (ForInStep LSt2) :=
 if g > 1 then do
   Qa3 (g-1)
   loT1 a b out ia ib (g-1) ac bc
 else do
   Qa3 g
   loT1 a b out ia ib g ac bc
noncomputable def loT0 (a b out:Array Keyed)(ia ib g ac bc:Nat):StateT SortSt Sem (ForInStep LSt1):=do
 let y <-elem' b ib
 let x <-elem' a ia
 let z <-lt' y x
 match z with
 | some bWins =>
   if bWins=true then do
     let y <-elem' b ib
     if (ib+1 == b.size)=true then
       pure (ForInStep.done ((some (out.push y++a.extract ia a.size++b.extract (ib+1) b.size),out.push y,ia,ib+1,0,bc+1):LSt1))
     else if bc+1>=g then pure (ForInStep.done ((none,out.push y,ia,ib+1,0,bc+1):LSt1))
     else pure (ForInStep.yield ((none,out.push y,ia,ib+1,0,bc+1):LSt1))
   else do
     let y <-elem' a ia
     if (ia+1+1 == a.size)=true then
       pure (ForInStep.done ((some (out.push y++b.extract ib b.size++a.extract (ia+1) a.size),out.push y,ia+1,ib,ac+1,0):LSt1))
     else if ac+1>=g then pure (ForInStep.done ((none,out.push y,ia+1,ib,ac+1,0):LSt1))
     else pure (ForInStep.yield ((none,out.push y,ia+1,ib,ac+1,0):LSt1))
 | _=>pure (ForInStep.done ((some (out++a.extract ia a.size++b.extract ib b.size),out,ia,ib,ac,bc):LSt1))
noncomputable def loB (t:LSt2):StateT SortSt Sem (ForInStep LSt0) :=
 match t.1 with
 | some r=>pure (ForInStep.done ((some r,t.2.1,t.2.2.1,t.2.2.2.1,t.2.2.2.2.1):LSt0))
 | none=>do
   Qa3 (t.2.2.2.2.1+1)
   pure (ForInStep.yield ((none,t.2.1,t.2.2.1,t.2.2.2.1,t.2.2.2.2.1+1):LSt0))
noncomputable def loA (a b:Array Keyed)(g:Nat)(s:LSt1):StateT SortSt Sem (ForInStep LSt0) :=
 match s.1 with
 | some r=>pure (ForInStep.done ((some r,s.2.1,s.2.2.1,s.2.2.2.1,g):LSt0))
 | none=>do
   liftM (rule "list.sort.gallop")
   let t <-forIn [:a.size+b.size] ((none,s.2.1,s.2.2.1,s.2.2.2.1,g+1,s.2.2.2.2.1,s.2.2.2.2.2):LSt2) (λu_ t=>loT4 a b t.2.1 t.2.2.1 t.2.2.2.1 t.2.2.2.2.1 t.2.2.2.2.2.1 t.2.2.2.2.2.2)
   loB t
noncomputable def loO (a b:Array Keyed)(c:LSt0):StateT SortSt Sem (ForInStep LSt0):=do
 let s <-forIn [:a.size+b.size] ((none,c.2.1,c.2.2.1,c.2.2.2.1,0,0):LSt1) (λu_ s=>loT0 a b s.2.1 s.2.2.1 s.2.2.2.1 c.2.2.2.2 s.2.2.2.2.1 s.2.2.2.2.2)
 loA a b c.2.2.2.2 s
noncomputable def loZ (s:LSt0):StateT SortSt Sem (Array Keyed) :=
 match s.1 with
 | some r=>pure r
 | none=>unsupported "internal:list.sort.merge-bound"
noncomputable def loL (a b:Array Keyed):StateT SortSt Sem (Array Keyed):=do
 rule "list.sort.merge-lo"
 let y <-elem' b 0
 if (1 == b.size)=true then pure (#[y]++a.extract 0 a.size++b.extract 1 b.size)
 else if (0+1 == a.size)=true then pure (#[y]++b.extract 1 b.size++a.extract 0 a.size)
 else do
   let st <-get
   let s <-forIn [:a.size+b.size] ((none,#[y],0,1,gallopOf st):LSt0) (λu_ c=>loO a b c)
   loZ s
theorem Qm6:Qip=loL:=by kernel_rfl
theorem lo_t3 {st st':SortSt}{a b:Array Keyed}{m:Nat}{out:Array Keyed}{ia ib g k k1:Nat}(hk:kindOf st=oneType')(hP:MP a b)(hlast:∀j,j<b.size->K b j<=K a (a.size-1))
   (hg:GS st st') (hm:MLo a b out ia ib) (ha:ia+1<a.size) (hb:ib<b.size) (hs:m<=out.size) (h2:∀j,ib<=j->j<b.size->K a ia<=K b j) :
   wpS (model prog w) A E s (loT3 a b out ia ib g k k1) (Qs4 a b m st) st':=by
 unfold loT3
 have ha':ia<a.size:=by exact Qsc ‹_›
 refine wpS_bind (Qa1 ha' ?_)
 have hm':=hm.pushA hP.sa ha' h2
 have hs':m<=(out.push a[ia]).size:=by simp;exact Qsb ‹_›
 by_cases e3:ia+1+1=a.size
 . rw [if_pos (by simpa using e3)]
   exact wpS_pure ⟨hg,.inl ⟨_,rfl,hm'.last hP.sa hP.sb e3 hlast⟩⟩
 rw [if_neg (by simpa using e3)]
 split
 . exact wpS_pure ⟨hg,.inr ⟨rfl,hm',by dsimp only;exact Qr9 ‹_› ‹_› ‹_›,hb,hs'⟩⟩
 . exact wpS_pure ⟨hg,rfl,.inr ⟨rfl,hm',by dsimp only;exact Qr9 ‹_› ‹_› ‹_›,hb,hs'⟩⟩
theorem lo_t2 {st st':SortSt}{a b:Array Keyed}{m:Nat}{out:Array Keyed}{ia ib g k bc:Nat}(hk:kindOf st=oneType')(hP:MP a b)(hlast:∀j,j<b.size->K b j<=K a (a.size-1))
   (hg:GS st st') (hm:MLo a b out ia ib) (ha:ia+1<a.size) (hb:ib<b.size) (hs:m<=out.size) (h2:∀j,ia<=j->j<a.size->K b ib<=K a j) :
   wpS (model prog w) A E s (loT2 a b out ia ib g k bc) (Qs4 a b m st) st':=by
 unfold loT2
 have ha':ia<a.size:=by exact Qsc ‹_›
 refine wpS_bind (Qa1 hb ?_)
 have hm':=hm.pushB hP.sb hb h2
 have hs':m<=(out.push b[ib]).size:=by simp;exact Qsb ‹_›
 by_cases e3:ib+1=b.size
 . rw [if_pos (by simpa using e3)]
   exact wpS_pure ⟨hg,.inl ⟨_,rfl,hm'.done hP.sa hP.sb (.inr (by exact om469 ‹_› ‹_›))⟩⟩
 rw [if_neg (by simpa using e3)]
 have hk':kindOf st'=oneType':=hg.kind.trans hk
 refine wpS_bind (Qa1 ha' (wpS_bind (Qdh hk' hP.ia hP.ib (by exact om475 ‹_›) (by exact om476 ‹_› ‹_›) hP.sb λk1 hc=>?_)))
 dsimp only
 have c1:=hc.le
 have c2:∀i,ib+1<=i->i<ib+1+k1->K b i<K a ia:=λi i1 i2=>by
   have:=hc.lo (i-(ib+1)) (by exact om477 ‹_› ‹_› ‹_›)
   rw [show ib+1+(i-(ib+1))=i by exact om479 ‹_› ‹_›] at this
   simpa [beyP] using this
 have c3:∀i,ib+1+k1<=i->i<b.size->K a ia<=K b i:=λi i1 i2=>by
   have:=hc.hi (i-(ib+1)) (by exact om480 ‹_› ‹_›) (by exact om481 ‹_› ‹_› ‹_›)
   rw [show ib+1+(i-(ib+1))=i by exact om483 ‹_› ‹_›] at this
   simpa [beyP] using this
 by_cases hk0:k1 > 0
 . rw [if_pos hk0]
   have hm2:=hm'.takeB hP.sb k1 (by exact om485 ‹_› ‹_›) λi j i1 i2 j1 j2=>Qwh (Qw8 (c2 i i1 i2)) (hP.sa ia j (by exact om486 ‹_›) j1 j2)
   have hs2:m<=(out.push b[ib]++b.extract (ib+1) (ib+1+k1)).size:=by simp at hs' ⊢;exact om488 ‹_›
   by_cases e4:ib+1+k1=b.size
   . rw [if_pos (by simpa using e4)]
     exact wpS_pure ⟨hg,.inl ⟨_,rfl,hm2.done hP.sa hP.sb (.inr (by exact om491 ‹_› ‹_›))⟩⟩
   rw [if_neg (by simpa using e4)]
   exact lo_t3 hk hP hlast hg hm2 ha (by exact om496 ‹_› ‹_› ‹_›) hs2 c3
 . rw [if_neg hk0]
   obtain rfl:k1=0:=by exact om498 ‹_› ‹_›
   exact lo_t3 hk hP hlast hg hm' ha (by exact Quq ‹_› ‹_›) hs' c3
theorem Qos {st st':SortSt}{a b:Array Keyed}{m:Nat}{out:Array Keyed}{ia ib g ac bc:Nat}(hk:kindOf st=oneType')(hP:MP a b)(hlast:∀j,j<b.size->K b j<=K a (a.size-1))
   (hg:GS st st') (hm:MLo a b out ia ib) (ha:ia+1<a.size) (hb:ib<b.size) (hs:m<=out.size):wpS (model prog w) A E s (loT1 a b out ia ib g ac bc) (Qs4 a b m st) st':=by
 unfold loT1
 have ha':ia<a.size:=by exact Qsc ‹_›
 have hk':kindOf st'=oneType':=hg.kind.trans hk
 refine wpS_bind (Qa1 hb (wpS_bind (Qdh hk' hP.ib hP.ia (by exact om473 ‹_›) (by exact om474 ‹_›) hP.sa λk hc=>?_)))
 dsimp only
 have c1:=hc.le
 have c2:∀i,ia<=i->i<ia+k->K a i<=K b ib:=λi i1 i2=>by
   have:=hc.lo (i-ia) (by exact Qut ‹_› ‹_›)
   rw [show ia+(i-ia)=i by exact om75 ‹_›] at this
   simpa [beyP] using this
 have c3:∀i,ia+k<=i->i<a.size->K b ib<=K a i:=λi i1 i2=>by
   have:=hc.hi (i-ia) (by exact Qus ‹_›) (by exact om478 ‹_› ‹_› ‹_›)
   rw [show ia+(i-ia)=i by exact Qur ‹_›] at this
   have:K b ib<K a i:=by simpa [beyP] using this
   exact om482 ‹_›
 by_cases hk0:k > 0
 . rw [if_pos hk0]
   have hm2:=hm.takeA hP.sa k (by exact om487 ‹_› ‹_›) λi j i1 i2 j1 j2=>Qwh (c2 i i1 i2) (hP.sb ib j (by exact Qdy) j1 j2)
   have hs2:m<=(out++a.extract ia (ia+k)).size:=by simp;exact om489 ‹_›
   by_cases e4:ia+k+1=a.size
   . rw [if_pos (by simpa using e4)]
     exact wpS_pure ⟨hg,.inl ⟨_,rfl,hm2.last hP.sa hP.sb e4 hlast⟩⟩
   rw [if_neg (by simpa using e4)]
   by_cases e5:ia+k=a.size
   . rw [if_pos (by simpa using e5)]
     exact wpS_pure ⟨hg,.inl ⟨_,rfl,hm2.done hP.sa hP.sb (.inl (by exact om492 ‹_›))⟩⟩
   rw [if_neg (by simpa using e5)]
   exact lo_t2 hk hP hlast hg hm2 (by exact om493 ‹_› ‹_› ‹_› ‹_›) hb hs2 c3
 . rw [if_neg hk0]
   obtain rfl:k=0:=by exact om494 ‹_›
   exact lo_t2 hk hP hlast hg hm ha hb hs c3
noncomputable def LPost1 (a b:Array Keyed)(m m':Nat)(st:SortSt)(r:ForInStep LSt1)(st':SortSt):Prop :=
 match r with
 | ForInStep.done c'=>GS st st'/\LOk a b m c'.fst c'.snd.fst c'.snd.snd.fst c'.snd.snd.snd.fst
 | ForInStep.yield c'=>GS st st'/\c'.fst=none/\LOk a b m' c'.fst c'.snd.fst c'.snd.snd.fst c'.snd.snd.snd.fst
noncomputable def Qpz (a b:Array Keyed)(m:Nat)(st:SortSt)(r:ForInStep LSt0)(st':SortSt):Prop :=
 match r with
 | ForInStep.done c'=>GS st st'/\∃R,c'.fst=some R/\Mgd a b R
 | ForInStep.yield c'=>GS st st'/\c'.fst=none/\LOk a b m c'.fst c'.snd.fst c'.snd.snd.fst c'.snd.snd.snd.fst
section
variable {st st':SortSt} {a b:Array Keyed} {m x y:Nat} {out:Array Keyed} {ia ib g:Nat}
theorem LOk.go {r:Option (Array Keyed)}(h:LOk a b m r out ia ib)(e:r=none):LN a b out ia ib m:=by
 rcases h with ⟨R,e',u_⟩ | ⟨u_,h⟩
 . rw [e] at e';cases e'
 . exact h
theorem lo_in {ac bc:Nat}(hk:kindOf st=oneType')(hP:MP a b)(hlast:∀j,j<b.size->K b j<=K a (a.size-1))(hg:GS st st')(hn:LN a b out ia ib (x+1+y)) :
   wpS (model prog w) A E s (loT0 a b out ia ib g ac bc) (LPost1 a b (x+2) (x+1+(y+1)) st) st':=by
 have hm:=hn.hm
 have ha:=hn.ha
 have hb:=hn.hb
 have hs:=hn.hs
 have hk':kindOf st'=oneType':=hg.kind.trans hk
 have ha':ia<a.size:=by exact Qsc ‹_›
 refine wpS_bind (Qa1 hb (wpS_bind (Qa1 ha' (wpS_bind (Qn3 hk' hP.ib hP.ia ?_)))))
 dsimp only
 by_cases hw:K b ib<K a ia
 . rw [decide_eq_true hw,if_pos rfl]
   refine wpS_bind (Qa1 hb ?_)
   have hm':=hm.pushB hP.sb hb λj h1 h2=>Qwh (Qw8 hw) (hP.sa ia j (by exact Qdy) h1 h2)
   have hs':x+1+(y+1)<=(out.push b[ib]).size:=by simp;exact Qr8 ‹_›
   by_cases e3:ib+1=b.size
   . rw [if_pos (by simpa using e3)]
     exact wpS_pure ⟨hg,.inl ⟨_,rfl,hm'.done hP.sa hP.sb (.inr (by exact om469 ‹_› ‹_›))⟩⟩
   rw [if_neg (by simpa using e3)]
   by_cases e4:bc+1>=g
   . rw [if_pos e4]
     exact wpS_pure ⟨hg,.inr ⟨rfl,hm',ha,by dsimp only;exact Quq ‹_› ‹_›,Qdg (Qw2 (Qx7 1 y) (x+1)) hs'⟩⟩
   . rw [if_neg e4]
     exact wpS_pure ⟨hg,rfl,.inr ⟨rfl,hm',ha,by dsimp only;exact Quq ‹_› ‹_›,hs'⟩⟩
 . rw [decide_eq_false hw,if_neg (by simp)]
   refine wpS_bind (Qa1 ha' ?_)
   have hm':=hm.pushA hP.sa ha' λj h1 h2=>Qwh (Qyq.mp hw) (hP.sb ib j (by exact Qdy) h1 h2)
   have hs':x+1+(y+1)<=(out.push a[ia]).size:=by simp;exact Qr8 ‹_›
   by_cases e3:ia+1+1=a.size
   . rw [if_pos (by simpa using e3)]
     exact wpS_pure ⟨hg,.inl ⟨_,rfl,hm'.last hP.sa hP.sb e3 hlast⟩⟩
   rw [if_neg (by simpa using e3)]
   by_cases e4:ac+1>=g
   . rw [if_pos e4]
     exact wpS_pure ⟨hg,.inr ⟨rfl,hm',by dsimp only;exact Qr9 ‹_› ‹_› ‹_›,hb,Qdg (Qw2 (Qx7 1 y) (x+1)) hs'⟩⟩
   . rw [if_neg e4]
     exact wpS_pure ⟨hg,rfl,.inr ⟨rfl,hm',by dsimp only;exact Qr9 ‹_› ‹_› ‹_›,hb,hs'⟩⟩
theorem lo_t4 {ac bc:Nat}(hk:kindOf st=oneType')(hP:MP a b)(hlast:∀j,j<b.size->K b j<=K a (a.size-1))(hg:GS st st')(h:LN a b out ia ib m) :
   wpS (model prog w) A E s (loT4 a b out ia ib g ac bc) (Qs4 a b m st) st':=by
 unfold loT4
 split
 . exact wpS_bind (Qed (Qos hk hP hlast (hg.set _) h.hm h.ha h.hb h.hs))
 . exact wpS_bind (Qed (Qos hk hP hlast (hg.set _) h.hm h.ha h.hb h.hs))
theorem lo_b {t:LSt2}(hg:GS st st')(hc:LOk a b m t.1 t.2.1 t.2.2.1 t.2.2.2.1):wpS (model prog w) A E s (loB t) (Qpz a b m st) st':=by
 obtain ⟨r,out,ia,ib,g,ac,bc⟩:=t
 rcases hc with ⟨R,rfl,hR⟩ | ⟨rfl,hc⟩
 . exact wpS_pure ⟨hg,R,rfl,hR⟩
 . exact wpS_bind (Qed (wpS_pure ⟨hg.set _,rfl,.inr ⟨rfl,hc⟩⟩))
theorem lo_a {t:LSt1}(hk:kindOf st=oneType')(hP:MP a b)(hlast:∀j,j<b.size->K b j<=K a (a.size-1))(hg:GS st st')(hc:LOk a b m t.1 t.2.1 t.2.2.1 t.2.2.2.1) :
   wpS (model prog w) A E s (loA a b g t) (Qpz a b m st) st':=by
 obtain ⟨r,out,ia,ib,ac,bc⟩:=t
 rcases hc with ⟨R,rfl,hR⟩ | ⟨rfl,hc⟩
 . exact wpS_pure ⟨hg,R,rfl,hR⟩
 refine wpS_bind (wpS_lift (wpAny_rule ⟨rfl,?_⟩))
 exact wpS_bind (wpS_mono (wpS_forRange (I:=λy (c:LSt2) st'=>GS st st'/\c.1=none/\LOk a b m c.1 c.2.1 c.2.2.1 c.2.2.2.1)
   (Q:=λc st'=>GS st st'/\LOk a b m c.1 c.2.1 c.2.2.1 c.2.2.2.1) (λy c st' u_ u_ hI=>wpS_mono (lo_t4 hk hP hlast hI.1 (hI.2.2.go hI.2.1)) λr st'' hh=>by cases r <;> exact hh)
   (λc st' hI=>⟨hI.1,hI.2.2⟩) ⟨hg,rfl,.inr ⟨rfl,hc⟩⟩) λt st' hI=>lo_b hI.1 hI.2)
theorem lo_o {c:LSt0}(hk:kindOf st=oneType')(hP:MP a b)(hlast:∀j,j<b.size->K b j<=K a (a.size-1))(hx:x<a.size+b.size)(hg:GS st st')(hc:LN a b c.2.1 c.2.2.1 c.2.2.2.1 (x+1)) :
   wpS (model prog w) A E s (loO a b c) (Qpz a b (x+2) st) st':=by
 refine wpS_bind (wpS_mono (wpS_forRange (I:=λy (c:LSt1) st'=>GS st st'/\c.1=none/\LOk a b (x+1+y) c.1 c.2.1 c.2.2.1 c.2.2.2.1)
     (Q:=λc st'=>GS st st'/\LOk a b (x+2) c.1 c.2.1 c.2.2.1 c.2.2.2.1) (λy c st' u_ u_ hI=>wpS_mono (lo_in hk hP hlast hI.1 (hI.2.2.go hI.2.1)) λr st'' hh=>by cases r <;> exact hh)
     (λc st' hI=>⟨hI.1,?_⟩) ⟨hg,rfl,.inr ⟨rfl,hc⟩⟩) λt st' hI=>lo_a hk hP hlast hI.1 hI.2)
 have hn:=hI.2.2.go hI.2.1
 refine .inr ⟨hI.2.1,hn.hm,hn.ha,hn.hb,?_⟩
 have:=hn.hs
 omega
end
theorem Qkr {st:SortSt}{a b:Array Keyed}{Q:Array Keyed->SortSt->Prop}(hk:kindOf st=oneType')(hP:MP a b)(h:∀out st',GS st st'->Mgd a b out->Q out st'):wpS (model prog w) A E s (Qip a b) Q st:=by
 have hlast:∀j,j<b.size->K b j<=K a (a.size-1):=λj hj=>Qwh (hP.sb j (b.size-1) (by exact Qdy) (by exact om470 ‹_›) (by have:=hP.nb;exact Qsa ‹_›)) (Qw8 hP.lst)
 rw [Qm6]
 refine wpS_bind (wpS_lift (wpAny_rule ⟨rfl,?_⟩))
 refine wpS_bind (Qa1 hP.nb ?_)
 have hfirst:MLo a b #[b[0]'hP.nb] 0 1:=MLo.first hP.sa hP.sb hP.nb λj hj=>Qwh (Qw8 hP.fst) (hP.sa 0 j (by exact om484) (by exact Qdy) hj)
 by_cases e1:1=b.size
 . rw [if_pos (by simpa using e1)]
   exact wpS_pure (h _ _ (.refl _) (hfirst.done hP.sa hP.sb (.inr (by exact om490 ‹_›))))
 rw [if_neg (by simpa using e1)]
 by_cases e2:0+1=a.size
 . rw [if_pos (by simpa using e2)]
   exact wpS_pure (h _ _ (.refl _) (hfirst.last hP.sa hP.sb e2 hlast))
 rw [if_neg (by simpa using e2)]
 refine wpS_bind (wpS_get ?_)
 have hn:=hP.na
 have hn':=hP.nb
 refine wpS_bind (wpS_mono (wpS_forRange (I:=λx (c:LSt0) st'=>GS st st'/\c.1=none/\LOk a b (x+1) c.1 c.2.1 c.2.2.1 c.2.2.2.1)
   (Q:=λc st'=>GS st st'/\∃R,c.1=some R/\Mgd a b R) (λx c st' u_ hx hI=>wpS_mono (lo_o hk hP hlast hx hI.1 (hI.2.2.go hI.2.1)) λr st'' hh=>by cases r <;> exact hh) ?fin ⟨.refl _,rfl,.inr ⟨rfl,hfirst,by dsimp only;exact om495 ‹_› ‹_›,by dsimp only;exact om497 ‹_› ‹_› ‹_› ‹_›,by simp⟩⟩) ?post)
 case post =>
   rintro ⟨r,c⟩ st' ⟨hg,R,rfl,hR⟩
   exact wpS_pure (h _ _ hg hR)
 case fin =>
   intro c st' hI
   exfalso
   have hn:=hI.2.2.go hI.2.1
   have this:=hn.hm.len
   have hs:=hn.hs
   simp at this
   exact (om500 ‹_› ‹_›).elim
end
end Mine
namespace Mine
open PySem PyProof.Rows
abbrev MHi (a b out:Array Keyed)(na nb:Nat):Prop:=MgI GeK (a.toList++b.toList) (a.toList.take na) (b.toList.take nb) out.toList
theorem Qok {l:List Keyed}(h:l.Pairwise LeK):l.reverse.Pairwise GeK:=Qze.mpr h
theorem Quf {l:List Keyed}(h:l.Pairwise GeK):l.reverse.Pairwise LeK:=Qze.mpr h
theorem Qa5 (xs:Array Keyed)(i j:Nat):(xs.extract i j).toList=(xs.toList.take j).drop i:=by
 rw [Qzi,Qy0,Qzl]
theorem Qd0 {xs:Array Keyed}{i j:Nat}{y:Keyed}(h:y∈(xs.toList.take j).drop i):∃k,i<=k/\k<j/\k<xs.size/\kf y=K xs k:=by
 rw [Qzl] at h
 obtain ⟨k,k1,k2,k3,e⟩:=Qe5 h
 exact ⟨k,k1,by exact om504 ‹_› ‹_›,k3,e⟩
theorem Qo2 {xs out:Array Keyed}{i j:Nat}(h:i<=j):(xs.toList.take j).Perm ((xs.extract i j).toList.reverse++xs.toList.take i):=by
 rw [Qa5]
 refine List.Perm.trans ?_ (List.Perm.append_right _ (Qyc _).symm)
 refine List.Perm.trans ?_ Qwf
 have:xs.toList.take i=(xs.toList.take j).take i:=by rw [Qzm,Qw1 h]
 rw [this,Qwl]
section
variable {a b out:Array Keyed} {na nb:Nat}
theorem MHi.takeA (h:MHi a b out na nb)(ha:Seg a 0 a.size)(k:Nat)(hk:k<=na)(hn:na<=a.size)(h2:∀i j,k<=i->i<na->j<nb->j<b.size->K b j<=K a i):MHi a b (out++(a.extract k na).reverse) k nb:=by
 unfold MHi
 rw [Qwj,Qx0]
 refine MgI.takeX h (Qo2 (out:=out) hk) ?_ ?_ ?_
 . rw [Qa5]
   exact Qok (ha.pw.sublist ((Qxg _ _).trans (Qxf _ _)))
 . intro x hx y hy
   rw [Qyj,Qa5] at hx
   obtain ⟨i,i1,i2,i3,e1⟩:=Qd0 hx
   obtain ⟨j,j1,j2,e2⟩:=Qc8 hy
   unfold GeK;rw [e1,e2];exact ha j i (by exact Qdy) (by exact om505 ‹_› ‹_›) i3
 . intro x hx y hy
   rw [Qyj,Qa5] at hx
   obtain ⟨i,i1,i2,i3,e1⟩:=Qd0 hx
   obtain ⟨j,j1,j2,e2⟩:=Qc8 hy
   unfold GeK;rw [e1,e2];exact h2 i j i1 i2 j1 j2
theorem MHi.takeB (h:MHi a b out na nb)(hb:Seg b 0 b.size)(k:Nat)(hk:k<=nb)(hn:nb<=b.size)(h2:∀i j,k<=i->i<nb->j<na->j<a.size->K a j<=K b i):MHi a b (out++(b.extract k nb).reverse) na k:=by
 unfold MHi
 rw [Qwj,Qx0]
 refine MgI.takeY h (Qo2 (out:=out) hk) ?_ ?_ ?_
 . rw [Qa5]
   exact Qok (hb.pw.sublist ((Qxg _ _).trans (Qxf _ _)))
 . intro x hx y hy
   rw [Qyj,Qa5] at hx
   obtain ⟨i,i1,i2,i3,e1⟩:=Qd0 hx
   obtain ⟨j,j1,j2,e2⟩:=Qc8 hy
   unfold GeK;rw [e1,e2];exact hb j i (by exact Qdy) (by exact om505 ‹_› ‹_›) i3
 . intro x hx y hy
   rw [Qyj,Qa5] at hx
   obtain ⟨i,i1,i2,i3,e1⟩:=Qd0 hx
   obtain ⟨j,j1,j2,e2⟩:=Qc8 hy
   unfold GeK;rw [e1,e2];exact h2 i j i1 i2 j1 j2
theorem Qjr {xs:Array Keyed}{i:Nat}(h:i<xs.size):out.push xs[i]=out++(xs.extract i (i+1)).reverse:=by
 rw [Qhc h,Qzh];rfl
theorem MHi.pushA (h:MHi a b out na nb)(ha:Seg a 0 a.size)(h0:na-1<a.size)(hp:0<na)(h2:∀j,j<nb->j<b.size->K b j<=K a (na-1)):MHi a b (out.push a[na-1]) (na-1) nb:=by
 obtain ⟨k,rfl⟩:∃k,na=k+1:=⟨na-1,by exact om506 ‹_›⟩
 simp only [Qyw] at h2 h0 ⊢
 rw [Qjr h0]
 refine MHi.takeA h ha k (by exact Qup) (by exact Qm2 ‹_›) λi j i1 i2=>?_
 obtain rfl:i=k:=by exact Qsd ‹_› ‹_›
 exact h2 j
theorem MHi.pushB (h:MHi a b out na nb)(hb:Seg b 0 b.size)(h0:nb-1<b.size)(hp:0<nb)(h2:∀j,j<na->j<a.size->K a j<=K b (nb-1)):MHi a b (out.push b[nb-1]) na (nb-1):=by
 obtain ⟨k,rfl⟩:∃k,nb=k+1:=⟨nb-1,by exact om506 ‹_›⟩
 simp only [Qyw] at h2 h0 ⊢
 rw [Qjr h0]
 refine MHi.takeB h hb k (by exact Qup) (by exact Qm2 ‹_›) λi j i1 i2=>?_
 obtain rfl:i=k:=by exact Qsd ‹_› ‹_›
 exact h2 j
theorem Qtp {L X Y O Z:List Keyed}(h:MgI GeK L X Y O)(hp:Z.Perm (X++Y))(hZ:Z.Pairwise LeK):(Z++O.reverse).Perm L/\(Z++O.reverse).Pairwise LeK:=by
 obtain ⟨g1,g2⟩:=h.fin ((Qyc Z).trans hp) (Qok hZ)
 have e:Z++O.reverse=(O++Z.reverse).reverse:=by rw [List.reverse_append,List.reverse_reverse]
 rw [e]
 exact ⟨(Qyc _).trans g1,Quf g2⟩
theorem Qcv (xs:Array Keyed)(i:Nat):(xs.extract 0 i).toList=xs.toList.take i:=by rw [Qa5,List.drop_zero]
theorem MHi.done (h:MHi a b out na nb)(ha:Seg a 0 a.size)(hb:Seg b 0 b.size)(e:na=0\/nb=0):Mgd a b (a.extract 0 na++b.extract 0 nb++out.reverse):=by
 unfold Mgd
 rw [Qwj,Qwj,Qcv,Qcv,Qx0]
 refine Qtp h (List.Perm.refl _) ?_
 rcases e with rfl | rfl
 . rw [Qzn,Qld]
   exact hb.pw.sublist (Qxf _ _)
 . rw [Qzn,Qxv]
   exact ha.pw.sublist (Qxf _ _)
theorem MHi.last (h:MHi a b out na nb)(ha:Seg a 0 a.size)(hb:Seg b 0 b.size)(e:nb=1)(hl:∀j,j<a.size->K b 0<=K a j):Mgd a b (b.extract 0 nb++a.extract 0 na++out.reverse):=by
 unfold Mgd
 rw [Qwj,Qwj,Qcv,Qcv,Qx0]
 refine Qtp h Qwf ?_
 refine Qxz.mpr ⟨hb.pw.sublist (Qxf _ _),ha.pw.sublist (Qxf _ _),λx hx y hy=>?_⟩
 obtain ⟨i,i1,i2,e1⟩:=Qc8 hx
 obtain ⟨j,j1,j2,e2⟩:=Qc8 hy
 unfold LeK;rw [e1,e2,show i=0 by exact om508 ‹_› ‹_›];exact hl j j2
theorem MHi.first (ha:Seg a 0 a.size)(hb:Seg b 0 b.size)(h0:a.size-1<a.size)(h2:∀j,j<b.size->K b j<=K a (a.size-1)):MHi a b #[a[a.size-1]] (a.size-1) b.size:=by
 have q:MHi a b #[] a.size b.size:=⟨by simp [Qxs],by simp,by simp⟩
 have:=MHi.pushA q ha h0 (by exact om509 ‹_›) λj u_=>h2 j
 simpa using this
end
noncomputable def Qiq:Array Keyed->Array Keyed->StateT SortSt Sem (Array Keyed):=sortPriv% PySem.Builtin.mergeHi
section
variable {prog:Program} {w:World} {A:Around} {E:Value->Shared->Prop} {s:Shared} {a₀:Array Keyed}
abbrev HSt1:=Option (Array Keyed)×Nat×Nat×Array Keyed×Nat×Nat
abbrev HSt2:=Option (Array Keyed)×Nat×Nat×Array Keyed×Nat×Nat×Nat
abbrev HSt0:=Option (Array Keyed)×Nat×Nat×Array Keyed×Nat
structure HN (a b out:Array Keyed)(na nb m:Nat):Prop where
 hm:MHi a b out na nb
 ha:0<na
 ha2:na<=a.size
 hb:1<nb
 hb2:nb<=b.size
 hs:m<=out.size
noncomputable def HOk (a b:Array Keyed)(m:Nat)(r:Option (Array Keyed))(na nb:Nat)(out:Array Keyed):Prop :=
 (∃R,r=some R/\Mgd a b R)\/(r=none/\HN a b out na nb m)
noncomputable def Qs6 (a b:Array Keyed)(m:Nat)(st:SortSt)(r:ForInStep HSt2)(st':SortSt):Prop :=
 match r with
 | ForInStep.done c'=>GS st st'/\HOk a b m c'.fst c'.snd.fst c'.snd.snd.fst c'.snd.snd.snd.fst
 | ForInStep.yield c'=>GS st st'/\c'.fst=none/\HOk a b m c'.fst c'.snd.fst c'.snd.snd.fst c'.snd.snd.snd.fst
noncomputable def hiT3 (a b out:Array Keyed)(na nb g k k1:Nat):StateT SortSt Sem (ForInStep HSt2):=do
 let y <-elem' a (na-1)
 if (na-1 == 0)=true then
   pure (ForInStep.done ((some (a.extract 0 (na-1)++b.extract 0 nb++(out.push y).reverse),na-1,nb,out.push y,g,k,k1):HSt2))
 else if (decide (k<7) && decide (k1<7))=true then
   pure (ForInStep.done ((none,na-1,nb,out.push y,g,k,k1):HSt2))
 else pure (ForInStep.yield ((none,na-1,nb,out.push y,g,k,k1):HSt2))
noncomputable def hiT2 (a b out:Array Keyed)(na nb g k bc:Nat):StateT SortSt Sem (ForInStep HSt2):=do
 let y <-elem' b (nb-1)
 if (nb-1 == 1)=true then
   pure (ForInStep.done ((some (b.extract 0 (nb-1)++a.extract 0 na++(out.push y).reverse),na,nb-1,out.push y,g,k,bc):HSt2))
 else do
   let y1 <-elem' a (na-1)
   let z <-Qdo true y1 b 0 (nb-1) (nb-1-1)
   match z with
   | some at1 =>
     if nb-1-at1 > 0 then
       if (at1 == 1)=true then
         pure (ForInStep.done ((some (b.extract 0 at1++a.extract 0 na++(out.push y++(b.extract at1 (nb-1)).reverse).reverse),na,at1,out.push y++(b.extract at1 (nb-1)).reverse,g,k,nb-1-at1):HSt2))
       else if (at1 == 0)=true then
         pure (ForInStep.done ((some (a.extract 0 na++b.extract 0 at1++(out.push y++(b.extract at1 (nb-1)).reverse).reverse),na,at1,out.push y++(b.extract at1 (nb-1)).reverse,g,k,nb-1-at1):HSt2))
       else hiT3 a b (out.push y++(b.extract at1 (nb-1)).reverse) na at1 g k (nb-1-at1)
     else hiT3 a b (out.push y) na (nb-1) g k (nb-1-at1)
   | _=>pure (ForInStep.done ((some (a.extract 0 na++b.extract 0 (nb-1)++(out.push y).reverse),na,nb-1,out.push y,g,k,bc):HSt2))
noncomputable def hiT1 (a b out:Array Keyed)(na nb g ac bc:Nat):StateT SortSt Sem (ForInStep HSt2):=do
 let y <-elem' b (nb-1)
 let z <-Qdo false y a 0 na (na-1)
 match z with
 | some at1 =>
   if na-at1 > 0 then
     if (at1 == 0)=true then
       pure (ForInStep.done ((some (a.extract 0 at1++b.extract 0 nb++(out++(a.extract at1 na).reverse).reverse),at1,nb,out++(a.extract at1 na).reverse,g,na-at1,bc):HSt2))
     else hiT2 a b (out++(a.extract at1 na).reverse) at1 nb g (na-at1) bc
   else hiT2 a b out na nb g (na-at1) bc
 | _=>pure (ForInStep.done ((some (a.extract 0 na++b.extract 0 nb++out.reverse),na,nb,out,g,ac,bc):HSt2))
noncomputable def hiT4 (a b out:Array Keyed)(na nb g ac bc:Nat):StateT SortSt Sem (ForInStep HSt2) :=
 if g > 1 then do
   Qa3 (g-1)
   hiT1 a b out na nb (g-1) ac bc
 else do
   Qa3 g
   hiT1 a b out na nb g ac bc
noncomputable def hiT0 (a b out:Array Keyed)(na nb g ac bc:Nat):StateT SortSt Sem (ForInStep HSt1):=do
 let y <-elem' b (nb-1)
 let x <-elem' a (na-1)
 let z <-lt' y x
 match z with
 | some aWins =>
   if aWins=true then do
     let y <-elem' a (na-1)
     if (na-1 == 0)=true then
       pure (ForInStep.done ((some (a.extract 0 (na-1)++b.extract 0 nb++(out.push y).reverse),na-1,nb,out.push y,ac+1,0):HSt1))
     else if ac+1>=g then pure (ForInStep.done ((none,na-1,nb,out.push y,ac+1,0):HSt1))
     else pure (ForInStep.yield ((none,na-1,nb,out.push y,ac+1,0):HSt1))
   else do
     let y <-elem' b (nb-1)
     if (nb-1 == 1)=true then
       pure (ForInStep.done ((some (b.extract 0 (nb-1)++a.extract 0 na++(out.push y).reverse),na,nb-1,out.push y,0,bc+1):HSt1))
     else if bc+1>=g then pure (ForInStep.done ((none,na,nb-1,out.push y,0,bc+1):HSt1))
     else pure (ForInStep.yield ((none,na,nb-1,out.push y,0,bc+1):HSt1))
 | _=>pure (ForInStep.done ((some (a.extract 0 na++b.extract 0 nb++out.reverse),na,nb,out,ac,bc):HSt1))
noncomputable def hiB (t:HSt2):StateT SortSt Sem (ForInStep HSt0) :=
 match t.1 with
 | some r=>pure (ForInStep.done ((some r,t.2.1,t.2.2.1,t.2.2.2.1,t.2.2.2.2.1):HSt0))
 | none=>do
   Qa3 (t.2.2.2.2.1+1)
   pure (ForInStep.yield ((none,t.2.1,t.2.2.1,t.2.2.2.1,t.2.2.2.2.1+1):HSt0))
noncomputable def hiA (a b:Array Keyed)(g:Nat)(s:HSt1):StateT SortSt Sem (ForInStep HSt0) :=
 match s.1 with
 | some r=>pure (ForInStep.done ((some r,s.2.1,s.2.2.1,s.2.2.2.1,g):HSt0))
 | none=>do
   liftM (rule "list.sort.gallop")
   let t <-forIn [:a.size+b.size] ((none,s.2.1,s.2.2.1,s.2.2.2.1,g+1,s.2.2.2.2.1,s.2.2.2.2.2):HSt2) (λu_ t=>hiT4 a b t.2.2.2.1 t.2.1 t.2.2.1 t.2.2.2.2.1 t.2.2.2.2.2.1 t.2.2.2.2.2.2)
   hiB t
noncomputable def hiO (a b:Array Keyed)(c:HSt0):StateT SortSt Sem (ForInStep HSt0):=do
 let s <-forIn [:a.size+b.size] ((none,c.2.1,c.2.2.1,c.2.2.2.1,0,0):HSt1) (λu_ s=>hiT0 a b s.2.2.2.1 s.2.1 s.2.2.1 c.2.2.2.2 s.2.2.2.2.1 s.2.2.2.2.2)
 hiA a b c.2.2.2.2 s
noncomputable def hiZ (s:HSt0):StateT SortSt Sem (Array Keyed) :=
 match s.1 with
 | some r=>pure r
 | none=>unsupported "internal:list.sort.merge-bound"
noncomputable def hiL (a b:Array Keyed):StateT SortSt Sem (Array Keyed):=do
 rule "list.sort.merge-hi"
 let y <-elem' a (a.size-1)
 if (a.size-1 == 0)=true then pure (a.extract 0 (a.size-1)++b.extract 0 b.size ++ #[y].reverse)
 else if (b.size == 1)=true then pure (b.extract 0 b.size++a.extract 0 (a.size-1) ++ #[y].reverse)
 else do
   let st <-get
   let s <-forIn [:a.size+b.size] ((none,a.size-1,b.size,#[y],gallopOf st):HSt0) (λu_ c=>hiO a b c)
   hiZ s
theorem Qm7:Qiq=hiL:=by kernel_rfl
section
variable {st st':SortSt} {a b:Array Keyed} {m:Nat} {out:Array Keyed} {na nb g:Nat}
theorem hi_t3 {k k1:Nat}(hk:kindOf st=oneType')(hP:MP a b)(hfst:∀j,j<a.size->K b 0<=K a j)
   (hg:GS st st') (hm:MHi a b out na nb) (ha:0<na) (ha2:na<=a.size) (hb:1<nb) (hb2:nb<=b.size) (hs:m<=out.size) (h2:∀j,j<nb->j<b.size->K b j<=K a (na-1)) :
   wpS (model prog w) A E s (hiT3 a b out na nb g k k1) (Qs6 a b m st) st':=by
 unfold hiT3
 have ha':na-1<a.size:=by exact Quo ‹_› ‹_›
 refine wpS_bind (Qa1 ha' ?_)
 have hm':=hm.pushA hP.sa ha' ha h2
 have hs':m<=(out.push a[na-1]).size:=by simp;exact Qsb ‹_›
 by_cases e3:na-1=0
 . rw [if_pos (by simpa using e3)]
   exact wpS_pure ⟨hg,.inl ⟨_,rfl,hm'.done hP.sa hP.sb (.inl e3)⟩⟩
 rw [if_neg (by simpa using e3)]
 split
 . exact wpS_pure ⟨hg,.inr ⟨rfl,hm',by dsimp only;exact Qr7 ‹_› ‹_›,by dsimp only;exact Qjt ‹_›,hb,hb2,hs'⟩⟩
 . exact wpS_pure ⟨hg,rfl,.inr ⟨rfl,hm',by dsimp only;exact Qr7 ‹_› ‹_›,by dsimp only;exact Qjt ‹_›,hb,hb2,hs'⟩⟩
theorem hi_t2 {k bc:Nat}(hk:kindOf st=oneType')(hP:MP a b)(hfst:∀j,j<a.size->K b 0<=K a j)
   (hg:GS st st') (hm:MHi a b out na nb) (ha:0<na) (ha2:na<=a.size) (hb:1<nb) (hb2:nb<=b.size) (hs:m<=out.size) (h2:∀j,j<na->j<a.size->K a j<=K b (nb-1)) :
   wpS (model prog w) A E s (hiT2 a b out na nb g k bc) (Qs6 a b m st) st':=by
 unfold hiT2
 have ha':na-1<a.size:=by exact Quo ‹_› ‹_›
 have hb':nb-1<b.size:=by exact Qun ‹_› ‹_›
 refine wpS_bind (Qa1 hb' ?_)
 have hm':=hm.pushB hP.sb hb' (by exact om512 ‹_›) h2
 have hs':m<=(out.push b[nb-1]).size:=by simp;exact Qsb ‹_›
 by_cases e3:nb-1=1
 . rw [if_pos (by simpa using e3)]
   exact wpS_pure ⟨hg,.inl ⟨_,rfl,hm'.last hP.sa hP.sb e3 hfst⟩⟩
 rw [if_neg (by simpa using e3)]
 have hk':kindOf st'=oneType':=hg.kind.trans hk
 refine wpS_bind (Qa1 ha' (wpS_bind (Qdh hk' hP.ia hP.ib (by exact om516 ‹_›) (by exact om517 ‹_› ‹_› ‹_›) hP.sb λk1 hc=>?_)))
 dsimp only
 have c1:=hc.le
 have c2:∀i,i<k1->K b i<K a (na-1):=λi i1=>by
   have:=hc.lo i i1
   rw [Qxu] at this
   simpa [beyP] using this
 have c3:∀i,k1<=i->i<nb-1->K a (na-1)<=K b i:=λi i1 i2=>by
   have:=hc.hi i i1 i2
   rw [Qxu] at this
   simpa [beyP] using this
 by_cases hk0:nb-1-k1 > 0
 . rw [if_pos hk0]
   have hm2:=hm'.takeB hP.sb k1 (by exact om521 ‹_› ‹_›) (by exact Qjt ‹_›) λi j i1 i2 j1 j2=>Qwh (hP.sa j (na-1) (by exact om522 ‹_›) (by exact om524 ‹_› ‹_› ‹_› ‹_› ‹_› ‹_› ‹_›) (by exact om526 ‹_› ‹_›)) (c3 i i1 i2)
   have hs2:m<=(out.push b[nb-1]++(b.extract k1 (nb-1)).reverse).size:=by rw [Qzz];exact om528 ‹_› ‹_›
   by_cases e4:k1=1
   . rw [if_pos (by simpa using e4)]
     exact wpS_pure ⟨hg,.inl ⟨_,rfl,hm2.last hP.sa hP.sb e4 hfst⟩⟩
   rw [if_neg (by simpa using e4)]
   by_cases e5:k1=0
   . rw [if_pos (by simpa using e5)]
     exact wpS_pure ⟨hg,.inl ⟨_,rfl,hm2.done hP.sa hP.sb (.inr e5)⟩⟩
   rw [if_neg (by simpa using e5)]
   exact hi_t3 hk hP hfst hg hm2 ha ha2 (by exact om533 ‹_› ‹_› ‹_›) (by exact om534 ‹_› ‹_›) hs2 λj j1 j2=>Qw8 (c2 j j1)
 . rw [if_neg hk0]
   exact hi_t3 hk hP hfst hg hm' ha ha2 (by exact om535 ‹_› ‹_› ‹_› ‹_› ‹_›) (by exact Qjt ‹_›) hs' λj j1 j2=>Qw8 (c2 j (by exact om536 ‹_› ‹_› ‹_› ‹_› ‹_› ‹_›))
theorem Qo1 {ac bc:Nat}(hk:kindOf st=oneType')(hP:MP a b)(hfst:∀j,j<a.size->K b 0<=K a j)
   (hg:GS st st') (hm:MHi a b out na nb) (ha:0<na) (ha2:na<=a.size) (hb:1<nb) (hb2:nb<=b.size) (hs:m<=out.size) :
   wpS (model prog w) A E s (hiT1 a b out na nb g ac bc) (Qs6 a b m st) st':=by
 unfold hiT1
 have hb':nb-1<b.size:=by exact Qun ‹_› ‹_›
 have hk':kindOf st'=oneType':=hg.kind.trans hk
 refine wpS_bind (Qa1 hb' (wpS_bind (Qdh hk' hP.ib hP.ia (by exact om513 ‹_›) (by exact Qsa ‹_›) hP.sa λk1 hc=>?_)))
 dsimp only
 have c1:=hc.le
 have c2:∀i,i<k1->K a i<=K b (nb-1):=λi i1=>by
   have:=hc.lo i i1
   rw [Qxu] at this
   simpa [beyP] using this
 have c3:∀i,k1<=i->i<na->K b (nb-1)<=K a i:=λi i1 i2=>by
   have:=hc.hi i i1 i2
   rw [Qxu] at this
   have:K b (nb-1)<K a i:=by simpa [beyP] using this
   exact om482 ‹_›
 by_cases hk0:na-k1 > 0
 . rw [if_pos hk0]
   have hm2:=hm.takeA hP.sa k1 (by exact Quu ‹_›) (by exact Quu ‹_›) λi j i1 i2 j1 j2=>Qwh (hP.sb j (nb-1) (by exact Qdy) (by exact om518 ‹_› ‹_› ‹_›) (by exact Qum ‹_›)) (c3 i i1 i2)
   have hs2:m<=(out++(a.extract k1 na).reverse).size:=by rw [Qzz];exact om520 ‹_›
   by_cases e5:k1=0
   . rw [if_pos (by simpa using e5)]
     exact wpS_pure ⟨hg,.inl ⟨_,rfl,hm2.done hP.sa hP.sb (.inl e5)⟩⟩
   rw [if_neg (by simpa using e5)]
   exact hi_t2 hk hP hfst hg hm2 (by exact om525 ‹_›) (by exact om527 ‹_› ‹_›) hb hb2 hs2 λj j1 j2=>c2 j j1
 . rw [if_neg hk0]
   exact hi_t2 hk hP hfst hg hm ha ha2 hb hb2 hs λj j1 j2=>c2 j (by exact om529 ‹_› ‹_› ‹_›)
end
noncomputable def HPost1 (a b:Array Keyed)(m m':Nat)(st:SortSt)(r:ForInStep HSt1)(st':SortSt):Prop :=
 match r with
 | ForInStep.done c'=>GS st st'/\HOk a b m c'.fst c'.snd.fst c'.snd.snd.fst c'.snd.snd.snd.fst
 | ForInStep.yield c'=>GS st st'/\c'.fst=none/\HOk a b m' c'.fst c'.snd.fst c'.snd.snd.fst c'.snd.snd.snd.fst
noncomputable def Qre (a b:Array Keyed)(m:Nat)(st:SortSt)(r:ForInStep HSt0)(st':SortSt):Prop :=
 match r with
 | ForInStep.done c'=>GS st st'/\∃R,c'.fst=some R/\Mgd a b R
 | ForInStep.yield c'=>GS st st'/\c'.fst=none/\HOk a b m c'.fst c'.snd.fst c'.snd.snd.fst c'.snd.snd.snd.fst
section
variable {st st':SortSt} {a b:Array Keyed} {m x y:Nat} {out:Array Keyed} {na nb g:Nat}
theorem HOk.go {r:Option (Array Keyed)}(h:HOk a b m r na nb out)(e:r=none):HN a b out na nb m:=by
 rcases h with ⟨R,e',u_⟩ | ⟨u_,h⟩
 . rw [e] at e';cases e'
 . exact h
theorem hi_in {ac bc:Nat}(hk:kindOf st=oneType')(hP:MP a b)(hfst:∀j,j<a.size->K b 0<=K a j)(hg:GS st st')(hn:HN a b out na nb (x+1+y)) :
   wpS (model prog w) A E s (hiT0 a b out na nb g ac bc) (HPost1 a b (x+2) (x+1+(y+1)) st) st':=by
 have hm:=hn.hm
 have ha:=hn.ha
 have ha2:=hn.ha2
 have hb:=hn.hb
 have hb2:=hn.hb2
 have hs:=hn.hs
 have hk':kindOf st'=oneType':=hg.kind.trans hk
 have ha':na-1<a.size:=by exact Quo ‹_› ‹_›
 have hb':nb-1<b.size:=by exact Qun ‹_› ‹_›
 refine wpS_bind (Qa1 hb' (wpS_bind (Qa1 ha' (wpS_bind (Qn3 hk' hP.ib hP.ia ?_)))))
 dsimp only
 by_cases hw:K b (nb-1)<K a (na-1)
 . rw [decide_eq_true hw,if_pos rfl]
   refine wpS_bind (Qa1 ha' ?_)
   have hm':=hm.pushA hP.sa ha' ha λj h1 h2=>Qwh (hP.sb j (nb-1) (by exact Qdy) (by exact om537 ‹_› ‹_›) (by exact Qum ‹_›)) (Qw8 hw)
   have hs':x+1+(y+1)<=(out.push a[na-1]).size:=by simp;exact Qr8 ‹_›
   by_cases e3:na-1=0
   . rw [if_pos (by simpa using e3)]
     exact wpS_pure ⟨hg,.inl ⟨_,rfl,hm'.done hP.sa hP.sb (.inl e3)⟩⟩
   rw [if_neg (by simpa using e3)]
   by_cases e4:ac+1>=g
   . rw [if_pos e4]
     exact wpS_pure ⟨hg,.inr ⟨rfl,hm',by dsimp only;exact Qr7 ‹_› ‹_›,by dsimp only;exact Qjt ‹_›,hb,hb2,Qdg (Qw2 (Qx7 1 y) (x+1)) hs'⟩⟩
   . rw [if_neg e4]
     exact wpS_pure ⟨hg,rfl,.inr ⟨rfl,hm',by dsimp only;exact Qr7 ‹_› ‹_›,by dsimp only;exact Qjt ‹_›,hb,hb2,hs'⟩⟩
 . rw [decide_eq_false hw,if_neg (by simp)]
   refine wpS_bind (Qa1 hb' ?_)
   have hm':=hm.pushB hP.sb hb' (by exact om512 ‹_›) λj h1 h2=>Qwh (hP.sa j (na-1) (by exact Qdy) (by exact om539 ‹_› ‹_› ‹_›) (by exact Qum ‹_›)) (Qyq.mp hw)
   have hs':x+1+(y+1)<=(out.push b[nb-1]).size:=by simp;exact Qr8 ‹_›
   by_cases e3:nb-1=1
   . rw [if_pos (by simpa using e3)]
     exact wpS_pure ⟨hg,.inl ⟨_,rfl,hm'.last hP.sa hP.sb e3 hfst⟩⟩
   rw [if_neg (by simpa using e3)]
   by_cases e4:bc+1>=g
   . rw [if_pos e4]
     exact wpS_pure ⟨hg,.inr ⟨rfl,hm',ha,ha2,by dsimp only;exact om540 ‹_› ‹_› ‹_›,by dsimp only;exact Qjt ‹_›,Qdg (Qw2 (Qx7 1 y) (x+1)) hs'⟩⟩
   . rw [if_neg e4]
     exact wpS_pure ⟨hg,rfl,.inr ⟨rfl,hm',ha,ha2,by dsimp only;exact om540 ‹_› ‹_› ‹_›,by dsimp only;exact Qjt ‹_›,hs'⟩⟩
theorem hi_t4 {ac bc:Nat}(hk:kindOf st=oneType')(hP:MP a b)(hfst:∀j,j<a.size->K b 0<=K a j)(hg:GS st st')(h:HN a b out na nb m) :
   wpS (model prog w) A E s (hiT4 a b out na nb g ac bc) (Qs6 a b m st) st':=by
 unfold hiT4
 split
 . exact wpS_bind (Qed (Qo1 hk hP hfst (hg.set _) h.hm h.ha h.ha2 h.hb h.hb2 h.hs))
 . exact wpS_bind (Qed (Qo1 hk hP hfst (hg.set _) h.hm h.ha h.ha2 h.hb h.hb2 h.hs))
theorem hi_b {t:HSt2}(hg:GS st st')(hc:HOk a b m t.1 t.2.1 t.2.2.1 t.2.2.2.1):wpS (model prog w) A E s (hiB t) (Qre a b m st) st':=by
 obtain ⟨r,na,nb,out,g,ac,bc⟩:=t
 rcases hc with ⟨R,rfl,hR⟩ | ⟨rfl,hc⟩
 . exact wpS_pure ⟨hg,R,rfl,hR⟩
 . exact wpS_bind (Qed (wpS_pure ⟨hg.set _,rfl,.inr ⟨rfl,hc⟩⟩))
theorem hi_a {t:HSt1}(hk:kindOf st=oneType')(hP:MP a b)(hfst:∀j,j<a.size->K b 0<=K a j)(hg:GS st st')(hc:HOk a b m t.1 t.2.1 t.2.2.1 t.2.2.2.1) :
   wpS (model prog w) A E s (hiA a b g t) (Qre a b m st) st':=by
 obtain ⟨r,na,nb,out,ac,bc⟩:=t
 rcases hc with ⟨R,rfl,hR⟩ | ⟨rfl,hc⟩
 . exact wpS_pure ⟨hg,R,rfl,hR⟩
 refine wpS_bind (wpS_lift (wpAny_rule ⟨rfl,?_⟩))
 exact wpS_bind (wpS_mono (wpS_forRange (I:=λy (c:HSt2) st'=>GS st st'/\c.1=none/\HOk a b m c.1 c.2.1 c.2.2.1 c.2.2.2.1)
   (Q:=λc st'=>GS st st'/\HOk a b m c.1 c.2.1 c.2.2.1 c.2.2.2.1) (λy c st' u_ u_ hI=>wpS_mono (hi_t4 hk hP hfst hI.1 (hI.2.2.go hI.2.1)) λr st'' hh=>by cases r <;> exact hh)
   (λc st' hI=>⟨hI.1,hI.2.2⟩) ⟨hg,rfl,.inr ⟨rfl,hc⟩⟩) λt st' hI=>hi_b hI.1 hI.2)
theorem hi_o {c:HSt0}(hk:kindOf st=oneType')(hP:MP a b)(hfst:∀j,j<a.size->K b 0<=K a j)(hx:x<a.size+b.size)(hg:GS st st')(hc:HN a b c.2.2.2.1 c.2.1 c.2.2.1 (x+1)) :
   wpS (model prog w) A E s (hiO a b c) (Qre a b (x+2) st) st':=by
 refine wpS_bind (wpS_mono (wpS_forRange (I:=λy (c:HSt1) st'=>GS st st'/\c.1=none/\HOk a b (x+1+y) c.1 c.2.1 c.2.2.1 c.2.2.2.1)
     (Q:=λc st'=>GS st st'/\HOk a b (x+2) c.1 c.2.1 c.2.2.1 c.2.2.2.1) (λy c st' u_ u_ hI=>wpS_mono (hi_in hk hP hfst hI.1 (hI.2.2.go hI.2.1)) λr st'' hh=>by cases r <;> exact hh)
     (λc st' hI=>⟨hI.1,?_⟩) ⟨hg,rfl,.inr ⟨rfl,hc⟩⟩) λt st' hI=>hi_a hk hP hfst hI.1 hI.2)
 have hn:=hI.2.2.go hI.2.1
 refine .inr ⟨hI.2.1,hn.hm,hn.ha,hn.ha2,hn.hb,hn.hb2,?_⟩
 have:=hn.hs
 omega
end
theorem Qks {st:SortSt}{a b:Array Keyed}{Q:Array Keyed->SortSt->Prop}(hk:kindOf st=oneType')(hP:MP a b)(h:∀out st',GS st st'->Mgd a b out->Q out st'):wpS (model prog w) A E s (Qiq a b) Q st:=by
 have hfst:∀j,j<a.size->K b 0<=K a j:=λj hj=>Qwh (Qw8 hP.fst) (hP.sa 0 j (by exact om484) (by exact Qdy) hj)
 have hn:=hP.na
 have hn':=hP.nb
 have h0:a.size-1<a.size:=by exact Qsa ‹_›
 rw [Qm7]
 refine wpS_bind (wpS_lift (wpAny_rule ⟨rfl,?_⟩))
 refine wpS_bind (Qa1 h0 ?_)
 have hfirst:=MHi.first hP.sa hP.sb h0 λj hj=>Qwh (hP.sb j (b.size-1) (by exact Qdy) (by exact om523 ‹_› ‹_›) (by exact Qsa ‹_›)) (Qw8 hP.lst)
 by_cases e1:a.size-1=0
 . rw [if_pos (by simpa using e1)]
   exact wpS_pure (h _ _ (.refl _) (hfirst.done hP.sa hP.sb (.inl e1)))
 rw [if_neg (by simpa using e1)]
 by_cases e2:b.size=1
 . rw [if_pos (by simpa using e2)]
   exact wpS_pure (h _ _ (.refl _) (hfirst.last hP.sa hP.sb e2 hfst))
 rw [if_neg (by simpa using e2)]
 refine wpS_bind (wpS_get ?_)
 refine wpS_bind (wpS_mono (wpS_forRange (I:=λx (c:HSt0) st'=>GS st st'/\c.1=none/\HOk a b (x+1) c.1 c.2.1 c.2.2.1 c.2.2.2.1)
   (Q:=λc st'=>GS st st'/\∃R,c.1=some R/\Mgd a b R) (λx c st' u_ hx hI=>wpS_mono (hi_o hk hP hfst hx hI.1 (hI.2.2.go hI.2.1)) λr st'' hh=>by cases r <;> exact hh) ?fin ⟨.refl _,rfl,.inr ⟨rfl,hfirst,by dsimp only;exact om530 ‹_› ‹_› ‹_›,by dsimp only;exact om531 ‹_›,by dsimp only;exact om532 ‹_› ‹_›,by dsimp only;exact om379,by simp⟩⟩) ?post)
 case post =>
   rintro ⟨r,c⟩ st' ⟨hg,R,rfl,hR⟩
   exact wpS_pure (h _ _ hg hR)
 case fin =>
   intro c st' hI
   exfalso
   have hn:=hI.2.2.go hI.2.1
   have this:=hn.hm.len
   have hs:=hn.hs
   simp at this
   exact (om500 ‹_› ‹_›).elim
end
end Mine
namespace Mine
open PySem PyProof.Rows
noncomputable def Qdk (sa:Nat)(l:List Keyed)(xs:Array Keyed):Array Keyed:=l.zipIdx.foldl (λa (p,j)=>a.setIfInBounds (sa+j) p) xs
theorem Qh3 (sa:Nat):∀(l:List Keyed) (n:Nat) (xs:Array Keyed) (k:Nat),((l.zipIdx n).foldl (λa (p:Keyed×Nat)=>a.setIfInBounds (sa+p.2) p.1) xs)[k]? = if sa+n<=k/\k<sa+n+l.length/\k<xs.size then l[k-(sa+n)]? else xs[k]?
 | [],n,xs,k=>by
   rw [if_neg (by simp only [List.length_nil];exact om541)];rfl
 | p::l,n,xs,k=>by
   rw [Qz7,List.foldl_cons,Qh3 sa l (n+1)]
   simp only [Array.size_setIfInBounds,Qwo]
   by_cases h1:sa+(n+1)<=k/\k<sa+(n+1)+l.length/\k<xs.size
   . rw [if_pos h1,if_pos (by exact om546 ‹_›)]
     rw [show k-(sa+n)=(k-(sa+(n+1)))+1 by exact om551 ‹_›,List.getElem?_cons_succ]
   . rw [if_neg h1,Array.getElem?_setIfInBounds]
     by_cases h2:sa+n=k
     . rw [if_pos h2]
       by_cases h3:k<xs.size
       . rw [if_pos (by exact om555 ‹_› ‹_›),if_pos (by exact om557 ‹_› ‹_›),show k-(sa+n)=0 by exact om559 ‹_›];rfl
       . rw [if_neg (by exact om560 ‹_› ‹_›),if_neg (by exact om561 ‹_›),getElem?_neg xs k h3]
     . rw [if_neg h2,if_neg (by exact om563 ‹_› ‹_›)]
theorem Qgy (sa:Nat)(l:List Keyed)(xs:Array Keyed)(h:sa+l.length<=xs.size)(k:Nat):(Qdk sa l xs)[k]? = if sa<=k/\k<sa+l.length then l[k-sa]? else xs[k]?:=by
 have:=Qh3 sa l 0 xs k
 simp only [Nat.add_zero] at this
 refine Eq.trans this ?_
 by_cases h1:sa<=k/\k<sa+l.length
 . rw [if_pos h1,if_pos (by exact om542 ‹_› ‹_›)]
 . rw [if_neg h1,if_neg (by exact om543 ‹_›)]
theorem Qjq (sa:Nat)(l:List Keyed)(xs:Array Keyed)(h:sa+l.length<=xs.size):(Qdk sa l xs).toList=xs.toList.take sa++(l++xs.toList.drop (sa+l.length)):=by
 apply Qxm
 intro k
 rw [Qpy,Qgy sa l xs h]
 have hl:(xs.toList.take sa).length=sa:=by simp;exact om544 ‹_›
 by_cases h1:k<sa
 . rw [if_neg (by exact om545 ‹_› ‹_›),Qhn (by exact om283 ‹_› ‹_›),List.getElem?_take,if_pos h1,Qpy]
 . rw [Qlv (by exact om549 ‹_› ‹_›),hl]
   by_cases h2:k<sa+l.length
   . rw [if_pos (by exact om552 ‹_› ‹_› ‹_›),Qhn (by exact om553 ‹_› ‹_› ‹_›)]
   . rw [if_neg (by exact om554 ‹_› ‹_›),Qlv (by exact om556 ‹_› ‹_› ‹_›),List.getElem?_drop,show sa+l.length+(k-sa-l.length)=k by exact om558 ‹_› ‹_›,Qpy]
theorem Qjp (sa hi:Nat)(l:List Keyed)(xs:Array Keyed)(h:sa<=hi)(h2:hi<=xs.size)(hp:l.Perm ((xs.toList.take hi).drop sa)):(Qdk sa l xs).Perm xs:=by
 have hl:l.length=hi-sa:=by rw [hp.length_eq,Qz8,Qww,Qw3,Qw1 h2]
 rw [Qyu,Qjq sa l xs (by exact om548 ‹_› ‹_› ‹_›),show sa+l.length=hi by exact om550 ‹_› ‹_›]
 have:xs.toList=xs.toList.take sa++((xs.toList.take hi).drop sa++xs.toList.drop hi):=by
   have e:xs.toList.take sa=(xs.toList.take hi).take sa:=by rw [Qzm,Qw1 h]
   rw [<-Qwr,e,Qwl,Qwl]
 conv=>rhs;rw [this]
 exact List.Perm.append_left _ (List.Perm.append_right _ hp)
theorem Qp0 (sa:Nat)(m:Array Keyed)(xs:Array Keyed)(h:sa+m.size<=xs.size)(k:Nat):K (Qdk sa m.toList xs) k=if sa<=k/\k<sa+m.size then K m (k-sa) else K xs k:=by
 unfold K
 rw [Qgy sa m.toList xs (by simpa using h)]
 simp only [Qw3,Qpy]
 by_cases hh:sa<=k/\k<sa+m.size
 . rw [if_pos hh,if_pos hh]
 . rw [if_neg hh,if_neg hh]
theorem Qk5 (i:Nat):mergeAt' i=(do
 let s <-get
 let (some (sa,na,power),some (sb,nb,_)):=((pendingOf s)[i]?,(pendingOf s)[i+1]?) | unsupported "internal:list.sort.pending"
 set (setPending s (((pendingOf s).setIfInBounds i (sa,na+nb,power)).eraseIdxIfInBounds (i+1)))
 let some k <-Qdo false (<-elem' (arrOf s) sb) (arrOf s) sa na 0 | return false
 let (sa,na):=(sa+k,na-k)
 if na == 0 then return true
 let some nb <-Qdo true (<-elem' (arrOf s) (sa+na-1)) (arrOf s) sb nb (nb-1) | return false
 if nb == 0 then return true
 let x:=(arrOf s).extract sa sb
 let y:=(arrOf s).extract sb (sb+nb)
 let merged <-if na<=nb then Qip x y else Qiq x y
 modify λs=>setArr s (Qdk sa merged.toList (arrOf s))
 return (failedOf (<-get)).isNone):=rfl
section
variable {prog:Program} {w:World} {A:Around} {E:Value->Shared->Prop} {s:Shared} {a₀:Array Keyed}
theorem Qt2 {st st':SortSt}{Q:PUnit->SortSt->Prop}(h:Q ⟨⟩ st'):wpS (model prog w) A E s (set st':StateT SortSt Sem PUnit) Q st:=by
 unfold wpS;rw [StateT.run_set];exact wpAny_pure ⟨rfl,h⟩
theorem Qcc {xs:Array Keyed}{i j k:Nat}(h:i+k<j)(hj:j<=xs.size):K (xs.extract i j) k=K xs (i+k):=by
 unfold K;rw [Qy9,if_pos (by exact om562 ‹_› ‹_›)]
theorem IntAt.extract {xs:Array Keyed}{i j k:Nat}(h:i+k<j)(hj:j<=xs.size)(hI:IntAt xs (i+k)):IntAt (xs.extract i j) k:=by
 unfold IntAt;rw [Qy9,if_pos (by exact om562 ‹_› ‹_›)];exact hI
structure Mgs (a₀:Array Keyed)(lo hi:Nat)(st st':SortSt):Prop where
 sb:SB a₀ st'
 out:∀k,k<lo\/hi<=k->K (arrOf st') k=K (arrOf st) k
 seg:Seg (arrOf st') lo hi
theorem Qkt {st:SortSt}{i sa na p sb nb p':Nat}{Q:Bool->SortSt->Prop}(h0:IntKeys a₀)(hB:SB a₀ st)(e1:(pendingOf st)[i]? = some (sa,na,p))(e2:(pendingOf st)[i+1]? = some (sb,nb,p'))
   (hab:sa+na=sb) (hn:sb+nb<=a₀.size) (hna:1<=na) (hnb:1<=nb) (s1:Seg (arrOf st) sa sb) (s2:Seg (arrOf st) sb (sb+nb))
   (h:∀st',pendingOf st'=((pendingOf st).setIfInBounds i (sa,na+nb,p)).eraseIdxIfInBounds (i+1)->Mgs a₀ sa (sb+nb) st st'->Q true st'):wpS (model prog w) A E s (mergeAt' i) Q st:=by
 subst hab
 have hz:=hB.size
 have hat:∀{j:Nat},j<(arrOf st).size->IntAt (arrOf st) j:=λhj=>IntKeys.at' (hB.ints h0) hj
 rw [Qk5]
 refine wpS_bind (wpS_get ?_)
 rw [e1,e2]
 dsimp only
 refine wpS_bind (Qt2 ?_)
 have b0:sa+na<(arrOf st).size:=by exact om564 ‹_› ‹_› ‹_›
 refine wpS_bind (Qa1 b0 ?_)
 refine smG λH_ k_=>?_
 obtain ⟨n0,t0,q0,g1,g2,g3⟩:=Qpm (λi hi=>hat hi) b0
 refine k_ ?_
 clear k_ H_
 rw [g3]
 refine wpS_bind (Qfq (show kindOf _=_ from hB.kind) (λj hj=>hat (by exact om565 ‹_› ‹_›)) (by exact Qu1 ‹_›) s1 λk hc=>?_)
 rw [<-g2] at hc
 have c1:=hc.le
 have c2:∀j,sa<=j->j<sa+k->K (arrOf st) j<=K (arrOf st) (sa+na):=λj j1 j2=>by
   have:=hc.lo (j-sa) (by exact Qut ‹_› ‹_›)
   rw [show sa+(j-sa)=j by exact om75 ‹_›] at this
   simpa [beyP] using this
 have c3:∀j,sa+k<=j->j<sa+na->K (arrOf st) (sa+na)<K (arrOf st) j:=λj j1 j2=>by
   have:=hc.hi (j-sa) (by exact Qus ‹_›) (by exact om408 ‹_› ‹_›)
   rw [show sa+(j-sa)=j by exact Qur ‹_›] at this
   simpa [beyP] using this
 dsimp only
 by_cases hk:na-k=0
 . rw [if_pos (by simpa using hk)]
   refine wpS_pure (h _ rfl ⟨⟨hB.perm,hB.kind,hB.failed⟩,λu_ u_=>rfl,λi j i1 i2 i3=>?_⟩)
   show K (arrOf st) i<=K (arrOf st) j
   by_cases hj:j<sa+na
   . exact s1 i j i1 i2 hj
   . by_cases hi:sa+na<=i
     . exact s2 i j hi i2 i3
     . exact Qwh (c2 i i1 (by exact om566 ‹_› ‹_› ‹_›)) (s2 _ j (by exact om567) (by exact Qul ‹_›) i3)
 rw [if_neg (by simpa using hk)]
 have b1:sa+k+(na-k)-1<(arrOf st).size:=by exact om569 ‹_› ‹_› ‹_›
 refine wpS_bind (Qa1 b1 ?_)
 refine smG λH_ k_=>?_
 obtain ⟨n1,t1,q1,f1,f2,f3⟩:=Qpm (λi hi=>hat hi) b1
 refine k_ ?_
 clear k_ H_
 rw [f3]
 refine wpS_bind (Qfq (show kindOf _=_ from hB.kind) (λj hj=>hat (by exact om570 ‹_› ‹_› ‹_›)) (by exact om571 ‹_›) s2 λm hd=>?_)
 rw [<-f2,show sa+k+(na-k)-1=sa+na-1 by exact om572 ‹_› ‹_›] at hd
 have d1:=hd.le
 have d2:∀j,sa+na<=j->j<sa+na+m->K (arrOf st) j<K (arrOf st) (sa+na-1):=λj j1 j2=>by
   have:=hd.lo (j-(sa+na)) (by exact om573 ‹_› ‹_›)
   rw [show sa+na+(j-(sa+na))=j by exact om574 ‹_›] at this
   simpa [beyP] using this
 have d3:∀j,sa+na+m<=j->j<sa+na+nb->K (arrOf st) (sa+na-1)<=K (arrOf st) j:=λj j1 j2=>by
   have:=hd.hi (j-(sa+na)) (by exact om575 ‹_›) (by exact om576 ‹_› ‹_›)
   rw [show sa+na+(j-(sa+na))=j by exact om577 ‹_›] at this
   simpa [beyP] using this
 dsimp only
 by_cases hm:m=0
 . exfalso
   exact absurd (c3 (sa+na-1) (by exact om580 ‹_› ‹_› ‹_›) (by exact om581 ‹_›)) (Qyq.mpr (d3 (sa+na) (by exact om578 ‹_›) (by exact om579 ‹_›)))
 rw [if_neg (by simpa using hm)]
 have P:MP ((arrOf st).extract (sa+k) (sa+na)) ((arrOf st).extract (sa+na) (sa+na+m)):=by
   have z1:((arrOf st).extract (sa+k) (sa+na)).size=na-k:=by rw [Qzv,Qw1 (Qxb b0),Qzj]
   have z2:((arrOf st).extract (sa+na) (sa+na+m)).size=m:=by rw [Qzv,Qw1 (show sa+na+m<=_ from hz ▸ Qdg (Qw2 d1 _) hn),Qxl]
   refine ⟨λj hj=>?_,λj hj=>?_,λi j i1 i2 i3=>?_,λi j i1 i2 i3=>?_,by rw [z1];exact Qyx hk,by rw [z2];exact Qyx hm,?_,?_⟩
   . exact .extract (by exact Quk ‹_› ‹_› ‹_›) (by exact Qop ‹_›) (hat (by exact om589 ‹_› ‹_› ‹_› ‹_› ‹_› ‹_› ‹_›))
   . exact .extract (by exact om590 ‹_› ‹_›) (by exact Qoo ‹_› ‹_› ‹_› ‹_›) (hat (by exact om592 ‹_› ‹_› ‹_› ‹_› ‹_›))
   . rw [Qcc (by exact om593 ‹_› ‹_› ‹_› ‹_›) (by exact Qop ‹_›),Qcc (by exact Quk ‹_› ‹_› ‹_›) (by exact Qop ‹_›)];exact s1 _ _ (by exact om594 ‹_›) (by exact om595 ‹_›) (by exact Quk ‹_› ‹_› ‹_›)
   . rw [Qcc (by exact om596 ‹_› ‹_› ‹_›) (by exact Qoo ‹_› ‹_› ‹_› ‹_›),Qcc (by exact om590 ‹_› ‹_›) (by exact Qoo ‹_› ‹_› ‹_› ‹_›)];exact s2 _ _ (by exact om597 ‹_›) (by exact om595 ‹_›) (by exact om598 ‹_› ‹_› ‹_›)
   . rw [Qcc (by exact om599 ‹_› ‹_› ‹_›) (by exact Qoo ‹_› ‹_› ‹_› ‹_›),Qcc (by exact om600 ‹_› ‹_› ‹_› ‹_› ‹_›) (by exact Qop ‹_›)];exact c3 _ (by exact om601) (by exact om600 ‹_› ‹_› ‹_› ‹_› ‹_›)
   . rw [z1,z2,Qcc (by exact om602 ‹_› ‹_› ‹_›) (by exact Qoo ‹_› ‹_› ‹_› ‹_›),Qcc (by exact om603 ‹_› ‹_› ‹_› ‹_› ‹_›) (by exact Qop ‹_›),show sa+k+(na-k-1)=sa+na-1 by exact om604 ‹_› ‹_› ‹_› ‹_› ‹_›];exact d2 _ (by exact om605) (by exact om602 ‹_› ‹_› ‹_›)
 have fin:∀(out:Array Keyed) (st':SortSt),GS (setPending st (((pendingOf st).setIfInBounds i (sa,na+nb,p)).eraseIdxIfInBounds (i+1))) st'->Mgd ((arrOf st).extract (sa+k) (sa+na)) ((arrOf st).extract (sa+na) (sa+na+m)) out ->
     wpS (model prog w) A E s (do
       modify λs=>setArr s (Qdk (sa+k) out.toList (arrOf s))
       let y <-get
       pure (failedOf y).isNone) Q st':=by
   rintro out st' ⟨g,rfl⟩ ⟨hp,hs⟩
   refine wpS_bind (wpS_modify (wpS_bind (wpS_get (wpS_pure ?_))))
   show Q (failedOf st).isNone _
   rw [hB.failed]
   have hp':out.toList.Perm (((arrOf st).toList.take (sa+na+m)).drop (sa+k)):=by
     refine hp.trans ?_
     rw [Qa5,Qa5]
     have e:(arrOf st).toList.take (sa+na)=((arrOf st).toList.take (sa+na+m)).take (sa+na):=by rw [Qzm,Qw1 (by exact om606)]
     rw [e]
     generalize (arrOf st).toList.take (sa+na+m)=l
     rw [Qzl]
     have:l.drop (sa+na)=(l.drop (sa+k)).drop (sa+na-(sa+k)):=by rw [Qyd];congr 1;exact om607 ‹_›
     rw [this,Qwl]
   have hz':out.size=na+m-k:=by
     have:=hp'.length_eq
     rw [Qz8,Qww,Qw3,Qw3,Qw1 (show sa+na+m<=_ from hz ▸ Qdg (Qw2 d1 _) hn),Qyo,Qzj] at this
     exact this
   have hK:=Qp0 (sa+k) out (arrOf st) (by exact om609 ‹_› ‹_› ‹_› ‹_› ‹_›)
   have hM:∀j,j<out.size->∃t,sa+k<=t/\t<sa+na+m/\K out j=K (arrOf st) t:=λj hj=>by
     have hj':j<out.toList.length:=by simpa using hj
     refine smG λH_ k_=>?_
     obtain ⟨t,t1,t2,t3,e⟩:=Qd0 (hp'.mem_iff.mp (Qwp hj'))
     refine k_ ?_
     clear k_ H_
     exact ⟨t,t1,t2,by rw [<-e,Qjw]⟩
   have hS:=Seg.of_pw hs
   refine h _ rfl ⟨⟨?_,hB.kind,hB.failed⟩,λt ht=>?_,λi j i1 i2 i3=>?_⟩
   . exact (Qjp (sa+k) (sa+na+m) _ _ (by exact om610 ‹_›) (by exact om611 ‹_› ‹_› ‹_›) hp').trans hB.perm
   . show K (Qdk (sa+k) out.toList (arrOf st)) t=K (arrOf st) t
     rw [hK,if_neg (by exact om612 ‹_› ‹_› ‹_›)]
   . show K (Qdk (sa+k) out.toList (arrOf st)) i<=K (Qdk (sa+k) out.toList (arrOf st)) j
     rw [hK,hK]
     have low:∀x y,sa<=x->x<sa+k->x<=y->y<sa+na+nb->K (arrOf st) x<=K (arrOf st) y:=λx y x1 x2 x3 x4=>by
       by_cases hy:y<sa+na
       . exact s1 x y x1 x3 hy
       . exact Qwh (c2 x x1 x2) (s2 _ y (by exact om567) (by exact Qul ‹_›) x4)
     have high:∀x y,sa<=x->x<=y->sa+na+m<=y->y<sa+na+nb->K (arrOf st) x<=K (arrOf st) y:=λx y x1 x2 x3 x4=>by
       by_cases hy:x<sa+na
       . exact Qwh (s1 x (sa+na-1) x1 (by exact om357 ‹_›) (by exact om613 ‹_›)) (d3 y x3 x4)
       . exact s2 x y (by exact Qul ‹_›) x2 x4
     by_cases hi:sa+k<=i/\i<sa+k+out.size
     . rw [if_pos hi]
       by_cases hj:sa+k<=j/\j<sa+k+out.size
       . rw [if_pos hj];exact hS _ _ (by exact om614) (by exact om615 ‹_› ‹_› ‹_›) (by exact Quj ‹_› ‹_›)
       . rw [if_neg hj]
         refine smG λH_ k_=>?_
         obtain ⟨t,t1,t2,e⟩:=hM (i-(sa+k)) (by exact Quj ‹_› ‹_›)
         refine k_ ?_
         clear k_ H_
         rw [e];exact high t j (by exact om76 ‹_›) (by exact om617 ‹_› ‹_› ‹_› ‹_› ‹_›) (by exact om618 ‹_› ‹_› ‹_› ‹_›) i3
     . rw [if_neg hi]
       by_cases hj:sa+k<=j/\j<sa+k+out.size
       . rw [if_pos hj]
         refine smG λH_ k_=>?_
         obtain ⟨t,t1,t2,e⟩:=hM (j-(sa+k)) (by exact Quj ‹_› ‹_›)
         refine k_ ?_
         clear k_ H_
         rw [e];exact low i t i1 (by exact om619 ‹_› ‹_› ‹_› ‹_›) (by exact om620 ‹_› ‹_› ‹_› ‹_› ‹_›) (by exact om621 ‹_› ‹_›)
       . rw [if_neg hj]
         by_cases hx:i<sa+k
         . exact low i j i1 hx i2 i3
         . exact high i j i1 i2 (by exact om622 ‹_› ‹_› ‹_› ‹_› ‹_›) i3
 by_cases hle:na-k<=m
 . rw [if_pos hle]
   exact wpS_bind (Qkr (show kindOf _=_ from hB.kind) P fin)
 . rw [if_neg hle]
   exact wpS_bind (Qks (show kindOf _=_ from hB.kind) P fin)
end
end Mine
namespace Mine
open PySem PyProof.Rows
noncomputable def Runs (xs:Array Keyed):Nat->List (Nat×Nat×Nat)->Nat->Prop
 | a,[],b=>a=b
 | a,(c,len,_)::rest,b=>c=a/\1<=len/\Seg xs a (a+len)/\Runs xs (a+len) rest b
theorem Runs.le {xs:Array Keyed}:∀{l:List (Nat×Nat×Nat)} {a b:Nat},Runs xs a l b->a+l.length<=b
 | [],a,b,h=>Qxq h
 | (c,len,p)::rest,a,b,⟨h1,h2,h3,h4⟩=>by
   have:=Runs.le h4
   simp only [Qwo];exact om623 ‹_› ‹_›
theorem Runs.congr {xs ys:Array Keyed}:∀{l:List (Nat×Nat×Nat)} {a b:Nat},Runs xs a l b->(∀k,a<=k->k<b->K ys k=K xs k)->Runs ys a l b
 | [],a,b,h,_=>h
 | (c,len,p)::rest,a,b,⟨h1,h2,h3,h4⟩,e=>by
   have:=Runs.le h4
   exact ⟨h1,h2,h3.congr λk k1 k2=>e k k1 (by exact om624 ‹_› ‹_›),h4.congr λk k1 k2=>e k (by exact om625 ‹_› ‹_›) k2⟩
theorem Runs.append {xs:Array Keyed}{r:List (Nat×Nat×Nat)}:∀{l:List (Nat×Nat×Nat)} {a b:Nat},Runs xs a (l++r) b↔∃c,Runs xs a l c/\Runs xs c r b
 | [],a,b=>⟨λh=>⟨a,rfl,h⟩,λ⟨c,h1,h2⟩=>by cases h1;exact h2⟩
 | (c,len,p)::rest,a,b=>by
   refine ⟨λ⟨h1,h2,h3,h4⟩=>?_,λ⟨d,⟨h1,h2,h3,h4⟩,h5⟩=>⟨h1,h2,h3,Runs.append.mpr ⟨d,h4,h5⟩⟩⟩
   obtain ⟨d,g1,g2⟩:=Runs.append.mp h4
   exact ⟨d,⟨h1,h2,h3,g1⟩,g2⟩
theorem Runs.powers {xs:Array Keyed}:∀{l l':List (Nat×Nat×Nat)} {a b:Nat},Runs xs a l b->l'.map (λr=>(r.1,r.2.1))=l.map (λr=>(r.1,r.2.1))->Runs xs a l' b
 | [],[],a,b,h,_=>h
 | [],_::_,a,b,h,e=>by simp at e
 | _::_,[],a,b,h,e=>by simp at e
 | (c,len,p)::l,(c',len',p')::l',a,b,⟨h1,h2,h3,h4⟩,e=>by
   simp only [Qwk,List.cons.injEq,Prod.mk.injEq] at e
   obtain ⟨⟨rfl,rfl⟩,e⟩:=e
   exact ⟨h1,h2,h3,h4.powers e⟩
theorem two_at {α:Type}{l:List α}{i:Nat}(h:i+1<l.length):∃l1 x y l2,l=l1++x::y::l2/\l1.length=i/\l[i]? = some x/\l[i+1]? = some y:=by
 refine ⟨l.take i,l[i],l[i+1],l.drop (i+2),?_,?_,getElem?_pos l i _,getElem?_pos l (i+1) _⟩
 . rw [<-Qwn,<-Qwn,Qwl]
 . simp;exact om628 ‹_›
theorem Qjo {α:Type}(v x y:α)(l2:List α):∀(l1:List α),((l1++x::y::l2).set l1.length v).eraseIdx (l1.length+1)=l1++v::l2
 | []=>rfl
 | z::l1=>by
   show z::(((l1++x::y::l2).set l1.length v).eraseIdx (l1.length+1))=_
   rw [Qjo v x y l2 l1];rfl
theorem Qir (f:Nat×Nat×Nat->Nat×Nat×Nat)(hf:∀r,((f r).1,(f r).2.1)=(r.1,r.2.1))(l:List (Nat×Nat×Nat))(i:Nat):(l.modify i f).map (λr=>(r.1,r.2.1))=l.map (λr=>(r.1,r.2.1)):=by
 apply Qxm
 intro k
 rw [Qaa,Qaa,List.getElem?_modify]
 cases l[k]? with
 | none=>rfl
 | some r=>by_cases h:i=k <;> simp [h,hf]
section
variable {prog:Program} {w:World} {A:Around} {E:Value->Shared->Prop} {s:Shared} {a₀:Array Keyed}
theorem Qh1 {st:SortSt}{i lo:Nat}{Q:Bool->SortSt->Prop}(h0:IntKeys a₀)(hB:SB a₀ st)(hR:Runs (arrOf st) 0 (pendingOf st).toList lo)(hlo:lo<=a₀.size)(hi:i+1<(pendingOf st).size)
   (h:∀st',SB a₀ st'->Runs (arrOf st') 0 (pendingOf st').toList lo->(pendingOf st').size+1=(pendingOf st).size->(∀k,lo<=k->K (arrOf st') k=K (arrOf st) k)->Q true st'):wpS (model prog w) A E s (mergeAt' i) Q st:=by
 obtain ⟨l1,⟨sa,na,p⟩,⟨sb,nb,p'⟩,l2,e,el,e1,e2⟩:=two_at (l:=(pendingOf st).toList) (i:=i) (by simpa using hi)
 rw [e] at hR
 obtain ⟨c,r1,rfl,n1,g1,rfl,n2,g2,r2⟩:=Runs.append.mp hR
 have l1':=r1.le
 have l2':=r2.le
 refine Qkt h0 hB (by rw [<-Qpy];exact e1) (by rw [<-Qpy];exact e2) rfl (by exact om629 ‹_› ‹_›) n1 n2 g1 g2 λst' hp hm=>?_
 have ep:(pendingOf st').toList=l1++(sa,na+nb,p)::l2:=by
   rw [hp,Array.toList_eraseIdxIfInBounds,Array.toList_setIfInBounds,e,<-el]
   exact Qjo _ _ _ _ _
 refine h st' hm.sb ?_ ?_ λk hk=>hm.out k (.inr (by exact om630 ‹_› ‹_›))
 . rw [ep]
   refine Runs.append.mpr ⟨sa,r1.congr λk k1 k2=>hm.out k (.inl k2),rfl,by exact om631 ‹_› ‹_›,?_,?_⟩
   . rw [<-Qyo];exact hm.seg
   . rw [<-Qyo];exact r2.congr λk k1 k2=>hm.out k (.inr k1)
 . rw [<-Qw3,ep,<-Qw3,e]
   simp;exact om632
theorem Qjv:∀(f n r:Nat),1<=n->1<=minRun' f n r
 | 0,n,r,h=>by show 1<=n+r;exact om52 ‹_›
 | f+1,n,r,h=>by
   rw [minRun'_succ]
   split
   . exact om626 ‹_› ‹_›
   . exact Qjv f _ _ (by exact om627 ‹_›)
structure RunI (a₀:Array Keyed)(lo:Nat)(st:SortSt):Prop where
 sb:SB a₀ st
 runs:Runs (arrOf st) 0 (pendingOf st).toList lo
theorem RunI.fr {lo hi:Nat}{st st':SortSt}(h:RunI a₀ lo st)(hf:Fr a₀ lo hi st st'):RunI a₀ lo st':=⟨hf.sb,by rw [hf.pend];exact h.runs.congr λk k1 k2=>hf.out k (.inl k2)⟩
theorem RunI.push {lo n p:Nat}{st:SortSt}(h:RunI a₀ lo st)(hn:1<=n)(hs:Seg (arrOf st) lo (lo+n)):RunI a₀ (lo+n) (setPending st ((pendingOf st).push (lo,n,p))) :=
 ⟨⟨h.sb.perm,h.sb.kind,h.sb.failed⟩,by
   show Runs (arrOf st) 0 ((pendingOf st).push (lo,n,p)).toList (lo+n)
   rw [Array.toList_push]
   exact Runs.append.mpr ⟨lo,h.runs,rfl,hn,hs,rfl⟩⟩
theorem RunI.pow {lo i:Nat}{f:Nat×Nat×Nat->Nat×Nat×Nat}(hf:∀r,((f r).1,(f r).2.1)=(r.1,r.2.1)){st:SortSt}(h:RunI a₀ lo st):RunI a₀ lo (setPending st ((pendingOf st).modify i f)) :=
 ⟨⟨h.sb.perm,h.sb.kind,h.sb.failed⟩,by
   show Runs (arrOf st) 0 ((pendingOf st).modify i f).toList lo
   rw [Array.toList_modify]
   exact h.runs.powers (Qir f hf _ _)⟩
abbrev RSt:=Option Unit×Nat
abbrev RIn:=Option Unit×Unit
noncomputable def srI (pw:Nat):StateT SortSt Sem (ForInStep RIn):=do
 let st <-get
 match (if (pendingOf st).size > 1 then (pendingOf st)[(pendingOf st).size-2]? else none) with
 | some (_,_,older) =>
   if older<=pw then pure (ForInStep.done ((none,()):RIn))
   else do
     let b <-mergeAt' ((pendingOf st).size-2)
     if (!b)=true then pure (ForInStep.done ((some (),()):RIn))
     else pure (ForInStep.yield ((none,()):RIn))
 | _=>pure (ForInStep.done ((none,()):RIn))
noncomputable def srP (lo n:Nat):StateT SortSt Sem (ForInStep RSt):=do
 modify λs=>setPending s ((pendingOf s).push (lo,n,0))
 pure (ForInStep.yield ((none,lo+n):RSt))
noncomputable def srQ (pw lo n:Nat)(c:RIn):StateT SortSt Sem (ForInStep RSt) :=
 match c.1 with
 | some a=>pure (ForInStep.done ((some a,lo):RSt))
 | none=>do
   modify λs=>setPending s ((pendingOf s).modify ((pendingOf s).size-1) λ(st,len,_)=>(st,len,pw))
   srP lo n
noncomputable def srR (size lo n pw:Nat):StateT SortSt Sem (ForInStep RSt):=do
 let c <-forIn [:size] ((none,()):RIn) (λu_ c=>srI pw)
 srQ pw lo n c
noncomputable def srN (size lo n:Nat):StateT SortSt Sem (ForInStep RSt):=do
 let st <-get
 match (pendingOf st).back? with
 | some (s1,n1,_)=>srR size lo n (power' size (2*s1+n1) (2*s1+n1+n1+n) size)
 | _=>srP lo n
noncomputable def srC (size mr lo m:Nat):StateT SortSt Sem (ForInStep RSt) :=
 if m<mr then do
   rule "list.sort.binary-insertion"
   let b <-binarySort' lo (min (size-lo) mr) m
   if (!b)=true then pure (ForInStep.done ((some (),lo):RSt))
   else srN size lo (min (size-lo) mr)
 else srN size lo m
noncomputable def srO (size mr:Nat)(c:RSt):StateT SortSt Sem (ForInStep RSt) :=
 if c.2>=size then pure (ForInStep.done ((none,c.2):RSt))
 else do
   let o <-countRun' c.2 (size-c.2)
   match o with
   | some m=>srC size mr c.2 m
   | _=>pure (ForInStep.done ((some (),c.2):RSt))
noncomputable def srM (p:Array (Nat×Nat×Nat)):Nat :=
 let i:=p.size-2
 let before:=if i > 0 then p[i-1]?.map (·.2.1) else none
 if before.any (· < (p[i+1]?.elim 0 (·.2.1))) then i-1 else i
noncomputable def srE:StateT SortSt Sem (ForInStep RIn):=do
 let st <-get
 if (pendingOf st).size<=1 then pure (ForInStep.done ((none,()):RIn))
 else do
   let b <-mergeAt' (srM (pendingOf st))
   if (!b)=true then pure (ForInStep.done ((some (),()):RIn))
   else pure (ForInStep.yield ((none,()):RIn))
noncomputable def srZ (size:Nat)(c:RSt):StateT SortSt Sem Unit :=
 match c.1 with
 | some a=>pure a
 | none=>do
   let d <-forIn [:size] ((none,()):RIn) (λu_ c=>srE)
   match d.1 with
   | some a=>pure a
   | none=>pure ()
noncomputable def srL:StateT SortSt Sem Unit:=do
 let st <-get
 let c <-forIn [:(arrOf st).size] ((none,0):RSt) (λu_ c=>srO (arrOf st).size (minRun' (arrOf st).size (arrOf st).size 0) c)
 srZ (arrOf st).size c
theorem Qky:sortRuns'=srL:=by kernel_rfl
structure RunP (a₀:Array Keyed)(lo n:Nat)(r:ForInStep RSt)(st:SortSt):Prop where
 r:r=.yield (none,lo+n)
 i:RunI a₀ (lo+n) st
structure RunJ (a₀:Array Keyed)(lo n:Nat)(st:SortSt):Prop where
 i:RunI a₀ lo st
 s:Seg (arrOf st) lo (lo+n)
structure RunK (P:SortSt->Prop)(c:RIn)(st:SortSt):Prop where
 c:c=(none,())
 p:P st
theorem Qn1 {st:SortSt}{lo n:Nat}(hn:1<=n)(h:RunJ a₀ lo n st):wpS (model prog w) A E s (srP lo n) (RunP a₀ lo n) st:=wpS_bind (wpS_modify (wpS_pure ⟨rfl,h.i.push hn h.s⟩))
theorem Qtz {st:SortSt}{lo n pw:Nat}(h0:IntKeys a₀)(hn:lo+n<=a₀.size)(h:RunJ a₀ lo n st):wpS (model prog w) A E s (srI pw) (λr st'=>match r with | ForInStep.done c'=>RunK (RunJ a₀ lo n) c' st' | ForInStep.yield c'=>RunK (RunJ a₀ lo n) c' st') st:=by
 refine wpS_bind (wpS_get ?_)
 by_cases hz:(pendingOf st).size > 1
 . rw [if_pos hz,getElem?_pos (pendingOf st) _ (by exact om641 ‹_›)]
   dsimp only
   split
   . exact wpS_pure ⟨rfl,h⟩
   . refine wpS_bind (Qh1 h0 h.i.sb h.i.runs (Qdg (Qx3 _ _) hn) (by exact om643 ‹_›) λst2 k1 k2 k3 k4=>?_)
     rw [if_neg (by simp)]
     exact wpS_pure ⟨rfl,⟨k1,k2⟩,h.s.congr λk k1 k2=>k4 k k1⟩
 . rw [if_neg hz]
   exact wpS_pure ⟨rfl,h⟩
theorem Qn2 {st:SortSt}{lo n:Nat}(h0:IntKeys a₀)(h1:1<=n)(hn:lo+n<=a₀.size)(h:RunJ a₀ lo n st):wpS (model prog w) A E s (srN a₀.size lo n) (RunP a₀ lo n) st:=by
 refine wpS_bind (wpS_get ?_)
 split
 . refine wpS_bind (wpS_mono (wpS_forRange (I:=λx c st'=>RunK (RunJ a₀ lo n) c st') (Q:=RunK (RunJ a₀ lo n)) (λx c st' u_ hx hh=>wpS_mono (Qtz h0 hn hh.p) λr st'' hh=>by cases r <;> exact hh) (λu_ u_ hh=>hh) ⟨rfl,h⟩) λc st' hh=>?_)
   obtain ⟨rfl,hh⟩:=hh
   exact wpS_bind (wpS_modify (Qn1 h1 ⟨RunI.pow (by intro r;rfl) hh.i,hh.s⟩))
 . exact Qn1 h1 h
theorem Qt1 {st:SortSt}{lo m mr:Nat}(h0:IntKeys a₀)(h1:1<=m)(hr:1<=mr)(hn:lo+m<=a₀.size)(h:RunJ a₀ lo m st):wpS (model prog w) A E s (srC a₀.size mr lo m) (λr st'=>∃n,1<=n/\lo+n<=a₀.size/\RunP a₀ lo n r st') st:=by
 unfold srC
 by_cases hlt:m<mr
 . rw [if_pos hlt]
   have hn1:1<=min (a₀.size-lo) mr:=Nat.le_min.mpr ⟨Qyl (Qdg (Qz6 1 lo ▸ Qw2 h1 lo) hn),hr⟩
   have hn2:lo+min (a₀.size-lo) mr<=a₀.size:=Qdg (Qw2 (Nat.min_le_left _ _) lo) (Qxq (Nat.add_sub_cancel' (Qdg (Qx3 _ _) hn)))
   refine wpS_bind (wpS_lift (wpAny_rule ⟨rfl,?_⟩))
   refine wpS_bind (Qrv h0 hn2 (Nat.le_min.mpr ⟨Qyl (Qz6 lo m ▸ hn),Qxb hlt⟩) h.i.sb h.s λst3 hF3 hs3=>?_)
   rw [if_neg (by simp)]
   exact wpS_mono (Qn2 h0 hn1 hn2 ⟨h.i.fr hF3,hs3⟩) λr st' hh=>⟨_,hn1,hn2,hh⟩
 . rw [if_neg hlt]
   exact wpS_mono (Qn2 h0 h1 hn h) λr st' hh=>⟨_,h1,hn,hh⟩
theorem Qty {st:SortSt}{x mr:Nat}{c:RSt}(h0:IntKeys a₀)(hm:1<=mr)(hx:x<a₀.size)(hc:c.1=none/\min x a₀.size<=c.2/\c.2<=a₀.size/\RunI a₀ c.2 st):wpS (model prog w) A E s (srO a₀.size mr c) (λr st'=>match r with | ForInStep.done c'=>c'=(none,a₀.size)/\RunI a₀ a₀.size st' | ForInStep.yield c'=>c'.1=none/\min (x+1) a₀.size<=c'.2/\c'.2<=a₀.size/\RunI a₀ c'.2 st') st:=by
 obtain ⟨r,lo⟩:=c
 obtain ⟨hr,h1,h2,hI⟩:=hc
 dsimp only at hr h1 h2 hI
 unfold srO
 dsimp only
 by_cases hge:lo>=a₀.size
 . rw [if_pos hge]
   obtain rfl:lo=a₀.size:=Qxn h2 hge
   exact wpS_pure ⟨rfl,hI⟩
 rw [if_neg hge]
 refine wpS_bind (Qmv h0 (by exact om634 ‹_›) (by exact om635 ‹_›) hI.sb λm st2 hF hm1 hm2 hs2=>?_)
 dsimp only
 refine wpS_mono (Qt1 h0 hm1 hm (by exact om644 ‹_› ‹_›) ⟨hI.fr hF,hs2⟩) λr st' hh=>?_
 obtain ⟨n,n1,n2,rfl,hi⟩:=hh
 exact ⟨rfl,by dsimp only;exact om639 ‹_› ‹_› ‹_›,n2,hi⟩
theorem srM_lt {p:Array (Nat×Nat×Nat)}(h1:¬p.size<=1):srM p+1<p.size:=by
 unfold srM
 dsimp only
 by_cases hc:p.size-2 > 0
 . rw [if_pos hc];split <;> (first | exact om645 ‹_› | exact om646 ‹_›)
 . rw [if_neg hc];split <;> (first | exact om645 ‹_› | exact om647 ‹_› ‹_›)
theorem Qu8 {n k t x:Nat}(h1:k+1=t)(h2:t<=max 1 (n-x)):k<=max 1 (n-(x+1)):=by
 subst h1
 rcases Qz4 1 (n-x) with h | h
 . rw [Nat.max_eq_right h] at h2
   exact Qdg (Qyl h2) (Nat.le_max_right _ _)
 . rw [Nat.max_eq_left h] at h2
   exact Qdg (Qx9 h2) (Qwv _)
theorem Qt0 {st:SortSt}{x:Nat}(h0:IntKeys a₀)(h:RunI a₀ a₀.size st)(hs:(pendingOf st).size<=max 1 (a₀.size-x)):wpS (model prog w) A E s srE (λr st'=>match r with | ForInStep.done c'=>RunK (λst=>RunI a₀ a₀.size st/\(pendingOf st).size<=1) c' st' | ForInStep.yield c'=>RunK (λst=>RunI a₀ a₀.size st/\(pendingOf st).size<=max 1 (a₀.size-(x+1))) c' st') st:=by
 refine wpS_bind (wpS_get ?_)
 by_cases h1:(pendingOf st).size<=1
 . rw [if_pos h1]
   exact wpS_pure ⟨rfl,h,h1⟩
 rw [if_neg h1]
 refine wpS_bind (Qh1 h0 h.sb h.runs (Qwb _) (srM_lt h1) λst2 k1 k2 k3 k4=>?_)
 rw [if_neg (by simp)]
 exact wpS_pure ⟨rfl,⟨k1,k2⟩,Qu8 k3 hs⟩
theorem RunI.seg {st:SortSt}(h:RunI a₀ a₀.size st)(hs:(pendingOf st).size<=1)(h2:2<=a₀.size):SortedTo (arrOf st) a₀.size:=by
 have hr:=h.runs
 have hl:(pendingOf st).toList.length<=1:=by simpa using hs
 have hS:Seg (arrOf st) 0 a₀.size:=by
   generalize (pendingOf st).toList=l at hr hl
   cases l with
   | nil=>have:0=a₀.size:=hr;exact (om651 ‹_› ‹_›).elim
   | cons r l =>
     cases l with
     | nil =>
       obtain ⟨u_,u_,g,e2⟩:=hr
       have e2:0+_=a₀.size:=e2
       rwa [e2] at g
     | cons=>exact absurd hl (Nat.not_le.mpr (Nat.succ_lt_succ (Qyg _)))
 exact λi j hij hj=>hS i j (Qwv _) hij hj
theorem Qif {st:SortSt}{Q:Unit->SortSt->Prop}(h0:IntKeys a₀)(hB:SB a₀ st)(hp:pendingOf st = #[])(h2:2<=a₀.size)
   (h:∀st',(arrOf st').Perm a₀->failedOf st'=none->SortedTo (arrOf st') a₀.size->Q () st'):wpS (model prog w) A E s sortRuns' Q st:=by
 rw [Qky]
 refine wpS_bind (wpS_get ?_)
 simp only [hB.size]
 refine wpS_bind (wpS_mono (wpS_forRange
   (I:=λx (c:RSt) st'=>c.1=none/\min x a₀.size<=c.2/\c.2<=a₀.size/\RunI a₀ c.2 st')
   (Q:=λc st'=>c=(none,a₀.size)/\RunI a₀ a₀.size st') (λx c st' u_ hx hh=>wpS_mono (Qty h0 (Qjv _ _ _ (Qy2 h2)) hx hh) λr st'' hh=>by cases r <;> exact hh) ?_ ⟨rfl,by simp,by simp,hB,by rw [hp];rfl⟩) ?_)
 . rintro ⟨r,lo⟩ st' ⟨hr,h1,h2,hI⟩
   dsimp only at hr h1 h2 hI
   obtain rfl:lo=a₀.size:=by exact om633 ‹_› ‹_› ‹_›
   exact ⟨by rw [hr],hI⟩
 . rintro c st' ⟨rfl,hI⟩
   refine wpS_bind (wpS_mono (wpS_forRange (I:=λx c st''=>RunK (λst=>RunI a₀ a₀.size st/\(pendingOf st).size<=max 1 (a₀.size-x)) c st'') (Q:=RunK (λst=>RunI a₀ a₀.size st/\(pendingOf st).size<=1)) (λx c st'' u_ hx hh=>wpS_mono (Qt0 h0 hh.p.1 hh.p.2) λr st'' hh=>by cases r <;> exact hh) (λc st'' hh=>⟨hh.c,hh.p.1,?_⟩) ⟨rfl,hI,?_⟩) ?_)
   . exact Qdg hh.p.2 (by simp)
   . have:=hI.runs.le
     simp at this
     exact om650 ‹_› ‹_›
   . rintro c st'' ⟨rfl,hI,hs⟩
     exact wpS_pure (h st'' hI.sb.perm hI.sb.failed (hI.seg hs h2))
end
end Mine
namespace Mine
open PySem PyProof PyProof.Rows
section
variable {prog:Program} {w:World} {A:Around} {E:Value->Shared->Prop} {s:Shared}
theorem Qoh {a:Addr}{vs:List Value}{ns:List Int}{n:Nat}{P:Fin->Shared->Prop}(ho:s.heap.get? a=some (seqObj "list" vs.toArray n))(hI:IntsAre vs ns)(h2:2<=vs.length)(hz:vs.length<=sizeLine)
   (h:∀(out:Array Value) (ns':List Int),IntsAre out.toList ns'->ns'.Perm ns->ns'.Pairwise (·<=·)->P (.done (.ret .none)) { s with heap:=sortedHeap s.heap a vs out }) :
   wpAny (model prog w) A (Builtin.«list.sort» ⟨[.ref a],[]⟩) P E s:=by
 obtain ⟨v₁,v₂,rest,rfl⟩:∃v₁ v₂ rest,vs=v₁::v₂::rest:=by
   match vs,h2 with
   | v₁::v₂::rest,_=>exact ⟨v₁,v₂,rest,rfl⟩
 have n2:¬(v₁::v₂::rest).toArray.size<2:=by simp
 have lt:a<s.heap.objs.size:=Heap.lt_size ho
 rw [list_sort_plain]
 refine wpAny_bind (listItems_at ho rfl (wpAny_bind (listUpdate_at ho rfl ?_)))
 obtain ⟨n1,o1⟩:∃n1,(s.heap.update a (Obj.mapSeq λu_=>#[])).get? a=some (seqObj "list" #[] n1):=⟨_,get?_update_seq ho (λu_=>#[])⟩
 refine wpAny_bind (seqEpoch_at o1 rfl (wpAny_bind (wpAny_newTuple (wpAny_bind (wpAny_newList (wpAny_holding ?_))))))
 have o3:(((s.heap.update a (Obj.mapSeq λu_=>#[])).push (seqObj "tuple" (v₁::v₂::rest).toArray 0)).push (seqObj "list" #[] 0)).get? a=some (seqObj "list" #[] n1):=by
   rw [Heap.get?_push_ne _ _ _ (by rw [size_push',Heap.size_update];exact Qw5 (Qw4 lt)),Heap.get?_push_ne _ _ _ (by rw [Heap.size_update];exact Qw5 lt)]
   exact o1
 show wpAny (model prog w) A _ P E { s with heap:=((s.heap.update a (Obj.mapSeq λu_=>#[])).push (seqObj "tuple" (v₁::v₂::rest).toArray 0)).push (seqObj "list" #[] 0) }
 dsimp only
 rw [if_neg n2,if_neg n2,keyKind_ints hI]
 refine wpAny_bind (wpAny_pure ?_)
 refine wpAny_bind (wpAny_mono (Qif (a₀:=pairsOf (v₁::v₂::rest)) (st:=SortSt.mk' oneType' ((v₁::v₂::rest).toArray.zip (v₁::v₂::rest).toArray) #[] 7 none)
   (Q:=λu_ st'=>(arrOf st').Perm (pairsOf (v₁::v₂::rest))/\failedOf st'=none/\SortedTo (arrOf st') (pairsOf (v₁::v₂::rest)).size)
   hI.intKeys ⟨Array.Perm.refl _,rfl,rfl⟩ rfl (by rw [pairsOf_size];exact h2) λst' a1 a2 a3=>⟨a1,a2,a3⟩) ?_ λu_ u_ e=>e)
 rintro ⟨⟨⟩,st'⟩ s' ⟨rfl,hp,hf,hs⟩
 refine smG λH_ k_=>?_
 obtain ⟨ns',g1,g2,g3⟩:=sorted_out hI hp hs
 refine k_ ?_
 clear k_ H_
 dsimp only
 refine wpAny_bind (seqEpoch_at o3 rfl (wpAny_bind (listUpdate_at o3 rfl ?_ (hsz2:=?_))))
 . rw [hf]
   simp only [bne_self_eq_false,Bool.false_eq_true,if_false]
   exact wpAny_pure (h _ ns' g1 g2 g3)
 . have e:=hp.size_eq
   rw [pairsOf_size] at e
   rw [Array.size_map,e];exact om653 ‹_› ‹_›
theorem Qkx {l:Addr}{vs:List Value}{ns:List Int}{Q:Value->Shared->Prop}(hl:s.heap.IsList l vs.toArray)(hI:IntsAre vs ns)(hz:vs.length<=sizeLine)
   (h:∀(out:Array Value) (ns':List Int),IntsAre out.toList ns'->ns'.Perm ns->ns'.Pairwise (·<=·)->Q (.ref (s.heap.objs.size+1)) { s with heap:=sortedAll s.heap vs out }) :
   wpAny (model prog w) A (call (.builtin "sorted") [.ref l]) Q E s:=by
 by_cases h64:vs.length<64
 . exact sorted_ints hl hI h64 h
 refine Calls.call_function_entry kind_sorted plain_sorted entry_sorted (args_sorted1 _) ?_
 unfold Builtin.«sorted»
 refine wpAny_bind (m:=checkCount "sorted" 1 1 _) (wpAny_pure (wpAny_bind (collect_list hl (wpAny_bind (wpAny_newList ?_)) hz)))
 have e:((s.heap.push (seqObj "list" #[] 0)).update s.heap.objs.size (Obj.mapSeq (· ++ vs.toArray))).objs.size=s.heap.objs.size+1:=by rw [Heap.size_update,size_push']
 show wpAny _ _ _ _ _ { s with heap:=((s.heap.push (seqObj "list" #[] 0)).update s.heap.objs.size (Obj.mapSeq (· ++ vs.toArray))).push (seqObj "list" vs.toArray 0) }
 rw [e]
 have o:(((s.heap.push (seqObj "list" #[] 0)).update s.heap.objs.size (Obj.mapSeq (· ++ vs.toArray))).push (seqObj "list" vs.toArray 0)).get? (s.heap.objs.size+1)=some (seqObj "list" vs.toArray 0):=e ▸ Heap.get?_push_size _ rfl
 refine wpAny_bind (wpAny_holding (wpAny_call_entry slot_list_sort ⟨_,o,rfl⟩ entry_list_sort (Qoh o hI (by exact om652 ‹_›) hz λout ns' a1 a2 a3=>⟨_,rfl,?_⟩) (args_list_sort _)))
 exact wpAny_pure ⟨_,rfl,h out ns' a1 a2 a3⟩
end
end Mine
namespace Mine
open PySem PySem.EqNone
noncomputable def Qg4:Option Int->Value->Bool
 | none,.none=>true
 | some k,v=>Value.isInt k v
 | _,_=>false
noncomputable def Qoy:Option Int->Int
 | none=>0xFCA86420
 | some k=>hashInt k
theorem Qbe {v:Value}(h:Qg4 none v=true):v=.none:=by
 cases v <;> first | rfl | (simp [Qg4] at h)
theorem Qa6 {k:Int}{v:Value}(h:Qg4 (some k) v=true):∃t,v=.int k t:=Value.isInt_shape h
section
variable {prog:Program} {w:World} {A:Around} {E:Value->Shared->Prop} {s:Shared}
theorem Qhd {a:Int}{t:Tok}{Q:Bool->Shared->Prop}(h:Q false s):wpAny (model prog w) A (eqBool .none (.int a t)) Q E s:=by
 unfold eqBool
 show wpAny (model prog w) A (richCompare .Eq .none (.int a t) >>= λr=>truthOfDropped r) Q E s
 exact wpAny_bind (eq_none_int (wpAny_truthy_bool h))
theorem Qhe {a:Int}{t:Tok}{Q:Bool->Shared->Prop}(h:Q false s):wpAny (model prog w) A (eqBool (.int a t) .none) Q E s:=by
 unfold eqBool
 show wpAny (model prog w) A (richCompare .Eq (.int a t) .none >>= λr=>truthOfDropped r) Q E s
 exact wpAny_bind (eq_int_none (wpAny_truthy_bool h))
theorem Qgi {Q:Bool->Shared->Prop}(h:Q true s):wpAny (model prog w) A (eqBool .none .none) Q E s:=by
 unfold eqBool
 show wpAny (model prog w) A (rule "eq-bool.same-object" >>= λu_=>pure true) Q E s
 exact wpAny_bind (wpAny_rule (wpAny_pure h))
theorem Qk2 {Q:Int->Shared->Prop}(h:Q (Qoy none) { s with toks:=s.toks+1 }):wpAny (model prog w) A (pyHash .none) Q E s:=by
 unfold pyHash
 refine wpAny_bind ?_
 rw [cRoomFor,if_neg (by rw [show [Value.none].any Value.onHeap=false from rfl];exact Bool.false_ne_true)];refine wpAny_pure ?_
 have hT:s.TypeIs .none "NoneType" := rfl
 refine wpAny_bind (wpAny_specialOf hT F.slot_NoneType_hash.lookup ?_)
 show wpAny _ _ (if (some (Value.builtin "NoneType.__hash__") == some Value.none)=true then _ else _) Q E s
 rw [if_neg (by rw [beq_builtin_none];exact Bool.false_ne_true)]
 refine wpAny_bind (wpAny_specialOf hT F.slot_NoneType_hash.lookup ?_)
 refine wpAny_bind (wpAny_callSpecialIfBoundUnlessNone?_slot hT F.slot_NoneType_hash
   (wpAny_call_entry F.slot_NoneType_hash hT F.entry_NoneType_hash
     (show wpAny _ _ (do ret (<-mkInt 0xFCA86420)) _ _ s from wpAny_ret_mkInt ?_) (F.args_NoneType_hash_1 _)))
 exact wpAny_pure h
end
noncomputable def Qbj (prog:Program)(w:World):KeyKind prog w (Option Int) where
 is:=Qg4
 hash:=Qoy
 inj:=λv a b ha hb=>by
   cases a with
   | none=>cases b with
     | none=>rfl
     | some b=>obtain rfl:=Qbe ha;obtain ⟨t,e⟩:=Qa6 hb;cases e
   | some a=>obtain ⟨t,rfl⟩:=Qa6 ha;cases b with
     | none=>have:=Qbe hb;cases this
     | some b=>obtain ⟨u,e⟩:=Qa6 hb;cases e;rfl
 byValue:=λk v h=>by
   cases k with
   | none=>obtain rfl:=Qbe h;rfl
   | some k=>obtain ⟨t,rfl⟩:=Qa6 h;rfl
 pyHash:=λ{A E s k v Q} h hq=>by
   cases k with
   | none=>obtain rfl:=Qbe h;exact Qk2 hq
   | some k=>obtain ⟨t,rfl⟩:=Qa6 h;exact wpAny_pyHash_int hq
 eqBool:=λ{A E s a b u v Q} ha hb hq=>by
   cases a with
   | none=>obtain rfl:=Qbe ha;cases b with
     | none=>obtain rfl:=Qbe hb;exact Qgi hq
     | some b=>obtain ⟨t,rfl⟩:=Qa6 hb;exact Qhd (by simpa using hq)
   | some a=>obtain ⟨t,rfl⟩:=Qa6 ha;cases b with
     | none=>obtain rfl:=Qbe hb;exact Qhe (by simpa using hq)
     | some b=>obtain ⟨u,rfl⟩:=Qa6 hb;exact wpAny_eqBool_int (by rw [show (a == b)=decide (some a=some b) from by simp [BEq.beq]];exact hq)
 «strs» := λk x t v h=>by
   cases k with
   | none=>have:=Qbe h;cases this
   | some k=>obtain ⟨u,e⟩:=Qa6 h;cases e
theorem Qon {p p':Program}{w w':World}{es:List DictEntry}{kvs:List (Option Int×Value)}(h:Pairs (Qbj p w) es kvs):Pairs (Qbj p' w') es kvs:=by
 induction h with
 | nil=>exact .nil
 | cons h1 h2 _ ih=>exact .cons h1 h2 ih
theorem Qaw {p p':Program}{w w':World}{h:Heap}{a:Addr}{kvs:List (Option Int×Value)}(x:h.DictOf (Qbj p w) a kvs):h.DictOf (Qbj p' w') a kvs:=by
 obtain ⟨o,es,ep,h1,h2,h3,h4,h5,h6⟩:=x
 exact ⟨o,es,ep,h1,h2,h3,h4,Qon h5,h6⟩
theorem Qgu {h:Heap}(hl:h.NoLimit):(h.objs.size == sysModules)=false:=by
 obtain ⟨mc,⟨o,es,ep,ho,u_⟩,u_⟩:=hl
 have h1:cStatics<h.objs.size:=Heap.lt_size ho
 have h2:(1:Nat)<h.objs.size:=Qxa (by decide) h1
 cases e:(h.objs.size == sysModules) with
 | false=>rfl
 | true=>have e':h.objs.size=1:=eq_of_beq e;exact (om259 ‹_› ‹_›).elim
end Mine
namespace Mine
open PySem
theorem Qhv:typeLookup (.type "list") (Qa "keys")=pure none:=am_miss_of_fast (by kernel_rfl)
theorem Qff {prog:Program}{w:World}{A:Around}{E:Value->Shared->Prop}{s:Shared}{a:Addr}{xs:Array Value}{k:Nat}{sl:Array (Option Value)}{Q:Option Value->Shared->Prop}
   (hx:s.heap.get? a=some { cls:=.type "list",dict:=none,data:=.seq xs k,slots:=sl }) (hA:A.handled=none)
   (h:∀h' tk,(∀b o,s.heap.get? b=some o->h'.get? b=some o)->Q none { s with heap:=h',toks:=tk }) :
   wpAny (model prog w) A (getAttr? (.ref a) (Qa "keys")) Q E s:=by
 obtain ⟨hp,g,d,tk,os⟩:=s
 have hT:∀tk',(⟨hp,g,d,tk',os⟩:Shared).TypeIs (.ref a) "list" := λu_=>⟨_,hx,rfl⟩
 have f1:=sub_AttributeError
 have f3:=F.slot_list_getattribute.lookup
 have f4:=F.slot_list_getattribute.bind (.ref a)
 have f5:=am_list_getattr_none
 unfold getAttr? getAttrBy? getAttrBy
 repeat (any_goals (first | assumption | exact hT _ | ((with_reducible show wpAny _ _ (call (Value.builtin "list.__getattribute__") _ _) _ _ _);refine call_meets F.slot_list_getattribute (hT _) am_entry_list_getattribute (F.args_list_getattribute_2 _ _) (meets_getattribute_miss_list a xs k sl (Qa "keys") _ Qhv (by decide +kernel) (by size_fits)) ⟨hx,hA,λh' tk' e hx'=>?_⟩) | wp_step))
 obtain ⟨t',u',he⟩:=hx'.there
 show wpAny _ _ (getattributeRaised _ _ _ _ _ _ _) _ _ _
 unfold getattributeRaised
 repeat (any_goals (first | assumption | wp_step))
 exact h _ _ hx'.keeps
theorem Qb1:entryFor table "dict.update.loop" = some Builtin.«dict.update.loop» := entryFor_of_tree (by kernel_rfl)
section
variable {prog:Program} {w:World} {K:Type} [DecidableEq K] {knd:KeyKind prog w K}
noncomputable def Qvx (knd:KeyKind prog w K)(h:Heap)(vs:Array Value)(it d:Addr)(kvs:List (K×Value)):Prop :=
 vs.size=kvs.length/\∀(j:Nat) (k:K) (v:Value),kvs[j]? = some (k,v)->∃(t:Addr) (o:Obj) (key:Value) (n:Nat),vs[j]? = some (.ref t)/\t≠it/\t≠d/\h.get? t=some o/\o.cls=.type "tuple"/\o.data=.seq #[key,v] n/\knd.is k key=true
theorem Qkw {l it d:Addr}{vs:Array Value}{h₀:Heap}{kvs:List (K×Value)}(hld:l≠d)(hli:l≠it)(hdi:d≠it)(P:Qvx knd h₀ vs it d kvs)(hsz:kvs.length<=1000000) :
   ∀(k i:Nat) (acc:List (K×Value)) (A:Around) (s:Shared) (R:Result->Shared->Prop),kvs.length-i=k->i<=kvs.length->A.handled=none->(∀b o,b≠it->b≠d->h₀.get? b=some o->s.heap.get? b=some o) ->
     s.heap.IsListIter it l i->s.heap.IsList l vs->s.heap.DictOf knd d acc->acc.length<=i ->
     (∀h' tk,(∀b o,b≠it->b≠d->s.heap.get? b=some o->h'.get? b=some o)->h'.DictOf knd d (merged acc (kvs.drop i))->R (.ok (.ret .none)) { s with heap:=h',toks:=tk }) ->
     codeAny (model prog w) A (.builtin "dict.update.loop" ⟨[.ref d,.ref it,rawInt i,.none],[]⟩) R s:=by
 intro k
 induction k with
 | zero =>
   intro i acc A s R hk hi hA hkeep hit hl hd hacc hR
   have hn:vs[i]? = none:=by rw [Array.getElem?_eq_none];have:=P.1;exact om260 ‹_› ‹_›
   have hdr:kvs.drop i=[]:=List.drop_eq_nil_of_le (by exact om261 ‹_›)
   refine codeAny_builtin Qb1 ?_
   unfold Builtin.«dict.update.loop»
   dsimp only [rawInt]
   refine wpAny_bind (wpAny_pyNext_list_end (by exact hA) hit hl hn λh' hx=>?_)
   refine wpAny_bind (wpAny_pure (wpAny_pure ?_))
   have:=hR h' s.toks (λb o h1 h2 hb=>hx b o h1 hb) (by rw [hdr];exact hd.extBut hx hdi)
   exact this
 | succ k ih =>
   intro i acc A s R hk hi hA hkeep hit hl hd hacc hR
   have hlt:i<kvs.length:=by exact om262 ‹_› ‹_›
   obtain ⟨⟨ke,v⟩,hkv⟩:∃p,kvs[i]? = some p:=⟨kvs[i],by simp [hlt]⟩
   obtain ⟨t,o,key,n,hv,ht1,ht2,ho,hoc,hod,hkey⟩:=P.2 i ke v hkv
   have hdr:kvs.drop i=(ke,v)::kvs.drop (i+1):=by
     rw [Qwn hlt];congr 1;rw [Qws hlt] at hkv;exact Option.some.inj hkv
   refine codeAny_builtin Qb1 ?_
   unfold Builtin.«dict.update.loop»
   dsimp only [rawInt]
   refine wpAny_bind (wpAny_pyNext_list_item hit hl hv λh1 hit1 hs1=>?_)
   have ho1:h1.get? t=some o:=(hs1.2 t ht1).trans (hkeep t o ht1 ht2 ho)
   have hl1:h1.IsList l vs:=(let ⟨o',g1,g2⟩:=hl;⟨o',(hs1.2 l hli).trans g1,g2⟩)
   have hd1:h1.DictOf knd d acc:=hd.sameBut hs1 hdi
   refine wpAny_bind (wpAny_holding (wpAny_bind (wpAny_tryCatch ?_)))
   unfold Builtin.Dict.pairItems
   refine wpAny_bind (wpAny_typeOf (T := "tuple") ⟨o,ho1,hoc⟩ ?_)
   rw [if_pos (by decide)]
   refine wpAny_bind (wpAny_seqItems ho1 hod ?_)
   refine wpAny_pure ?_
   show wpAny _ _ (holding [key,v] (dictSet d key v)) _ _ _
   refine wpAny_holding (wpAny_dictSet_pairs hkey hd1 (λh2 hd2 hs2=>?_) (by have:(1000000:Nat)<=sizeLine:=(by decide +kernel);exact om263 ‹_› ‹_› ‹_› ‹_›))
   refine wpAny_pure ⟨Code.quiet_builtin _ (by decide +kernel),?_⟩
   have e1:((i:Int)+1)=((i+1:Nat):Int):=rfl
   rw [e1]
   refine ih (i+1) (stored acc ke v) A _ R (by exact om264 ‹_› ‹_›) (by exact Qm2 ‹_›) hA (λb o' h1' h2' hb=>?_) (let ⟨o',g1,g2⟩:=hit1;⟨o',(hs2.2 it (Ne.symm hdi)).trans g1,g2⟩) (let ⟨o',g1,g2⟩:=hl1;⟨o',(hs2.2 l hld).trans g1,g2⟩) hd2 (Qdg (stored_length_le acc ke v) (by exact om265 ‹_›)) ?_
   . show h2.get? b=some o'
     rw [hs2.2 b h2',hs1.2 b h1'];exact hkeep b o' h1' h2' hb
   . intro h' tk hk' hd'
     refine hR h' tk (λb o' h1' h2' hb=>hk' b o' h1' h2' ?_) ?_
     . show h2.get? b=some o'
       rw [hs2.2 b h2',hs1.2 b h1'];exact hb
     . rw [hdr];exact hd'
theorem Qhx {A:Around}{E:Value->Shared->Prop}{s:Shared}{l:Addr}{vs:Array Value}{nn:Nat}{sl:Array (Option Value)}{kvs:List (K×Value)}{Q:Value->Shared->Prop}(hA:A.handled=none)
   (ho:s.heap.get? l=some { cls:=.type "list",dict:=none,data:=.seq vs nn,slots:=sl }) (hsz:kvs.length<=1000000) (hlen:vs.size=kvs.length)
   (P:∀(j:Nat) (k:K) (v:Value),kvs[j]? = some (k,v)->∃(t:Addr) (o:Obj) (key:Value) (n:Nat),vs[j]? = some (.ref t)/\s.heap.get? t=some o/\o.cls=.type "tuple"/\o.data=.seq #[key,v] n/\knd.is k key=true)
   (h:∀h' tk,(∀b o,s.heap.get? b=some o->h'.get? b=some o)->h'.DictOf knd s.heap.objs.size (merged [] kvs)->Q (.ref s.heap.objs.size) { s with heap:=h',toks:=tk }) :
   wpAny (model prog w) A (call (.type "dict") [.ref l]) Q E s:=by
 refine callType_codes (Q₁:=λobj s₁=>obj=.ref s.heap.objs.size/\s₁={ s with heap:=s.heap.push { cls:=.type "dict",data:=.dict #[] } }) F.kt_called_dict (F.kt_typeCall_dict_1 _) F.entry_dict_init (kt_code_dict_new _ ⟨rfl,rfl⟩) ?_
 rintro obj s₁ ⟨rfl,rfl⟩
 have hnew:(s.heap.push { cls:=.type "dict",data:=.dict #[] }).DictOf knd s.heap.objs.size []:=Heap.DictOf.new s.heap
 have ho':=Heap.get?_push_of_some { cls:=.type "dict",data:=.dict #[] } ho
 refine ⟨hnew.typeIs,F.args_dict_init_2 _ _,?_⟩
 unfold Builtin.«dict.__init__»
 refine wpAny_bind ?_
 unfold Builtin.Dict.selfAndRest
 refine wpAny_bind (wpAny_notOrdered_dict hnew.typeIs ?_)
 show wpAny _ _ (pure (s.heap.objs.size,[Value.ref l])) _ _ _
 refine wpAny_pure ?_
 show wpAny _ _ (Builtin.Dict.updateFrom "dict.__init__" s.heap.objs.size (.ref l) [] .none) _ _ _
 unfold Builtin.Dict.updateFrom
 refine wpAny_bind (wpAny_typeOf (T := "list") ⟨_,ho',rfl⟩ ?_)
 rw [if_pos (by decide)]
 refine wpAny_bind (Qff ho' hA λh2 tk2 hk2=>?_)
 rw [if_pos (by rfl)]
 refine wpAny_bind (wpAny_rule ?_)
 have hl2:h2.IsList l vs:=⟨_,hk2 _ _ ho',rfl,_,rfl⟩
 refine wpAny_bind (wpAny_pyIter_list hl2 ?_)
 have hd2:h2.DictOf knd s.heap.objs.size []:=hnew.keep hk2
 have hlt:s.heap.objs.size<h2.objs.size:=by obtain ⟨o,es,ep,g,u_⟩:=hd2;exact Heap.lt_size g
 have hsz0:∀b o,s.heap.get? b=some o->b≠s.heap.objs.size/\b≠h2.objs.size:=λb o hb=>by
   have h1:b<s.heap.objs.size:=Heap.lt_size hb
   constructor
   . exact Qw5 h1
   . exact Qw5 (Qz5 h1 hlt)
 have hk3:∀b o,s.heap.get? b=some o->(h2.push { cls:=.type "list_iterator",data:=.fields #[.ref l,.int 0 0] }).get? b=some o:=λb o hb=>Heap.get?_push_of_some _ (hk2 _ _ (Heap.get?_push_of_some _ hb))
 refine wpAny_pure ⟨Code.quiet_builtin _ (by decide +kernel),?_⟩
 refine Qkw (h₀:=s.heap) (kvs:=kvs) (hsz0 l _ ho).1 (hsz0 l _ ho).2 (Qw5 hlt) ⟨hlen,λj k v hj=>?_⟩ hsz kvs.length 0 [] _ _ _ rfl (Qwv _) hA (λb o h1 h2 hb=>hk3 b o hb) ⟨_,Heap.get?_push_size _ rfl,rfl,rfl⟩ (hl2.push _) (hd2.push _) (Qwb _) ?_
 . obtain ⟨t,o,key,n,g1,g2,g3⟩:=P j k v hj
   exact ⟨t,o,key,n,g1,(hsz0 t o g2).2,(hsz0 t o g2).1,g2,g3⟩
 . intro h' tk hk' hd'
   exact ⟨rfl,h h' tk (λb o hb=>hk' b o (hsz0 b o hb).2 (hsz0 b o hb).1 (hk3 b o hb)) hd'⟩
end
end Mine
namespace Mine
open PySem
inductive MV where
 | none | bool (b:Bool) | int (i:Int) | str (x:Str) | ref (a:Addr) | oth (v:Value)
noncomputable def VR:MV->Value->Prop
 | .none,v=>v=.none
 | .bool b,v=>v=.bool b
 | .int i,v=>∃t,v=.int i t
 | .str x,v=>∃t,v=.str x t
 | .ref a,v=>v=.ref a
 | .oth u,v=>v=u
inductive VsR:List MV->List Value->Prop
 | nil:VsR [] []
 | cons {m:MV} {v:Value} {ms:List MV} {vs:List Value}:VR m v->VsR ms vs->VsR (m::ms) (v::vs)
theorem VsR.length {ms:List MV}{vs:List Value}(h:VsR ms vs):ms.length=vs.length:=by
 induction h with
 | nil=>rfl
 | cons _ _ ih=>simp [ih]
theorem VsR.get {ms:List MV}{vs:List Value}(h:VsR ms vs):∀{i:Nat} {m:MV},ms[i]? = some m->∃v,vs[i]? = some v/\VR m v:=by
 induction h with
 | nil=>intro i m e;simp at e
 | cons hv _ ih =>
   intro i m e
   cases i with
   | zero=>simp at e;subst e;exact ⟨_,by simp,hv⟩
   | succ i=>simp at e;obtain ⟨v,h1,h2⟩:=ih e;exact ⟨v,by simpa using h1,h2⟩
theorem VsR.getv {ms:List MV}{vs:List Value}(h:VsR ms vs):∀{i:Nat} {v:Value},vs[i]? = some v->∃m,ms[i]? = some m/\VR m v:=by
 induction h with
 | nil=>intro i m e;simp at e
 | cons hv _ ih =>
   intro i m e
   cases i with
   | zero=>simp at e;subst e;exact ⟨_,by simp,hv⟩
   | succ i=>simp at e;obtain ⟨v,h1,h2⟩:=ih e;exact ⟨v,by simpa using h1,h2⟩
theorem VsR.append {a b:List MV}{c d:List Value}(h:VsR a c)(h':VsR b d):VsR (a++b) (c++d):=by
 induction h with
 | nil=>exact h'
 | cons hv _ ih=>exact .cons hv ih
theorem VsR.snoc {a:List MV}{c:List Value}{m:MV}{v:Value}(h:VsR a c)(h':VR m v):VsR (a++[m]) (c++[v]):=h.append (.cons h' .nil)
theorem VsR.take {a:List MV}{c:List Value}(h:VsR a c)(n:Nat):VsR (a.take n) (c.take n):=by
 induction h generalizing n with
 | nil=>simp;exact .nil
 | cons hv _ ih=>cases n with
   | zero=>simp;exact .nil
   | succ n=>simp;exact .cons hv (ih n)
theorem VsR.set {a:List MV}{c:List Value}{m:MV}{v:Value}(h:VsR a c)(hv:VR m v)(n:Nat):VsR (a.set n m) (c.set n v):=by
 induction h generalizing n with
 | nil=>simp;exact .nil
 | cons hv' h' ih=>cases n with
   | zero=>exact .cons hv h'
   | succ n=>exact .cons hv' (ih n)
noncomputable def Qau:Option Int->MV
 | none=>.none
 | some i=>.int i
structure KVR (kvs:List (Option Int×MV))(vk:List (Option Int×Value)):Prop where
 k:kvs.map (·.1)=vk.map (·.1)
 v:VsR (kvs.map (·.2)) (vk.map (·.2))
noncomputable def lim:Nat:=1000000
theorem Qdv:lim<=sizeLine:=by decide +kernel
inductive MO where
 | list (xs:List MV)
 | tup (xs:List MV)
 | range (n:Nat)
 | raw (o:Obj)
 | ro (xs:List MV)
 | dict (kvs:List (Option Int×MV))
noncomputable def OR (h:Heap)(a:Addr):MO->Prop
 | .list xs=>∃vs n,h.get? a=some { cls:=.type "list",dict:=none,data:=.seq vs n,slots:=#[] }/\VsR xs vs.toList/\xs.length<=lim
 | .tup xs=>∃vs n,h.get? a=some { cls:=.type "tuple",dict:=none,data:=.seq vs n,slots:=#[] }/\VsR xs vs.toList/\xs.length<=lim
 | .range n=>∃t u v,IsRange h a 0 n 1 t u v/\n<=lim
 | .raw o=>h.get? a=some o
 | .ro xs=>∃vs,h.IsList a vs/\VsR xs vs.toList/\xs.length<=lim
 | .dict kvs=>(a == sysModules)=false/\∃vk,(∃p w,h.DictOf (Qbj p w) a vk)/\KVR kvs vk/\kvs.length<=lim
theorem OR.at {h h':Heap}{a:Addr}{o:MO}(x:OR h a o)(e:∀ob,h.get? a=some ob->h'.get? a=some ob):OR h' a o:=by
 cases o with
 | list xs=>obtain ⟨vs,n,h1,h2⟩:=x;exact ⟨vs,n,e _ h1,h2⟩
 | tup xs=>obtain ⟨vs,n,h1,h2⟩:=x;exact ⟨vs,n,e _ h1,h2⟩
 | range n=>obtain ⟨t,u,v,h1,h2⟩:=x;exact ⟨t,u,v,e _ h1,h2⟩
 | raw o=>exact e _ x
 | ro xs=>obtain ⟨vs,⟨o,h1,h2⟩,h3⟩:=x;exact ⟨vs,⟨o,e _ h1,h2⟩,h3⟩
 | dict kvs=>obtain ⟨h0,vk,h1,h2⟩:=x;exact ⟨h0,vk,let ⟨p,w,o,es,ep,g1,g2⟩:=h1;⟨p,w,o,es,ep,e _ g1,g2⟩,h2⟩
theorem OR.alive {h:Heap}{a:Addr}{o:MO}(x:OR h a o):∃ob,h.get? a=some ob:=by
 cases o with
 | list xs=>obtain ⟨vs,n,h1,h2⟩:=x;exact ⟨_,h1⟩
 | tup xs=>obtain ⟨vs,n,h1,h2⟩:=x;exact ⟨_,h1⟩
 | range n=>obtain ⟨t,u,v,h1,h2⟩:=x;exact ⟨_,h1⟩
 | raw o=>exact ⟨_,x⟩
 | ro xs=>obtain ⟨vs,⟨o,h1,h2⟩,h3⟩:=x;exact ⟨_,h1⟩
 | dict kvs=>obtain ⟨h0,vk,h1,h2⟩:=x;exact let ⟨_,_,o,es,ep,g1,g2⟩:=h1;⟨_,g1⟩
abbrev Loc:=List (Str×MV)
noncomputable def look:Loc->Str->Option MV
 | [],_=>none
 | (y,v)::r,x=>if x=y then some v else look r x
noncomputable def put:Loc->Str->MV->Loc
 | [],x,v=>[(x,v)]
 | (y,u)::r,x,v=>if x=y then (y,v)::r else (y,u)::put r x v
theorem Qe8 (l:Loc)(x y:Str)(v:MV):look (put l x v) y=if y=x then some v else look l y:=by
 induction l with
 | nil=>simp [put,look]
 | cons p r ih =>
   obtain ⟨z,u⟩:=p
   unfold put
   by_cases h:x=z
   . subst h;simp only [if_true,look];by_cases h2:y=x <;> simp [h2]
   . simp only [h,if_false,look,ih]
     by_cases h2:y=z
     . subst h2;simp [Ne.symm h]
     . simp [h2]
structure Cx where
 prog:Program
 w:World
 A:Around
 env:Env
 fr:List Addr
 kp:Addr->Obj->Prop
 gens:Array GenState
 os:OsState
 room:Nat
 al:Addr->Prop
 mod:List Addr
 B0:Addr->Option MO
 no:Addr->Prop
structure Cx.Ok (C:Cx)(hb:Heap):Prop where
 handled:C.A.handled=none
 depth:C.A.depth+C.room<recursionLimit
 units:C.A.units+3*C.room+100<cLine
 kind:C.env.scope.kind=.function
 globals:C.env.globals=mainGlobals
 builtins:C.env.builtins=builtinsNs
 locals:C.env.locals∈C.fr
 cellsIn:∀x c,C.env.cells.lookup x=some c->c∈C.fr\/∃o,C.kp c o
 cellsNe:∀x c,C.env.cells.lookup x=some c->c≠C.env.locals
 cellsInj:∀x y c,C.env.cells.lookup x=some c->C.env.cells.lookup y=some c->x=y
 apart:∀a∈C.fr,∀o,¬C.kp a o
 base:∀b o,hb.get? b=some o->C.kp b o
 modAl:∀a∈C.mod,C.al a
 noKp:∀a,C.no a->∃o,C.kp a o
structure St where
 loc:Loc
 B:Addr->Option MO
 own:List (Addr×MO)
noncomputable def NameIs (env:Env)(h:Heap)(x:Str)(v:MV):Prop :=
 (env.kindOf x=some .local/\∃m u,h.Ns env.locals m/\m x=some u/\VR v u) \/
 ((env.kindOf x=some .cell\/env.kindOf x=some .free)/\∃c u,env.cells.lookup x=some c/\h.IsCell c (some u)/\VR v u)
structure Holds (C:Cx)(σ:St)(s:Shared):Prop where
 kp:∀b o,C.kp b o->s.heap.get? b=some o
 names:∀x v,look σ.loc x=some v->NameIs C.env s.heap x v
 ns:∃m,s.heap.Ns C.env.locals m
 cells:∀x c,C.env.cells.lookup x=some c->∃u,s.heap.IsCell c u
 alive:∀a∈C.fr,∃o,s.heap.get? a=some o
 B:∀a o,σ.B a=some o->OR s.heap a o
 own:∀p∈σ.own,OR s.heap p.1 p.2
 nodup:(σ.own.map (·.1)++C.fr).Nodup
 apartB:∀a∈σ.own.map (·.1)++C.fr,σ.B a=none
 apartK:∀a∈σ.own.map (·.1)++C.fr,∀o,¬C.kp a o
 gens:s.gens=C.gens
 os:s.os=C.os
 al:∀a,C.al a->∃o,s.heap.get? a=some o
 B0:∀a o,C.B0 a=some o->σ.B a=some o
 Bnew:∀a o,σ.B a=some o->C.B0 a=some o\/¬C.al a
 ownNew:∀p∈σ.own,¬C.al p.1\/p.1∈C.mod
 noB:∀a,C.no a->σ.B a=none
noncomputable def Has (σ:St)(a:Addr)(o:MO):Prop:=(a,o)∈σ.own\/σ.B a=some o
theorem Holds.has {C:Cx}{σ:St}{s:Shared}(H:Holds C σ s){a:Addr}{o:MO}(h:Has σ a o):OR s.heap a o :=
 h.elim (λh=>H.own _ h) λh=>H.B _ _ h
theorem NameIs.ext {env:Env}{h h':Heap}{x:Str}{v:MV}(n:NameIs env h x v)(e:∀b o,h.get? b=some o->h'.get? b=some o):NameIs env h' x v:=by
 rcases n with ⟨hk,m,u,hn,hm,hv⟩ | ⟨hk,c,u,hc,hu,hv⟩
 . exact .inl ⟨hk,m,u,hn.keeps e,hm,hv⟩
 . exact .inr ⟨hk,c,u,hc,hu.keeps e,hv⟩
theorem Holds.ext {C:Cx}{σ:St}{s s':Shared}(H:Holds C σ s)(e:∀b o,s.heap.get? b=some o->s'.heap.get? b=some o)(hg:s'.gens=s.gens)(ho:s'.os=s.os):Holds C σ s' where
 kp:=λb o h=>e _ _ (H.kp b o h)
 names:=λx v h=>(H.names x v h).ext e
 ns:=let ⟨m,h⟩:=H.ns;⟨m,h.keeps e⟩
 cells:=λx c h=>let ⟨u,hu⟩:=H.cells x c h;⟨u,hu.keeps e⟩
 alive:=λa ha=>let ⟨o,ho⟩:=H.alive a ha;⟨o,e _ _ ho⟩
 B:=λa o h=>(H.B a o h).at λob=>e _ _
 own:=λp hp=>(H.own p hp).at λob=>e _ _
 nodup:=H.nodup
 apartB:=H.apartB
 apartK:=H.apartK
 gens:=hg.trans H.gens
 os:=ho.trans H.os
 al:=λa ha=>let ⟨o,ho⟩:=H.al a ha;⟨o,e _ _ ho⟩
 B0:=H.B0
 Bnew:=H.Bnew
 ownNew:=H.ownNew
 noB:=H.noB
theorem Holds.toks {C:Cx}{σ:St}{s:Shared}(H:Holds C σ s)(t:Nat):Holds C σ { s with toks:=t }:=H.ext (λu_ u_ h=>h) rfl rfl
theorem Holds.push {C:Cx}{σ:St}{s:Shared}(H:Holds C σ s)(o:Obj):Holds C σ { s with heap:=s.heap.push o }:=H.ext (λu_ u_ h=>Heap.get?_push_of_some _ h) rfl rfl
theorem Qh7 (h:Heap):h.get? h.objs.size=none:=by
 cases e:h.get? h.objs.size with
 | none=>rfl
 | some o=>exact absurd (Heap.lt_size e) (Qyp _)
theorem Holds.freshMod {C:Cx}{hb:Heap}{σ:St}{s:Shared}(OK:C.Ok hb)(H:Holds C σ s):s.heap.objs.size∉C.mod:=λhm=>by
 obtain ⟨ob,hob⟩:=H.al _ (OK.modAl _ hm);rw [Qh7] at hob;cases hob
structure Fsh (md:List Addr)(σ:St)(a:Addr):Prop where
 md:a∉md
 B:σ.B a=none
 own:a∉σ.own.map (·.1)
theorem Qsr {h:Heap}{a:Addr}(ha:h.objs.size<=a):h.get? a=none:=by
 cases e:h.get? a with
 | none=>rfl
 | some o=>exact absurd (Heap.lt_size e) (Qyb.mpr ha)
noncomputable def Far (C:Cx)(σ:St)(a:Addr):Prop:=a∉σ.own.map (·.1)++C.fr/\σ.B a=none/\(∀o,¬C.kp a o)/\¬C.al a
theorem Holds.far {C:Cx}{σ:St}{s:Shared}(H:Holds C σ s){a:Addr}(ha:s.heap.objs.size<=a):Far C σ a:=by
 have fn:=Qsr ha
 have no:¬∃ob,s.heap.get? a=some ob:=λ⟨ob,h⟩=>by rw [fn] at h;cases h
 refine ⟨λhm=>?_,?_,λo hk=>no ⟨o,H.kp _ _ hk⟩,λha=>no (H.al _ ha)⟩
 . rcases Qaz.mp hm with hm | hm
   . obtain ⟨p,hp,e⟩:=Qc6.mp hm
     exact no (e ▸ (H.own p hp).alive)
   . exact no (H.alive _ hm)
 . cases e:σ.B a with
   | none=>rfl
   | some mo=>exact absurd (H.B _ _ e).alive no
theorem Holds.fshAt {C:Cx}{hb:Heap}{σ:St}{s:Shared}{a:Addr}(OK:C.Ok hb)(H:Holds C σ s)(ha:s.heap.objs.size<=a):Fsh C.mod σ a :=
 ⟨λhm=>(H.far ha).2.2.2 (OK.modAl _ hm),(H.far ha).2.1,λhm=>(H.far ha).1 (Qaq _ hm)⟩
theorem Holds.fsh {C:Cx}{hb:Heap}{σ:St}{s:Shared}(OK:C.Ok hb)(H:Holds C σ s):Fsh C.mod σ s.heap.objs.size:=H.fshAt OK (Qwb _)
theorem Holds.addO {C:Cx}{σ:St}{s:Shared}{a:Addr}{mo:MO}(H:Holds C σ s)(f:Far C σ a)(ho:OR s.heap a mo):Holds C { σ with own:=(a,mo)::σ.own } s where
 kp:=H.kp
 names:=H.names
 ns:=H.ns
 cells:=H.cells
 alive:=H.alive
 B:=H.B
 gens:=H.gens
 os:=H.os
 al:=H.al
 B0:=H.B0
 Bnew:=H.Bnew
 noB:=H.noB
 own:=λp hp=>by
   rcases Qch.mp hp with rfl | hp
   . exact ho
   . exact H.own p hp
 nodup:=Qnn.mpr ⟨f.1,H.nodup⟩
 apartB:=λb hb=>by
   rcases Qch.mp hb with rfl | hb
   . exact f.2.1
   . exact H.apartB b hb
 apartK:=λb hb=>by
   rcases Qch.mp hb with rfl | hb
   . exact f.2.2.1
   . exact H.apartK b hb
 ownNew:=λp hp=>by
   rcases Qch.mp hp with rfl | hp
   . exact .inl f.2.2.2
   . exact H.ownNew p hp
theorem Holds.new {C:Cx}{σ:St}{s:Shared}(H:Holds C σ s){o:Obj}{mo:MO}(ho:OR (s.heap.push o) s.heap.objs.size mo) :
   Holds C { σ with own:=(s.heap.objs.size,mo)::σ.own } { s with heap:=s.heap.push o }:=(H.push o).addO (H.far (Qwb _)) ho
inductive Upd:List (Addr×MO)->Addr->MO->MO->List (Addr×MO)->Prop
 | head {a:Addr} {o o':MO} {r:List (Addr×MO)}:Upd ((a,o)::r) a o o' ((a,o')::r)
 | tail {a:Addr} {o o':MO} {p:Addr×MO} {r r':List (Addr×MO)}:Upd r a o o' r'->Upd (p::r) a o o' (p::r')
theorem Upd.keys {l l':List (Addr×MO)}{a:Addr}{o o':MO}(u:Upd l a o o' l'):l'.map (·.1)=l.map (·.1):=by
 induction u with
 | head=>rfl
 | tail _ ih=>simp [ih]
theorem Upd.mem {l l':List (Addr×MO)}{a:Addr}{o o':MO}(u:Upd l a o o' l'):(a,o)∈l:=by
 induction u with
 | head=>exact .head _
 | tail _ ih=>exact .tail _ ih
theorem Upd.back {l l':List (Addr×MO)}{a:Addr}{o o':MO}(u:Upd l a o o' l'):∀p∈l',∃q∈l,q.1=p.1:=by
 intro p hp
 have:p.1∈l'.map (·.1):=Qc6.mpr ⟨p,hp,rfl⟩
 rw [u.keys] at this
 obtain ⟨q,hq,e⟩:=Qc6.mp this
 exact ⟨q,hq,e⟩
theorem Upd.cases {l l':List (Addr×MO)}{a:Addr}{o o':MO}(u:Upd l a o o' l')(nd:(l.map (·.1)).Nodup):∀p∈l',p=(a,o')\/(p∈l/\p.1≠a):=by
 induction u with
 | head =>
   intro p hp
   rcases Qch.mp hp with rfl | hp
   . exact .inl rfl
   . refine .inr ⟨.tail _ hp,λe=>?_⟩
     have:=(Qnn.mp nd).1
     exact this (Qc6.mpr ⟨p,hp,e⟩)
 | tail u ih =>
   intro p hp
   have nd':=Qnn.mp nd
   rcases Qch.mp hp with rfl | hp
   . refine .inr ⟨.head _,λe=>nd'.1 ?_⟩
     exact Qc6.mpr ⟨_,u.mem,e.symm⟩
   . rcases ih nd'.2 p hp with h | ⟨h1,h2⟩
     . exact .inl h
     . exact .inr ⟨.tail _ h1,h2⟩
theorem NameIs.extBut {env:Env}{h h':Heap}{x:Str}{v:MV}{a:Addr}(n:NameIs env h x v)(e:∀b o,b≠a->h.get? b=some o->h'.get? b=some o)
   (hl:env.locals≠a) (hc:∀c,env.cells.lookup x=some c->c≠a):NameIs env h' x v:=by
 rcases n with ⟨hk,m,u,hn,hm,hv⟩ | ⟨hk,c,u,hc',hu,hv⟩
 . exact .inl ⟨hk,m,u,hn.extBut e hl,hm,hv⟩
 . obtain ⟨o,h1,h2⟩:=hu
   exact .inr ⟨hk,c,u,hc',⟨o,e _ _ (hc c hc') h1,h2⟩,hv⟩
theorem Holds.upd {C:Cx}{hb:Heap}{σ:St}{s s':Shared}(OK:C.Ok hb)(H:Holds C σ s){a:Addr}{o o':MO}{own':List (Addr×MO)}(u:Upd σ.own a o o' own')
   (e:∀b ob,b≠a->s.heap.get? b=some ob->s'.heap.get? b=some ob) (ho:OR s'.heap a o') (hg:s'.gens=s.gens) (hos:s'.os=s.os) :
   Holds C { σ with own:=own' } s':=by
 have ma:a∈σ.own.map (·.1):=Qzq (f:=(·.1)) u.mem
 have ma':a∈σ.own.map (·.1)++C.fr:=Qaq _ ma
 have nfr:∀b∈C.fr,b≠a:=λb hb' e'=>by
   subst e'
   exact (Qdi.mp H.nodup).2.2 _ ma _ hb' rfl
 have cne:∀x c,C.env.cells.lookup x=some c->c≠a:=λx c hc=>by
   rcases OK.cellsIn x c hc with h | ⟨ob,h⟩
   . exact nfr c h
   . exact λe'=>H.apartK a ma' ob (e' ▸ h)
 have lne:C.env.locals≠a:=nfr _ OK.locals
 exact {
   kp:=λb ob h=>e _ _ (λe'=>H.apartK a ma' ob (e' ▸ h)) (H.kp _ _ h)
   names:=λx v h=>(H.names x v h).extBut e lne (cne x)
   ns:=let ⟨m,h⟩:=H.ns;⟨m,h.extBut e lne⟩
   cells:=λx c h=>let ⟨v,ob,h1,h2⟩:=H.cells x c h;⟨v,ob,e _ _ (cne x c h) h1,h2⟩
   alive:=λb hb'=>let ⟨ob,h⟩:=H.alive b hb';⟨ob,e _ _ (nfr b hb') h⟩
   B:=λb ob h=>(H.B b ob h).at λoo ho'=>e _ _ (λe'=>by rw [e',H.apartB a ma'] at h;cases h) ho'
   own:=λp hp=>by
     rcases u.cases (Qdi.mp H.nodup).1 p hp with rfl | ⟨h1,h2⟩
     . exact ho
     . exact (H.own p h1).at λoo ho'=>e _ _ h2 ho'
   nodup:=by show (own'.map (·.1)++C.fr).Nodup;rw [u.keys];exact H.nodup
   apartB:=by show ∀b∈own'.map (·.1)++C.fr,_;rw [u.keys];exact H.apartB
   apartK:=by show ∀b∈own'.map (·.1)++C.fr,_;rw [u.keys];exact H.apartK
   gens:=hg.trans H.gens
   os:=hos.trans H.os
   al:=λb hb'=>by
     by_cases hba:b=a
     . subst hba;exact ho.alive
     . obtain ⟨ob,hob⟩:=H.al b hb';exact ⟨ob,e _ _ hba hob⟩
   B0:=H.B0
   Bnew:=H.Bnew
   noB:=H.noB
   ownNew:=λp hp=>let ⟨q,hq,e'⟩:=u.back p hp;e' ▸ H.ownNew q hq }
inductive Out {α β:Type}(C:Cx)(R:β->α->Prop)(Q:β->St->Prop)(a:α)(s':Shared):Prop
 | mk (b:β) (σ':St) (hr:R b a) (H:Holds C σ' s') (h:Q b σ'):Out C R Q a s'
noncomputable def Tr {α β:Type}(C:Cx)(t:Sem α)(R:β->α->Prop)(σ:St)(Q:β->St->Prop):Prop :=
 ∀s,Holds C σ s->wpAny (model C.prog C.w) C.A t (Out C R Q) (λu_ u_=>False) s
theorem Tr.mono {α β:Type}{C:Cx}{t:Sem α}{R:β->α->Prop}{σ:St}{Q Q':β->St->Prop}(h:Tr C t R σ Q)(hq:∀b σ',Q b σ'->Q' b σ'):Tr C t R σ Q' :=
 λs H=>wpAny_mono (h s H) (λu_ u_ ⟨b,σ',h1,h2,h3⟩=>⟨b,σ',h1,h2,hq _ _ h3⟩) λu_ u_ x=>x
theorem Tr.pure {α β:Type}{C:Cx}{a:α}{b:β}{R:β->α->Prop}{σ:St}{Q:β->St->Prop}(hr:R b a)(h:Q b σ):Tr C (pure a) R σ Q :=
 λs H=>wpAny_pure ⟨b,σ,hr,H,h⟩
end Mine
namespace Mine
open PySem
noncomputable def Ex (C:Cx)(e:Expr)(σ:St)(Q:MV->St->Prop):Prop:=Tr C (eval e C.env) VR σ Q
noncomputable def Ts (C:Cx)(e:Expr)(σ:St)(Q:Bool->St->Prop):Prop:=Tr C (isTrue e C.env (eval e C.env)) (λb a=>b=a) σ Q
noncomputable def Bin (C:Cx)(op:Operator)(a b:MV)(σ:St)(Q:MV->St->Prop):Prop:=∀va vb,VR a va->VR b vb->Tr C (binaryOp op va vb) VR σ Q
noncomputable def Cmp (C:Cx)(op:CmpOp)(a b:MV)(σ:St)(Q:MV->St->Prop):Prop:=∀va vb,VR a va->VR b vb->Tr C (compareOp op va vb) VR σ Q
noncomputable def Trt (C:Cx)(v:MV)(σ:St)(Q:Bool->St->Prop):Prop:=∀va,VR v va->Tr C (truthy va) (λb a=>b=a) σ Q
noncomputable def Una (C:Cx)(op:UnaryOp)(v:MV)(σ:St)(Q:MV->St->Prop):Prop:=∀va,VR v va->Tr C (unaryOp op va) VR σ Q
noncomputable def Exs (C:Cx)(pos:Pos)(es:List Expr)(σ:St)(Q:List MV->St->Prop):Prop:=Tr C (spliced (backTo pos (starEach es C.env))) VsR σ Q
noncomputable def Qb0 (C:Cx)(f:Value)(args:List MV)(σ:St)(Q:MV->St->Prop):Prop:=∀vs,VsR args vs->Tr C (call f vs) VR σ Q
noncomputable def Sub (C:Cx)(o i:MV)(σ:St)(Q:MV->St->Prop):Prop:=∀vo vi,VR o vo->VR i vi->Tr C (getItem vo vi) VR σ Q
inductive MF where
 | next | ret (v:MV)
noncomputable def FR:MF->Flow->Prop
 | .next,f=>f=.next
 | .ret m,f=>∃v,f=.ret v/\VR m v
noncomputable def Stm (C:Cx)(st:Stmt)(σ:St)(Q:MF->St->Prop):Prop:=Tr C (exec st C.env) FR σ Q
noncomputable def Sts (C:Cx)(sts:List Stmt)(σ:St)(Q:MF->St->Prop):Prop:=Tr C (execs sts C.env) FR σ Q
section
variable (C:Cx)
abbrev SeqK (rest:List Stmt)(Q:MF->St->Prop):MF->St->Prop:=λf σ'=>match f with | .next=>Sts C rest σ' Q | .ret v=>Q (.ret v) σ'
abbrev IfK (body orelse:List Stmt)(Q:MF->St->Prop):Bool->St->Prop:=λb σ'=>if b then Sts C body σ' Q else Sts C orelse σ' Q
abbrev RetK (Q:MF->St->Prop):MV->St->Prop:=λv σ'=>Q (.ret v) σ'
abbrev NextK (Q:MF->St->Prop):St->Prop:=λσ'=>Q .next σ'
abbrev BinK2 (op:Operator)(Q:MV->St->Prop)(a:MV):MV->St->Prop:=λb σ₂=>Bin C op a b σ₂ Q
abbrev BinK (r:Expr)(op:Operator)(Q:MV->St->Prop):MV->St->Prop:=λa σ₁=>Ex C r σ₁ (BinK2 C op Q a)
abbrev CmpK2 (op:CmpOp)(Q:MV->St->Prop)(a:MV):MV->St->Prop:=λb σ₂=>Cmp C op a b σ₂ Q
abbrev CmpK (r:Expr)(op:CmpOp)(Q:MV->St->Prop):MV->St->Prop:=λa σ₁=>Ex C r σ₁ (CmpK2 C op Q a)
abbrev TrK (Q:Bool->St->Prop):MV->St->Prop:=λc σ₃=>Trt C c σ₃ Q
abbrev AndK (rest:List Expr)(pos:Pos)(Q:Bool->St->Prop):Bool->St->Prop:=λb σ'=>if b then Ts C (.BoolOp .And rest pos) σ' Q else Q false σ'
abbrev OrK (rest:List Expr)(pos:Pos)(Q:Bool->St->Prop):Bool->St->Prop:=λb σ'=>if b then Q true σ' else Ts C (.BoolOp .Or rest pos) σ' Q
abbrev NotK (Q:Bool->St->Prop):Bool->St->Prop:=λb σ'=>Q (!b) σ'
abbrev UnK (op:UnaryOp)(Q:MV->St->Prop):MV->St->Prop:=λv σ'=>Una C op v σ' Q
abbrev ExsK2 (Q:List MV->St->Prop)(v:MV):List MV->St->Prop:=λvs σ₂=>Q (v::vs) σ₂
abbrev ExsK (pos:Pos)(rest:List Expr)(Q:List MV->St->Prop):MV->St->Prop:=λv σ₁=>Exs C pos rest σ₁ (ExsK2 Q v)
abbrev Qrt (f:Value)(Q:MV->St->Prop):List MV->St->Prop:=λvs σ₁=>Qb0 C f vs σ₁ Q
end
section
variable {C:Cx} {hb:Heap} {σ:St}
theorem Qf6 {Q:MF->St->Prop}(h:Q .next σ):Sts C [] σ Q:=Tr.pure (b:=MF.next) (R:=FR) rfl h
theorem Qag {st:Stmt}{rest:List Stmt}{Q:MF->St->Prop}
   (h:Stm C st σ (SeqK C rest Q)):Sts C (st::rest) σ Q:=λs H=>by
 refine wpAny_execs_cons (wpAny_mono (h s H) (λf s' hpat=>?_) λu_ u_ x=>x)
 refine smG λH_ k_=>?_
 obtain ⟨b,σ',h1,h2,h3⟩:=hpat
 refine k_ ?_
 clear k_ H_
 cases b with
 | next=>obtain rfl:f=.next:=h1;exact h3 s' h2
 | ret m=>obtain ⟨v,rfl,hv⟩:=h1;exact ⟨.ret m,σ',⟨v,rfl,hv⟩,h2,h3⟩
theorem Stm_If {test:Expr}{body orelse:List Stmt}{pos:Pos}{Q:MF->St->Prop}
   (h:Ts C test σ (IfK C body orelse Q)):Stm C (.If test body orelse pos) σ Q:=λs H=>by
 refine wpAny_If (wpAny_mono (h s H) (λb s' hpat=>?_) λu_ u_ x=>x)
 refine smG λH_ k_=>?_
 obtain ⟨b',σ',h1,h2,h3⟩:=hpat
 refine k_ ?_
 clear k_ H_
 subst h1
 cases b' with
 | true=>exact h3 s' h2
 | false=>exact h3 s' h2
theorem Qnl {e:Expr}{pos:Pos}{Q:MF->St->Prop}(h:Ex C e σ (RetK Q)):Stm C (.Return (some e) pos) σ Q:=λs H=>by
 refine wpAny_Return_some (wpAny_mono (h s H) (λv s' ⟨m,σ',h1,h2,h3⟩=>⟨.ret m,σ',⟨v,rfl,h1⟩,h2,h3⟩) λu_ u_ x=>x)
theorem Ex_int {i:Int}{k:Nat}{pos:Pos}{Q:MV->St->Prop}(h:Q (.int i) σ):Ex C (.Constant (.int i) k pos) σ Q:=λs H =>
 wpAny_Constant_int ⟨.int i,σ,⟨_,rfl⟩,H.toks _,h⟩
theorem Ex_str {x:Str}{k:Nat}{pos:Pos}{Q:MV->St->Prop}(h:Q (.str x) σ):Ex C (.Constant (.str x) k pos) σ Q:=λs H =>
 wpAny_Constant_str ⟨.str x,σ,⟨_,rfl⟩,H.toks _,h⟩
theorem Qvy {k:Nat}{pos:Pos}{Q:MV->St->Prop}(h:Q .none σ):Ex C (.Constant .none k pos) σ Q:=λs H =>
 wpAny_Constant_none ⟨.none,σ,rfl,H,h⟩
theorem Qrg {b:Bool}{k:Nat}{pos:Pos}{Q:MV->St->Prop}(h:Q (.bool b) σ):Ex C (.Constant (.bool b) k pos) σ Q:=λs H =>
 wpAny_Constant_bool ⟨.bool b,σ,rfl,H,h⟩
theorem Qmt {l r:Expr}{op:Operator}{pos:Pos}{Q:MV->St->Prop}(h:Ex C l σ (BinK C r op Q)):Ex C (.BinOp l op r pos) σ Q:=λs H =>
 wpAny_BinOp (wpAny_mono (h s H) (λva s₁ ⟨a,σ₁,ha,H₁,h₁⟩=>wpAny_mono (h₁ s₁ H₁) (λvb s₂ ⟨b,σ₂,hb,H₂,h₂⟩=>h₂ va vb ha hb s₂ H₂) λu_ u_ x=>x) λu_ u_ x=>x)
theorem Qnq {l r:Expr}{op:CmpOp}{pos:Pos}{Q:MV->St->Prop}(hm:behindInMarks op r=false)
   (h:Ex C l σ (CmpK C r op Q)):Ex C (.Compare l [op] [r] pos) σ Q:=λs H =>
 wpAny_Compare1 (hm:=hm) (wpAny_mono (h s H) (λva s₁ ⟨a,σ₁,ha,H₁,h₁⟩=>wpAny_mono (h₁ s₁ H₁) (λvb s₂ ⟨b,σ₂,hb,H₂,h₂⟩=>h₂ va vb ha hb s₂ H₂) λu_ u_ x=>x) λu_ u_ x=>x)
theorem Qni {l r:Expr}{op:CmpOp}{pos:Pos}{Q:Bool->St->Prop}(hm:behindInMarks op r=false)
   (h:Ex C l σ (CmpK C r op (TrK C Q))):Ts C (.Compare l [op] [r] pos) σ Q:=λs H =>
 wpAny_isTrue_Compare1 (hm:=hm) (wpAny_mono (h s H) (λva s₁ ⟨a,σ₁,ha,H₁,h₁⟩=>wpAny_mono (h₁ s₁ H₁) (λvb s₂ ⟨b,σ₂,hb,H₂,h₂⟩ =>
   wpAny_mono (h₂ va vb ha hb s₂ H₂) (λvc s₃ ⟨c,σ₃,hc,H₃,h₃⟩=>h₃ vc hc s₃ H₃) λu_ u_ x=>x) λu_ u_ x=>x) λu_ u_ x=>x)
theorem Ts_Not {e:Expr}{pos:Pos}{Q:Bool->St->Prop}(h:Ts C e σ (NotK Q)):Ts C (.UnaryOp .Not e pos) σ Q:=λs H =>
 wpAny_isTrue_Not (wpAny_mono (h s H) (λb s' ⟨b',σ',h1,h2,h3⟩=>⟨!b',σ',by rw [h1],h2,h3⟩) λu_ u_ x=>x)
theorem Qnj {pos:Pos}{Q:Bool->St->Prop}(h:Q true σ):Ts C (.BoolOp .And [] pos) σ Q:=λs H=>wpAny_isTrue_BoolOp (wpAny_allTrue_And_nil ⟨true,σ,rfl,H,h⟩)
theorem Ts_And {x:Expr}{rest:List Expr}{pos:Pos}{Q:Bool->St->Prop}(h:Ts C x σ (AndK C rest pos Q)) :
   Ts C (.BoolOp .And (x::rest) pos) σ Q:=λs H=>by
 refine wpAny_isTrue_BoolOp (wpAny_allTrue_And_cons (wpAny_mono (h s H) (λb s' hpat=>?_) λu_ u_ x=>x))
 refine smG λH_ k_=>?_
 obtain ⟨b',σ',h1,h2,h3⟩:=hpat
 refine k_ ?_
 clear k_ H_
 subst h1
 cases b' with
 | true=>exact h3 s' h2
 | false=>exact ⟨false,σ',rfl,h2,h3⟩
theorem Qpp {pos:Pos}{Q:Bool->St->Prop}(h:Q false σ):Ts C (.BoolOp .Or [] pos) σ Q:=λs H=>wpAny_isTrue_BoolOp (wpAny_allTrue_Or_nil ⟨false,σ,rfl,H,h⟩)
theorem Ts_Or {x:Expr}{rest:List Expr}{pos:Pos}{Q:Bool->St->Prop}(h:Ts C x σ (OrK C rest pos Q)) :
   Ts C (.BoolOp .Or (x::rest) pos) σ Q:=λs H=>by
 refine wpAny_isTrue_BoolOp (wpAny_allTrue_Or_cons (wpAny_mono (h s H) (λb s' hpat=>?_) λu_ u_ x=>x))
 refine smG λH_ k_=>?_
 obtain ⟨b',σ',h1,h2,h3⟩:=hpat
 refine k_ ?_
 clear k_ H_
 subst h1
 cases b' with
 | true=>exact ⟨true,σ',rfl,h2,h3⟩
 | false=>exact h3 s' h2
noncomputable def Qjs:Expr->Bool
 | .UnaryOp .Not _ _ | .BoolOp .. | .IfExp .. | .Compare .. => false
 | _=>true
theorem Qgg {e:Expr}{env:Env}{whole:Sem Value}(h:Qjs e=true):isTrue e env whole=(do let v <-whole;standAt e.pos;holding [v] (truthy v)):=by
 set_option tactic.hygienic true in cases e <;> first | rfl | exact Bool.noConfusion h | (rename_i op _ _;cases op <;> first | rfl | exact Bool.noConfusion h)
theorem Ts_val {e:Expr}{Q:Bool->St->Prop}(he:Qjs e=true)(h:Ex C e σ (TrK C Q)):Ts C e σ Q:=λs H=>by
 refine wpAny_isTrue_value (wpAny_mono (h s H) (λv s' ⟨m,σ',h1,h2,h3⟩=>h3 v h1 s' h2) λu_ u_ x=>x) (Qgg he)
theorem Qtb {test body orelse:Expr}{pos:Pos}{Q:MV->St->Prop}(h:Ts C test σ (λb σ'=>if b then Ex C body σ' Q else Ex C orelse σ' Q)):Ex C (.IfExp test body orelse pos) σ Q:=λs H=>by
 refine wpAny_IfExp (wpAny_mono (h s H) (λb s' hpat=>?_) λu_ u_ x=>x)
 refine smG λH_ k_=>?_
 obtain ⟨b',σ',h1,h2,h3⟩:=hpat
 refine k_ ?_
 clear k_ H_
 subst h1
 cases b' with
 | true=>exact h3 s' h2
 | false=>exact h3 s' h2
theorem Qnp {op:UnaryOp}{x:Expr}{pos:Pos}{Q:MV->St->Prop}(h:Ex C x σ (UnK C op Q)):Ex C (.UnaryOp op x pos) σ Q:=λs H =>
 wpAny_UnaryOp (wpAny_mono (h s H) (λv s' ⟨m,σ',h1,h2,h3⟩=>h3 v h1 s' h2) λu_ u_ x=>x)
theorem Qvs {v:MV}{Q:MV->St->Prop}(h:Trt C v σ (λb σ'=>Q (.bool (!b)) σ')):Una C .Not v σ Q:=λva hv s H =>
 not_value (wpAny_mono (h va hv s H) (λb s' ⟨b',σ',h1,h2,h3⟩=>⟨.bool (!b'),σ',by rw [h1];rfl,h2,h3⟩) λu_ u_ x=>x)
theorem Qv1 {x y:Expr}{pos:Pos}{Q:MV->St->Prop}(h:Ex C x σ (λv σ₁=>Trt C v σ₁ (λt σ₂=>if t then Ex C y σ₂ Q else Q v σ₂))):Ex C (.BoolOp .And [x,y] pos) σ Q:=λs H=>by
 refine wpAny_And2 (wpAny_mono (h s H) (λv s₁ ⟨m,σ₁,h1,h2,h3⟩=>wpAny_mono (h3 v h1 s₁ h2) (λt s₂ hpat=>?_) λu_ u_ x=>x) λu_ u_ x=>x)
 refine smG λH_ k_=>?_
 obtain ⟨t',σ₂,g1,g2,g3⟩:=hpat
 refine k_ ?_
 clear k_ H_
 subst g1
 cases t' with
 | true=>exact g3 s₂ g2
 | false=>exact ⟨m,σ₂,h1,g2,g3⟩
theorem Qsy {b:Bool}{Q:Bool->St->Prop}(h:Q b σ):Trt C (.bool b) σ Q:=λva hv s H=>by
 obtain rfl:va=.bool b:=hv
 exact wpAny_truthy_bool ⟨b,σ,rfl,H,h⟩
theorem Qwa {a b:Int}{Q:MV->St->Prop}(h:Q (.int (a+b)) σ):Bin C .Add (.int a) (.int b) σ Q:=λva vb ha hb s H=>by
 obtain ⟨t,rfl⟩:=ha;obtain ⟨u,rfl⟩:=hb
 exact wpAny_add_int ⟨.int (a+b),σ,⟨_,rfl⟩,H.toks _,h⟩
theorem Qv5 {a b:Int}{Q:MV->St->Prop}(h:Q (.int (a-b)) σ):Bin C .Sub (.int a) (.int b) σ Q:=λva vb ha hb s H=>by
 obtain ⟨t,rfl⟩:=ha;obtain ⟨u,rfl⟩:=hb
 exact P.sub_int ⟨.int (a-b),σ,⟨_,rfl⟩,H.toks _,h⟩
theorem Qlu {pos:Pos}{Q:List MV->St->Prop}(h:Q [] σ):Exs C pos [] σ Q:=λs H=>wpAny_items_nil ⟨[],σ,.nil,H,h⟩
theorem Qdt {pos:Pos}{e:Expr}{rest:List Expr}{Q:List MV->St->Prop}(he:starEach (e::rest) C.env=(false,eval e C.env)::starEach rest C.env)
   (h:Ex C e σ (ExsK C pos rest Q)):Exs C pos (e::rest) σ Q:=λs H =>
 wpAny_items_cons (he:=he) (wpAny_mono (h s H) (λv s₁ ⟨m,σ₁,h1,h2,h3⟩=>wpAny_mono (h3 s₁ h2) (λvs s₂ ⟨ms,σ₂,g1,g2,g3⟩=>⟨m::ms,σ₂,.cons h1 g1,g2,g3⟩) λu_ u_ x=>x) λu_ u_ x=>x)
theorem Qv0 {elts:List Expr}{pos:Pos}{Q:MV->St->Prop}(OK:C.Ok hb)(h:Exs C pos elts σ (λvs σ'=>vs.length<=lim/\∀a,Fsh C.mod σ' a->Q (.ref a) { σ' with own:=(a,.list vs)::σ'.own })):Ex C (.List elts pos) σ Q:=λs H =>
 wpAny_List (wpAny_mono (h s H) (λvs s' ⟨ms,σ',h1,h2,h3,h4⟩=>⟨by rw [<-h1.length];exact Qdg h3 Qdv,.ref _,_,rfl,h2.new (mo:=.list ms) ⟨_,_,Heap.get?_push_size _ rfl,by simpa using h1,h3⟩,h4 _ (h2.fsh OK)⟩) λu_ u_ x=>x)
theorem Qs9 {elts:List Expr}{k:Nat}{pos:Pos}{Q:MV->St->Prop}(OK:C.Ok hb)(h:Exs C pos elts σ (λvs σ'=>vs.length<=lim/\∀a,Fsh C.mod σ' a->Q (.ref a) { σ' with own:=(a,.tup vs)::σ'.own })):Ex C (.Tuple elts k pos) σ Q:=λs H =>
 wpAny_Tuple (wpAny_mono (h s H) (λvs s' ⟨ms,σ',h1,h2,h3,h4⟩=>⟨by rw [<-h1.length];exact Qdg h3 Qdv,.ref _,_,rfl,h2.new (mo:=.tup ms) ⟨_,_,Heap.get?_push_size _ rfl,by simpa using h1,h3⟩,h4 _ (h2.fsh OK)⟩) λu_ u_ x=>x)
end
end Mine
namespace Mine
open PySem
noncomputable def Gl (hb:Heap)(x:Str)(m:MV):Prop :=
 ∃v,VR m v/\(x == ("__debug__" : Str))=false/\∀(M:Model) (A:Around) (E:Value->Shared->Prop) (s:Shared) (env:Env) (Q:Value->Shared->Prop),
   env.globals=mainGlobals->env.builtins=builtinsNs->(∀b o,hb.get? b=some o->s.heap.get? b=some o)->Q v s->wpAny M A (loadGlobal env x) Q E s
theorem Holds.base {C:Cx}{hb:Heap}{σ:St}{s:Shared}(OK:C.Ok hb)(H:Holds C σ s):∀b o,hb.get? b=some o->s.heap.get? b=some o:=λb o h=>H.kp b o (OK.base b o h)
section
variable {C:Cx} {hb:Heap} {σ:St}
theorem Qec {x:Str}{pos:Pos}{m:MV}{Q:MV->St->Prop}(OK:C.Ok hb)(g:Gl hb x m)(hk:C.env.kindOf x=some .globalImplicit)(h:Q m σ):Ex C (.Name x pos) σ Q:=λs H=>by
 obtain ⟨v,hv,hd,hl⟩:=g
 exact Calls.Name_function_global OK.kind hk (hl _ _ _ _ _ _ OK.globals OK.builtins (H.base OK) ⟨m,σ,hv,H,h⟩) hd
noncomputable def Qgz (x:Str):Bool:=!(x == ("__debug__" : Str)) && !(x == ("__classdict__" : Str))
theorem Qin {x:Str}(h:Qgz x=true):(x == ("__debug__" : Str))=false:=by simp [Qgz] at h;simpa using h.1
theorem Qsi {x:Str}(h:Qgz x=true):(x == ("__classdict__" : Str))=false:=by simp [Qgz] at h;simpa using h.2
theorem Qs7 {x:Str}{pos:Pos}{m:MV}{Q:MV->St->Prop}(OK:C.Ok hb)(hl:look σ.loc x=some m)(hn:Qgz x=true)(h:Q m σ):Ex C (.Name x pos) σ Q:=λs H=>by
 rcases H.names x m hl with ⟨hk,mm,u,hns,hm,hv⟩ | ⟨hk | hk,c,u,hc,hu,hv⟩
 . exact wpAny_Name (wpAny_loadName_local OK.kind hk hns hm ⟨m,σ,hv,H,h⟩) (Qin hn)
 . exact wpAny_Name (wpAny_loadName_cell OK.kind hk hc hu ⟨m,σ,hv,H,h⟩) (Qin hn)
 . exact wpAny_Name (wpAny_loadName_free OK.kind hk hc hu ⟨m,σ,hv,H,h⟩ (Qsi hn)) (Qin hn)
noncomputable def Qb6 (C:Cx)(x:Str)(m:MV)(σ:St)(Q:St->Prop):Prop:=∀v,VR m v->Tr C (storeName C.env x v) (λ(_:Unit) (_:Unit)=>True) σ (λu_ σ'=>Q σ')
theorem Qlo {x:Str}{m:MV}{Q:St->Prop}(OK:C.Ok hb)(hk:C.env.kindOf x=some .local)(h:Q { σ with loc:=put σ.loc x m }):Qb6 C x m σ Q:=λv hv s H=>by
 obtain ⟨mm,hns⟩:=H.ns
 refine wpAny_storeName_local hk hns (λh' hn' hs'=>?_) (by rw [OK.kind];rfl)
 refine ⟨(),{ σ with loc:=put σ.loc x m },trivial,?_,h⟩
 have e:=hs'.extBut
 have mfr:C.env.locals∈σ.own.map (·.1)++C.fr:=Qbv _ OK.locals
 have kne:∀b o,C.kp b o->b≠C.env.locals:=λb o hk' e'=>H.apartK _ mfr o (e' ▸ hk')
 exact {
   kp:=λb o hk'=>e _ _ (kne b o hk') (H.kp _ _ hk')
   names:=λy u hy=>by
     rw [Qe8] at hy
     by_cases hxy:y=x
     . subst hxy;rw [if_pos rfl] at hy;cases hy
       exact .inl ⟨hk,_,v,hn',by simp,hv⟩
     . rw [if_neg hxy] at hy
       rcases H.names y u hy with ⟨hk2,m2,u2,hns2,hm2,hv2⟩ | ⟨hk2,c,u2,hc,hu,hv2⟩
       . refine .inl ⟨hk2,_,u2,hn',?_,hv2⟩
         show (if y=x then some v else mm y)=some u2
         rw [if_neg hxy]
         obtain ⟨o1,es1,ep1,a1,b1,c1,d1⟩:=hns
         obtain ⟨o2,es2,ep2,a2,b2,c2,d2⟩:=hns2
         rw [a1] at a2;cases a2;rw [b1] at b2;cases b2
         rw [<-d1,d2];exact hm2
       . obtain ⟨ob,o1,o2⟩:=hu
         exact .inr ⟨hk2,c,u2,hc,⟨ob,e _ _ (OK.cellsNe y c hc) o1,o2⟩,hv2⟩
   ns:=⟨_,hn'⟩
   cells:=λy c hc=>let ⟨u,ob,o1,o2⟩:=H.cells y c hc;⟨u,ob,e _ _ (OK.cellsNe y c hc) o1,o2⟩
   alive:=λa ha=>by
     by_cases hal:a=C.env.locals
     . subst hal;obtain ⟨o,es,ep,ho,u_⟩:=hn';exact ⟨o,ho⟩
     . obtain ⟨o,ho⟩:=H.alive a ha;exact ⟨o,e _ _ hal ho⟩
   B:=λa o ha=>(H.B a o ha).at λob hob=>e _ _ (λe'=>by rw [e',H.apartB _ mfr] at ha;cases ha) hob
   own:=λp hp=>(H.own p hp).at λob hob=>e _ _ (λe'=>(Qdi.mp H.nodup).2.2 _ (Qc6.mpr ⟨p,hp,rfl⟩) _ OK.locals e') hob
   al:=λa ha=>by
     by_cases hal:a=C.env.locals
     . subst hal;obtain ⟨o,es,ep,ho,u_⟩:=hn';exact ⟨o,ho⟩
     . obtain ⟨o,ho⟩:=H.al a ha;exact ⟨o,e _ _ hal ho⟩
   nodup:=H.nodup,apartB:=H.apartB,apartK:=H.apartK,gens:=H.gens,os:=H.os,B0:=H.B0,Bnew:=H.Bnew,ownNew:=H.ownNew,noB:=H.noB }
theorem Qnk {x:Str}{m:MV}{Q:St->Prop}(OK:C.Ok hb)(hk:C.env.kindOf x=some .cell)(hc:∃c,C.env.cells.lookup x=some c/\c∈C.fr)(h:Q { σ with loc:=put σ.loc x m }):Qb6 C x m σ Q:=λv hv s H=>by
 obtain ⟨c,hc,hfr⟩:=hc
 obtain ⟨u0,hu0⟩:=H.cells x c hc
 refine wpAny_storeName_cell OK.kind hk hc hu0 λh' hn' hs'=>?_
 refine ⟨(),{ σ with loc:=put σ.loc x m },trivial,?_,h⟩
 have e:=hs'.extBut
 have mfr:c∈σ.own.map (·.1)++C.fr:=Qbv _ hfr
 have lne:C.env.locals≠c:=λe'=>OK.cellsNe x c hc e'.symm
 exact {
   kp:=λb o hk'=>e _ _ (λe'=>H.apartK _ mfr o (e' ▸ hk')) (H.kp _ _ hk')
   names:=λy u hy=>by
     rw [Qe8] at hy
     by_cases hxy:y=x
     . subst hxy;rw [if_pos rfl] at hy;cases hy
       exact .inr ⟨.inl hk,c,v,hc,hn',hv⟩
     . rw [if_neg hxy] at hy
       exact (H.names y u hy).extBut e lne λc' hc' e'=>hxy (OK.cellsInj y x c (e' ▸ hc') hc)
   ns:=let ⟨mm,hns⟩:=H.ns;⟨mm,hns.extBut e lne⟩
   cells:=λy c' hc'=>by
     by_cases hcc:c'=c
     . subst hcc;exact ⟨_,hn'⟩
     . obtain ⟨u,ob,o1,o2⟩:=H.cells y c' hc';exact ⟨u,ob,e _ _ hcc o1,o2⟩
   alive:=λa ha=>by
     by_cases hal:a=c
     . subst hal;obtain ⟨o,ho,u_⟩:=hn';exact ⟨o,ho⟩
     . obtain ⟨o,ho⟩:=H.alive a ha;exact ⟨o,e _ _ hal ho⟩
   B:=λa o ha=>(H.B a o ha).at λob hob=>e _ _ (λe'=>by rw [e',H.apartB _ mfr] at ha;cases ha) hob
   own:=λp hp=>(H.own p hp).at λob hob=>e _ _ (λe'=>(Qdi.mp H.nodup).2.2 _ (Qc6.mpr ⟨p,hp,rfl⟩) _ hfr e') hob
   al:=λa ha=>by
     by_cases hal:a=c
     . subst hal;obtain ⟨o,ho,u_⟩:=hn';exact ⟨o,ho⟩
     . obtain ⟨o,ho⟩:=H.al a ha;exact ⟨o,e _ _ hal ho⟩
   nodup:=H.nodup,apartB:=H.apartB,apartK:=H.apartK,gens:=H.gens,os:=H.os,B0:=H.B0,Bnew:=H.Bnew,ownNew:=H.ownNew,noB:=H.noB }
abbrev AsK (C:Cx)(x:Str)(Q:MF->St->Prop):MV->St->Prop:=λv σ'=>Qb6 C x v σ' (NextK Q)
abbrev DropK (Q:MF->St->Prop):MV->St->Prop:=λu_ σ'=>Q .next σ'
theorem Qf7 {x:Str}{p':Pos}{e:Expr}{pos:Pos}{Q:MF->St->Prop}(hs:swapsWith e (some (.Name x p')) pos.line C.env=pure false)
   (h:Ex C e σ (AsK C x Q)):Stm C (.Assign [.Name x p'] e pos) σ Q:=λs H =>
 wpAny_Assign_Name (hs:=hs) (wpAny_mono (h s H) (λv s₁ ⟨m,σ₁,h1,h2,h3⟩=>wpAny_mono (h3 v h1 s₁ h2) (λu_ s₂ ⟨_,σ₂,_,g2,g3⟩=>⟨.next,σ₂,rfl,g2,g3⟩) λu_ u_ x=>x) λu_ u_ x=>x)
theorem Qgo {prog:Program}{w:World}{A:Around}{E:Value->Shared->Prop}{s:Shared}{e:Expr}{pos:Pos}{v:Value}{Q:Flow->Shared->Prop}(h:Q .next s):wpAny (model prog w) A (dropValue e pos v) Q E s:=by
 unfold dropValue
 split
 . exact wpAny_pure h
 . exact wpAny_bind (wpAny_standAt (wpAny_bind (wpAny_runValue (codeAny_builtin entry_let_go (show wpAny _ _ (ret .none) _ _ s from wpAny_pure (wpAny_pure h))))))
 . exact wpAny_pure h
theorem Qs3 {e:Expr}{pos:Pos}{Q:MF->St->Prop}(hi:interactive C.env=false)(hs:swapsWith e none pos.line C.env=pure false)
   (h:Ex C e σ (DropK Q)):Stm C (.Expr e pos) σ Q:=λs H=>by
 show wpAny _ _ (exec (.Expr e pos) C.env) _ _ s
 rw [exec_Expr C.env e pos hi hs]
 exact wpAny_bind (wpAny_standAt (wpAny_bind (wpAny_mono (h s H) (λv s' ⟨m,σ',h1,h2,h3⟩=>Qgo ⟨.next,σ',rfl,h2,h3⟩) λu_ u_ x=>x)))
end
end Mine
namespace Mine
open PySem
abbrev MH:=Addr->Option MO
abbrev Own:=List (Addr×MO)
abbrev Spec:=List MV->MH->Own->(MV->MH->Own->Prop)->Prop
noncomputable def Contract (prog:Program)(w:World)(hb:Heap)(f:Value)(n:Nat)(S:Spec):Prop :=
 ∀(A:Around) (s:Shared) (args:List MV) (vals:List Value) (B:MH) (own₁:Own) (Q:MV->MH->Own->Prop),
   A.handled=none->A.depth+n<recursionLimit->A.units+3*n+100<cLine ->
   (∀b o,hb.get? b=some o->s.heap.get? b=some o)->(∀a o,B a=some o->OR s.heap a o)->(∀p∈own₁,OR s.heap p.1 p.2)->(own₁.map (·.1)).Nodup ->
   (∀a∈own₁.map (·.1),B a=none/\hb.get? a=none)->VsR args vals->S args B own₁ Q ->
   wpAny (model prog w) A (call f vals) (λv s'=>∃m B' own',VR m v/\(∀b o,b∉own₁.map (·.1)->s.heap.get? b=some o->s'.heap.get? b=some o)/\s'.gens=s.gens/\s'.os=s.os /\
     (∀a,(∃o,s.heap.get? a=some o)->∃o,s'.heap.get? a=some o) /\
     (∀a o,B a=some o->B' a=some o)/\(∀a o,B' a=some o->OR s'.heap a o)/\(∀a o,B' a=some o->B a=some o\/s.heap.get? a=none) /\
     (∀p∈own',OR s'.heap p.1 p.2)/\(own'.map (·.1)).Nodup/\(∀a∈own'.map (·.1),B' a=none/\(s.heap.get? a=none\/a∈own₁.map (·.1)))/\Q m B' own') (λu_ u_=>False) s
section
variable {C:Cx} {hb:Heap} {σ:St}
theorem Holds.perm {s:Shared}{own':Own}(H:Holds C σ s)(p:σ.own.Perm own'):Holds C { σ with own:=own' } s:=by
 have pk:(σ.own.map (·.1)).Perm (own'.map (·.1)):=p.map _
 exact {
   kp:=H.kp,names:=H.names,ns:=H.ns,cells:=H.cells,alive:=H.alive,B:=H.B,gens:=H.gens,os:=H.os,al:=H.al,B0:=H.B0,Bnew:=H.Bnew,noB:=H.noB
   own:=λq hq=>H.own q (p.mem_iff.mpr hq)
   nodup:=(pk.append_right C.fr).nodup_iff.mp H.nodup
   apartB:=λa ha=>H.apartB a ((pk.append_right C.fr).mem_iff.mpr ha)
   apartK:=λa ha=>H.apartK a ((pk.append_right C.fr).mem_iff.mpr ha)
   ownNew:=λq hq=>H.ownNew q (p.mem_iff.mpr hq) }
theorem Qbb {h:Heap}{a:Addr}(e:¬∃o,h.get? a=some o):h.get? a=none:=by
 cases h':h.get? a with
 | none=>rfl
 | some o=>exact absurd ⟨o,h'⟩ e
theorem Holds.called {s s':Shared}(OK:C.Ok hb){own₁ rest own':Own}{B':MH}(H:Holds C σ s)(hp:σ.own=own₁++rest)
   (k:∀b o,b∉own₁.map (·.1)->s.heap.get? b=some o->s'.heap.get? b=some o) (hg:s'.gens=s.gens) (hos:s'.os=s.os)
   (al:∀a,(∃o,s.heap.get? a=some o)->∃o,s'.heap.get? a=some o)
   (b1:∀a o,σ.B a=some o->B' a=some o) (b2:∀a o,B' a=some o->OR s'.heap a o) (b3:∀a o,B' a=some o->σ.B a=some o\/s.heap.get? a=none)
   (o1:∀p∈own',OR s'.heap p.1 p.2) (o2:(own'.map (·.1)).Nodup) (o3:∀a∈own'.map (·.1),B' a=none/\(s.heap.get? a=none\/a∈own₁.map (·.1))) :
   Holds C { σ with B:=B',own:=own'++rest } s':=by
 have nd:=H.nodup
 rw [hp,Qd1,Qwr] at nd
 have nd':=Qdi.mp nd
 have aB:=H.apartB;have aK:=H.apartK;have oN:=H.ownNew;have hO:=H.own
 rw [hp] at aB aK oN hO
 have in1:∀a,a∈own₁.map (·.1)->a∈(own₁++rest).map (·.1)++C.fr:=λa ha=>Qaq _ (by rw [Qd1];exact Qaq _ ha)
 have inR:∀a,a∈rest.map (·.1)++C.fr->a∈(own₁++rest).map (·.1)++C.fr:=λa ha=>by rw [Qd1,Qwr];exact Qbv _ ha
 have rne:∀a,a∈rest.map (·.1)++C.fr->a∉own₁.map (·.1):=λa ha h1=>nd'.2.2 a h1 a ha rfl
 have frne:∀a∈C.fr,a∉own₁.map (·.1):=λa ha=>rne a (Qbv _ ha)
 have kne:∀b o,C.kp b o->b∉own₁.map (·.1):=λb o hk hm=>aK b (in1 b hm) o hk
 have cne:∀x c,C.env.cells.lookup x=some c->c∉own₁.map (·.1):=λx c hc=>(OK.cellsIn x c hc).elim (frne c) λ⟨o,ho⟩=>kne c o ho
 have aliveR:∀a∈rest.map (·.1)++C.fr,∃o,s.heap.get? a=some o:=λa ha=>by
   rcases Qaz.mp ha with h | h
   . refine smG λH_ k_=>?_
     obtain ⟨p,hp',e⟩:=Qc6.mp h
     refine k_ ?_
     clear k_ H_
     refine smG λH_ k_=>?_
     obtain ⟨ob,hob⟩:=(hO p (Qbv _ hp')).alive
     refine k_ ?_
     clear k_ H_
     exact ⟨ob,e ▸ hob⟩
   . exact H.alive a h
 exact {
   kp:=λb o hk=>k b o (kne b o hk) (H.kp b o hk)
   names:=λx v hv=>by
     rcases H.names x v hv with ⟨hk,m,u,⟨o,es,ep,h1,h2⟩,hm,hv'⟩ | ⟨hk,c,u,hc,⟨ob,h1,h2⟩,hv'⟩
     . exact .inl ⟨hk,m,u,⟨o,es,ep,k _ _ (frne _ OK.locals) h1,h2⟩,hm,hv'⟩
     . exact .inr ⟨hk,c,u,hc,⟨ob,k _ _ (cne x c hc) h1,h2⟩,hv'⟩
   ns:=let ⟨m,o,es,ep,h1,h2⟩:=H.ns;⟨m,o,es,ep,k _ _ (frne _ OK.locals) h1,h2⟩
   cells:=λx c hc=>let ⟨u,ob,h1,h2⟩:=H.cells x c hc;⟨u,ob,k _ _ (cne x c hc) h1,h2⟩
   alive:=λa ha=>al a (H.alive a ha)
   B:=b2
   own:=λp hp'=>by
     rcases Qaz.mp hp' with h | h
     . exact o1 p h
     . exact (hO p (Qbv _ h)).at λob hob=>k _ _ (rne p.1 (Qaq _ (Qc6.mpr ⟨p,h,rfl⟩))) hob
   nodup:=by
     show ((own'++rest).map (·.1)++C.fr).Nodup
     rw [Qd1,Qwr]
     refine Qdi.mpr ⟨o2,nd'.2.1,λa ha b hb' e=>?_⟩
     subst e
     rcases (o3 a ha).2 with h | h
     . obtain ⟨ob,hob⟩:=aliveR a hb';rw [h] at hob;cases hob
     . exact rne a hb' h
   apartB:=λa ha=>by
     have ha':a∈own'.map (·.1)++(rest.map (·.1)++C.fr):=by rw [<-Qwr,<-Qd1];exact ha
     rcases Qaz.mp ha' with h | h
     . exact (o3 a h).1
     . cases e:B' a with
       | none=>exact e
       | some o =>
         rcases b3 a o e with h' | h'
         . rw [aB a (inR a h)] at h';cases h'
         . obtain ⟨ob,hob⟩:=aliveR a h;rw [h'] at hob;cases hob
   apartK:=λa ha o hk=>by
     have ha':a∈own'.map (·.1)++(rest.map (·.1)++C.fr):=by rw [<-Qwr,<-Qd1];exact ha
     rcases Qaz.mp ha' with h | h
     . rcases (o3 a h).2 with h' | h'
       . rw [H.kp a o hk] at h';cases h'
       . exact aK a (in1 a h') o hk
     . exact aK a (inR a h) o hk
   gens:=hg.trans H.gens
   os:=hos.trans H.os
   al:=λa ha=>al a (H.al a ha)
   B0:=λa o h=>b1 a o (H.B0 a o h)
   noB:=λa ha=>by
     cases e:B' a with
     | none=>exact e
     | some o =>
       rcases b3 a o e with h | h
       . rw [H.noB a ha] at h;cases h
       . obtain ⟨ob,hob⟩:=OK.noKp a ha;rw [H.kp a ob hob] at h;cases h
   Bnew:=λa o h=>by
     rcases b3 a o h with h' | h'
     . exact H.Bnew a o h'
     . exact .inr λha=>by obtain ⟨ob,hob⟩:=H.al a ha;rw [h'] at hob;cases hob
   ownNew:=λp hp'=>by
     rcases Qaz.mp hp' with h | h
     . rcases (o3 p.1 (Qc6.mpr ⟨p,h,rfl⟩)).2 with h' | h'
       . exact .inl λha=>by obtain ⟨ob,hob⟩:=H.al _ ha;rw [h'] at hob;cases hob
       . refine smG λH_ k_=>?_
         obtain ⟨q,hq,e⟩:=Qc6.mp h'
         refine k_ ?_
         clear k_ H_
         exact e ▸ oN q (Qaq _ hq)
     . exact oN p (Qbv _ h) }
theorem Qmu {f:Value}{n:Nat}{S:Spec}{args:List MV}{own₁ rest:Own}{Q:MV->St->Prop}(OK:C.Ok hb)(ct:Contract C.prog C.w hb f n S)(hn:n<=C.room)
   (hp:σ.own.Perm (own₁++rest)) (h:S args σ.B own₁ (λm B' own'=>Q m { σ with B:=B',own:=own'++rest })):Qb0 C f args σ Q:=λvs hvs s H=>by
 have H':=H.perm hp
 have nd:=Qdi.mp H'.nodup
 have ndo:((own₁++rest).map (·.1)).Nodup:=nd.1
 rw [Qd1] at ndo
 have in1:∀a,a∈own₁.map (·.1)->a∈(own₁++rest).map (·.1)++C.fr:=λa ha=>Qaq _ (by rw [Qd1];exact Qaq _ ha)
 refine wpAny_mono (ct C.A s args vs σ.B own₁ _ OK.handled (by have:=OK.depth;exact om268 ‹_› ‹_›) (by have:=OK.units;exact om269 ‹_› ‹_›) (H.base OK) H.B (λp hp'=>H'.own p (Qaq _ hp')) (Qdi.mp ndo).1
   (λa ha=>⟨H'.apartB a (in1 a ha),Qbb λ⟨o,ho⟩=>H'.apartK a (in1 a ha) o (OK.base a o ho)⟩) hvs h) (λv s' hpat=>?_) λu_ u_ x=>x
 refine smG λH_ k_=>?_
 obtain ⟨m,B',own',h1,k,hg,hos,al,b1,b2,b3,o1,o2,o3,hq⟩:=hpat
 refine k_ ?_
 clear k_ H_
 exact ⟨m,_,h1,Holds.called (σ:={ σ with own:=own₁++rest }) OK H' rfl k hg hos al b1 b2 b3 o1 o2 o3,hq⟩
theorem Qrs {f:Value}{n:Nat}{S:Spec}{args:List MV}{Q:MV->St->Prop}(OK:C.Ok hb)(ct:Contract C.prog C.w hb f n S)(hn:n<=C.room)
   (h:S args σ.B [] (λm B' own'=>Q m { σ with B:=B',own:=own'++σ.own })):Qb0 C f args σ Q:=Qmu (own₁:=[]) (rest:=σ.own) OK ct hn (List.Perm.refl _) h
end
noncomputable def Qud:MF->MV
 | .next=>.none
 | .ret v=>v
structure FnIs (hb:Heap)(f:Addr)(ps:List Str)(body:List Stmt)(scope:Scope):Prop where
 ex:∃o fd,hb.get? f=some o/\o.data=.func fd/\fd.body=.stmts body/\fd.scope=scope/\fd.closure=[]/\fd.globals=mainGlobals/\fd.builtins=builtinsNs/\hb.CodeRec fd.code fd.qualname /\
   (∀vals:List Value,vals.length=ps.length->bindArgs fd ⟨vals,[]⟩=pure (ps.zip vals))
 co:scope.isCoroutine=false
 gen:scope.isGenerator=false
 kind:scope.kind=.function
 pkind:∀x∈ps,scope.names.lookup x=some .local\/scope.names.lookup x=some .cell
 nodup:ps.Nodup
 ndNames:(scope.names.map (·.1)).Nodup
 noFree:∀x,scope.names.lookup x≠some .free
theorem Qbu {x:Str}:∀(names:List (Str×NameKind)) (n:Nat) (acc:List (Str×Addr)),names.lookup x=some .cell\/(acc.lookup x).isSome=true->((cellsFrom n names acc).lookup x).isSome=true
 | [],_,_,h=>h.elim (λe=>by cases e) id
 | (y,k)::r,n,acc,h=>by
   unfold cellsFrom
   set_option tactic.hygienic true in split
   . rename_i hk
     refine Qbu r (n+1) _ ?_
     by_cases hy:(x == y)=true
     . exact .inr (by rw [Qwe,hy];rfl)
     . have hy':(x == y)=false:=by simpa using hy
       refine h.imp (λe=>?_) λe=>?_
       . rw [Qwe,hy'] at e;exact e
       . rw [Qwe,hy'];exact e
   . rename_i hk
     refine Qbu r n acc ?_
     by_cases hy:(x == y)=true
     . refine .inr (h.elim (λe=>?_) id)
       rw [Qwe,hy] at e
       exact absurd (by rw [Option.some.inj e];rfl) hk
     . have hy':(x == y)=false:=by simpa using hy
       refine h.imp (λe=>?_) id
       rw [Qwe,hy'] at e;exact e
theorem Qc4:∀(names:List (Str×NameKind)) (n:Nat) (acc:List (Str×Addr)),(cellsFrom n names acc).map (·.1)=((names.filter λx=>x.2 == .cell).map (·.1)).reverse++acc.map (·.1)
 | [],_,_=>rfl
 | (y,k)::r,n,acc=>by
   unfold cellsFrom
   set_option tactic.hygienic true in split
   . rename_i hk
     rw [Qc4 r,Qz9];simp [hk]
   . rename_i hk
     rw [Qc4 r,Qz9];simp [hk]
theorem Qe7:∀(l:List (Str×Addr)) (p:Str×Addr),(l.map (·.1)).Nodup->p∈l->l.lookup p.1=some p.2
 | q::r,p,nd,h=>by
   have nd':=Qnn.mp nd
   rcases Qch.mp h with e | e
   . subst e;simp [List.lookup]
   . have hne:(p.1 == q.1)=false:=by
       cases hb2:p.1 == q.1 with
       | false=>rfl
       | true=>exact absurd (Qc6.mpr ⟨p,e,beq_iff_eq.mp hb2⟩) nd'.1
     rw [Qwe,hne];exact Qe7 r p nd'.2 e
theorem Qh9 {kindOf:Str->Option NameKind}:∀(binds:List (Str×Value)) (acc:Str->Option Value) (x:Str),x∉binds.map (·.1)->bindL kindOf binds acc x=acc x
 | [],_,_,_=>rfl
 | (n,v)::r,acc,x,h=>by
   simp only [Qwk,Qch,not_or] at h
   unfold bindL
   rw [Qh9 r _ x h.2]
   split
   . exact if_neg h.1
   . rfl
theorem Qia {kindOf:Str->Option NameKind}:∀(binds:List (Str×Value)) (acc:Str->Option Value) (x:Str),x∉binds.map (·.1)->bindC kindOf binds acc x=acc x
 | [],_,_,_=>rfl
 | (n,v)::r,acc,x,h=>by
   simp only [Qwk,Qch,not_or] at h
   unfold bindC
   rw [Qia r _ x h.2]
   split
   . rfl
   . exact if_neg h.1
theorem Qpj {kindOf:Str->Option NameKind}(binds:List (Str×Value)):∀(acc:Str->Option Value) (x:Str) (v:Value),(binds.map (·.1)).Nodup->(x,v)∈binds->kindOf x=some .local->bindL kindOf binds acc x=some v:=by
 induction binds with
 | nil=>intro acc x v _ hm;cases hm
 | cons p r ih =>
   intro acc x v nd hm hk
   have nd':=Qnn.mp nd
   unfold bindL
   rcases Qch.mp hm with e | e
   . cases e
     rw [Qh9 r _ _ nd'.1,if_pos hk];exact if_pos rfl
   . exact ih _ x v nd'.2 e hk
theorem Qpk {kindOf:Str->Option NameKind}(binds:List (Str×Value)):∀(acc:Str->Option Value) (x:Str) (v:Value),(binds.map (·.1)).Nodup->(x,v)∈binds->kindOf x=some .cell->bindC kindOf binds acc x=some v:=by
 induction binds with
 | nil=>intro acc x v _ hm;cases hm
 | cons p r ih =>
   intro acc x v nd hm hk
   have nd':=Qnn.mp nd
   unfold bindC
   rcases Qch.mp hm with e | e
   . cases e
     rw [Qia r _ _ nd'.1,if_neg (by rw [hk];simp)];exact if_pos rfl
   . exact ih _ x v nd'.2 e hk
theorem Qsk {ps:List Str}:∀{args:List MV} {vals:List Value},VsR args vals->∀{x:Str} {m:MV},look (ps.zip args) x=some m->x∈ps/\∃v,(x,v)∈ps.zip vals/\VR m v:=by
 induction ps with
 | nil=>intro args vals _ x m h;simp [look] at h
 | cons p r ih =>
   intro args vals hv x m h
   cases hv with
   | nil=>simp [look] at h
   | cons h1 h2 =>
     simp only [Qzw,look] at h
     by_cases hx:x=p
     . subst hx;rw [if_pos rfl] at h;cases h
       exact ⟨.head _,_,.head _,h1⟩
     . rw [if_neg hx] at h
       refine smG λH_ k_=>?_
       obtain ⟨e1,v,e2,e3⟩:=ih h2 h
       refine k_ ?_
       clear k_ H_
       exact ⟨.tail _ e1,v,.tail _ e2,e3⟩
theorem Qie {α:Type}:∀{ps:List Str} {vs:List α},vs.length=ps.length->(ps.zip vs).map (·.1)=ps
 | [],[],_=>rfl
 | p::ps,v::vs,h=>by simp only [Qzw,Qwk];rw [Qie (by simpa using h)]
 | [],_::_,h=>by simp at h
 | _::_,[],h=>by simp at h
theorem Contract.intro {prog:Program}{w:World}{hb:Heap}{f:Addr}{ps:List Str}{body:List Stmt}{scope:Scope}{n:Nat}{S:Spec}(F:FnIs hb f ps body scope)(hlim:hb.NoLimit)
   (hS:∀args B own Q,S args B own Q->args.length=ps.length)
   (h:∀(C:Cx),C.Ok hb->C.prog=prog->C.w=w->C.env.scope=scope->C.room=n->(∀x c,C.env.cells.lookup x=some c->c∈C.fr)->(∀x,scope.names.lookup x=some .cell->∃c,C.env.cells.lookup x=some c) ->
     ∀args B own Q,C.mod=own.map (·.1)->C.B0=B->S args B own Q->Sts C body ⟨ps.zip args,B,own⟩ (λfl σ'=>Q (Qud fl) σ'.B σ'.own)):Contract prog w hb (.ref f) (n+1) S:=by
 intro A s args vals B own₁ Q hh hd hu hbs hB hO hnd hap hv hs
 refine smG λH_ k_=>?_
 obtain ⟨o,fd,ho,hdata,hbody,rfl,hclo,hglob,hbi,hcd,hbind⟩:=F.ex
 refine k_ ?_
 clear k_ H_
 have hlen:args.length=ps.length:=hS _ _ _ _ hs
 have hvl:vals.length=ps.length:=hv.length ▸ hlen
 refine wpAny_call (codeAny_call_cells (by exact om270 ‹_›) (hbs _ _ ho) hdata (hlim.keeps hbs) (hcd.keeps hbs) hbody (hbind vals hvl) hclo (λx hx=>?_) (λs₁ I=>?_) F.co F.gen F.kind)
 . have hm:x.1∈ps:=by rw [<-Qie hvl];exact Qc6.mpr ⟨x,hx,rfl⟩
   rcases F.pkind x.1 hm with h1 | h1
   . exact .inl h1
   . exact .inr ⟨h1,Qbu _ _ _ (.inl h1)⟩
 generalize henv:callEnvC fd s.heap.objs.size f=env at I ⊢
 have hsc:env.scope=fd.scope:=by rw [<-henv];rfl
 have hL:env.locals=s.heap.objs.size:=by rw [<-henv];rfl
 have hcl:env.cells=cellsFrom (s.heap.objs.size+1) fd.scope.names []:=by rw [<-henv];rfl
 have hgl:env.globals=mainGlobals:=by rw [<-henv];exact hglob
 have hbu:env.builtins=builtinsNs:=by rw [<-henv];exact hbi
 have keep:=I.toInCall.keep
 refine smG λH_ k_=>?_
 obtain ⟨h₁,tk,rfl⟩:=I.toInCall.same
 refine k_ ?_
 clear k_ H_
 have fresh:∀a,s.heap.objs.size<=a->s.heap.get? a=none:=λa ha=>Qbb λ⟨o,ho⟩=>Qyp _ (Qzu (Heap.lt_size ho) ha)
 have cabove:∀x c,env.cells.lookup x=some c->s.heap.objs.size<c:=λx c hc=>hL ▸ I.above x c (mem_of_lookup hc)
 let C:Cx:=Cx.mk prog w (A.deeper env) env (env.locals::env.cells.map (·.2)) (λb o=>s.heap.get? b=some o/\b∉own₁.map (·.1)) s.gens s.os n (λa=>∃o,s.heap.get? a=some o) (own₁.map (·.1)) B (λu_=>False)
 have frfresh:∀a∈env.locals::env.cells.map (·.2),s.heap.get? a=none:=λa ha=>by
   rcases Qch.mp ha with rfl | ha
   . exact fresh _ (hL ▸ Qwb _)
   . refine smG λH_ k_=>?_
     obtain ⟨p,hp,rfl⟩:=Qc6.mp ha
     refine k_ ?_
     clear k_ H_
     exact fresh _ (hL ▸ Qxb (I.above p.1 p.2 hp))
 have frnd:(env.locals::env.cells.map (·.2)).Nodup:=by
   refine Qnn.mpr ⟨λhm=>?_,?_⟩
   . refine smG λH_ k_=>?_
     obtain ⟨p,hp,e⟩:=Qc6.mp hm
     refine k_ ?_
     clear k_ H_
     exact Qyp _ (e ▸ I.above p.1 p.2 hp)
   . exact List.Pairwise.map _ (λa b hab=>hab) I.apart
 have OK:C.Ok hb:={
   handled:=hh
   depth:=by show A.depth+1+n<_;exact om271 ‹_›
   units:=by show A.units+3+3*n+100<_;exact om272 ‹_›
   kind:=hsc ▸ F.kind
   globals:=hgl,builtins:=hbu,locals:=.head _
   cellsIn:=λx c hc=>.inl (.tail _ (Qc6.mpr ⟨(x,c),mem_of_lookup hc,rfl⟩))
   cellsNe:=λx c hc e=>Qyp _ (e ▸ hL ▸ cabove x c hc)
   cellsInj:=λx y c h1 h2=>name_of_addr I.apart (mem_of_lookup h1) (mem_of_lookup h2)
   apart:=λa ha o hk=>by have:=frfresh a ha;rw [hk.1] at this;cases this
   base:=λb o hbo=>⟨hbs _ _ hbo,λhm=>by rw [(hap b hm).2] at hbo;cases hbo⟩
   modAl:=λa ha=>by obtain ⟨p,hp,rfl⟩:=Qc6.mp ha;exact (hO p hp).alive
   noKp:=λu_ h=>h.elim }
 have H:Holds C ⟨ps.zip args,B,own₁⟩ { s with heap:=h₁,toks:=tk }:={
   kp:=λb o hk=>keep b o hk.1
   names:=λx v hx=>by
     refine smG λH_ k_=>?_
     obtain ⟨hp,u,hm,hr⟩:=Qsk hv hx
     refine k_ ?_
     clear k_ H_
     have hz:((ps.zip vals).map (·.1)).Nodup:=by rw [Qie hvl];exact F.nodup
     rcases F.pkind x hp with h1 | h1
     . have hk:env.kindOf x=some .local:=by unfold Env.kindOf;rw [hsc];exact h1
       exact .inl ⟨hk,_,u,I.toInCall.ns,Qpj _ _ x u hz hm hk,hr⟩
     . have hk:env.kindOf x=some .cell:=by unfold Env.kindOf;rw [hsc];exact h1
       have hsome:=Qbu fd.scope.names (s.heap.objs.size+1) [] (.inl h1)
       rw [<-hcl] at hsome
       refine smG λH_ k_=>?_
       obtain ⟨c,hc⟩:=Qy3.mp hsome
       refine k_ ?_
       clear k_ H_
       refine .inr ⟨.inl hk,c,u,hc,?_,hr⟩
       have:=I.cell x c hc
       rw [Qpk _ _ x u hz hm hk] at this
       exact this
   ns:=⟨_,I.toInCall.ns⟩
   cells:=λx c hc=>⟨_,I.cell x c hc⟩
   alive:=λa ha=>by
     rcases Qch.mp ha with rfl | ha
     . obtain ⟨o,es,ep,ho,u_⟩:=I.toInCall.ns;exact ⟨o,ho⟩
     . refine smG λH_ k_=>?_
       obtain ⟨p,hp,rfl⟩:=Qc6.mp ha
       refine k_ ?_
       clear k_ H_
       have hlk:env.cells.lookup p.1=some p.2:=by
         refine Qe7 _ p ?_ hp
         rw [hcl,Qc4]
         simp only [List.map_nil,Qxv]
         refine (Qyc _).nodup_iff.mpr ?_
         exact List.Sublist.nodup (List.Sublist.map _ Qxo) F.ndNames
       refine smG λH_ k_=>?_
       obtain ⟨ob,h1,u_⟩:=I.cell p.1 p.2 hlk
       refine k_ ?_
       clear k_ H_
       exact ⟨ob,h1⟩
   B:=λa o ha=>(hB a o ha).at λob=>keep _ _
   own:=λp hp=>(hO p hp).at λob=>keep _ _
   nodup:=Qdi.mpr ⟨hnd,frnd,λa ha b hb' e=>by
     subst e
     refine smG λH_ k_=>?_
     obtain ⟨p,hp,rfl⟩:=Qc6.mp ha
     refine k_ ?_
     clear k_ H_
     refine smG λH_ k_=>?_
     obtain ⟨ob,hob⟩:=(hO p hp).alive
     refine k_ ?_
     clear k_ H_
     rw [frfresh _ hb'] at hob;cases hob⟩
   apartB:=λa ha=>by
     rcases Qaz.mp ha with h1 | h1
     . exact (hap a h1).1
     . cases e:B a with
       | none=>exact e
       | some o=>obtain ⟨ob,hob⟩:=(hB a o e).alive;rw [frfresh a h1] at hob;cases hob
   apartK:=λa ha o hk=>by
     rcases Qaz.mp ha with h1 | h1
     . exact hk.2 h1
     . have:=frfresh a h1;rw [hk.1] at this;cases this
   gens:=rfl,os:=rfl
   al:=λa ⟨o,ho⟩=>⟨o,keep _ _ ho⟩
   B0:=λu_ u_ h=>h
   Bnew:=λu_ u_ h=>.inl h
   noB:=λu_ h=>h.elim
   ownNew:=λp hp=>.inr (Qc6.mpr ⟨p,hp,rfl⟩) }
 refine wpAny_mono (h C OK rfl rfl hsc rfl (λx c hc=>.tail _ (Qc6.mpr ⟨(x,c),mem_of_lookup hc,rfl⟩)) (λx hx=>?_) args B own₁ Q rfl rfl hs _ H) (λfl s' ⟨b,σ',hf,H',hq⟩=>?_) λu_ u_ x=>x.elim
 . have hsome:=Qbu fd.scope.names (s.heap.objs.size+1) [] (.inl hx)
   rw [<-hcl] at hsome
   exact Qy3.mp hsome
 refine ⟨Qud b,σ'.B,σ'.own,?_,λb' o hb' ho'=>H'.kp b' o ⟨ho',hb'⟩,H'.gens,H'.os,H'.al,H'.B0,H'.B,λa o ha=>(H'.Bnew a o ha).imp id Qbb,H'.own,(Qdi.mp H'.nodup).1,
   λa ha=>⟨H'.apartB a (Qaq _ ha),?_⟩,hq⟩
 . cases b with
   | next=>obtain rfl:fl=.next:=hf;rfl
   | ret m=>obtain ⟨v,rfl,hv'⟩:=hf;exact hv'
 . refine smG λH_ k_=>?_
   obtain ⟨p,hp,rfl⟩:=Qc6.mp ha
   refine k_ ?_
   clear k_ H_
   exact (H'.ownNew p hp).imp Qbb id
end Mine
namespace Mine
open PySem
structure Fx (C:Cx)(hb:Heap)(prog:Program)(w:World)(sc:Scope)(n:Nat)(md:List Addr)(fl:Bool):Prop where
 ok:C.Ok hb
 eprog:C.prog=prog
 ew:C.w=w
 esc:C.env.scope=sc
 eroom:C.room=n
 emod:C.mod=md
 cell:∀x,sc.names.lookup x=some .cell\/sc.names.lookup x=some .free->∃c,C.env.cells.lookup x=some c
 full:fl=true->∀x,sc.names.lookup x=some .cell->∃c,C.env.cells.lookup x=some c/\c∈C.fr
noncomputable def Cx.hide (C:Cx)(h:Heap)(X wr:List Addr):Cx:={ C with kp:=λb o=>C.kp b o\/(b∈X/\h.get? b=some o),no:=λa=>C.no a\/a∈wr }
section
variable {C:Cx} {hb:Heap} {prog:Program} {w:World} {sc:Scope} {n:Nat} {md:List Addr} {fl:Bool} {σ:St}
theorem Cx.Ok.hide (OK:C.Ok hb){h:Heap}{X wr:List Addr}(hX:∀a∈X,a∉C.fr)(hw:∀a∈wr,a∈X/\∃o,h.get? a=some o):(C.hide h X wr).Ok hb where
 handled:=OK.handled
 depth:=OK.depth
 units:=OK.units
 kind:=OK.kind
 globals:=OK.globals
 builtins:=OK.builtins
 locals:=OK.locals
 cellsIn:=λx c hc=>(OK.cellsIn x c hc).imp id λ⟨o,ho⟩=>⟨o,.inl ho⟩
 cellsNe:=OK.cellsNe
 cellsInj:=OK.cellsInj
 apart:=λa ha o hk=>hk.elim (OK.apart a ha o) λhk=>hX a hk.1 ha
 base:=λb o h=>.inl (OK.base b o h)
 modAl:=OK.modAl
 noKp:=λa ha=>ha.elim (λh=>let ⟨o,ho⟩:=OK.noKp a h;⟨o,.inl ho⟩) λh=>let ⟨h1,o,ho⟩:=hw a h;⟨o,.inr ⟨h1,ho⟩⟩
theorem Fx.hide (F:Fx C hb prog w sc n md fl){h:Heap}{X wr:List Addr}(hX:∀a∈X,a∉C.fr)(hw:∀a∈wr,a∈X/\∃o,h.get? a=some o):Fx (C.hide h X wr) hb prog w sc n md fl where
 ok:=F.ok.hide hX hw
 eprog:=F.eprog
 ew:=F.ew
 esc:=F.esc
 eroom:=F.eroom
 emod:=F.emod
 cell:=F.cell
 full:=F.full
theorem Holds.hide {s:Shared}(H:Holds C σ s){X wr:List Addr}(hX:∀a∈X,a∉σ.own.map (·.1)++C.fr)(hw:∀a∈wr,σ.B a=none):Holds (C.hide s.heap X wr) σ s where
 kp:=λb o h=>h.elim (H.kp b o) λh=>h.2
 names:=H.names
 ns:=H.ns
 cells:=H.cells
 alive:=H.alive
 B:=H.B
 own:=H.own
 nodup:=H.nodup
 apartB:=H.apartB
 apartK:=λa ha o h=>h.elim (H.apartK a ha o) λh=>hX a h.1 ha
 gens:=H.gens
 os:=H.os
 al:=H.al
 B0:=H.B0
 Bnew:=H.Bnew
 ownNew:=H.ownNew
 noB:=λa ha=>ha.elim (H.noB a) (hw a)
theorem Holds.unhide {s:Shared}{h:Heap}{X wr:List Addr}(H:Holds (C.hide h X wr) σ s):Holds C σ s where
 kp:=λb o h=>H.kp b o (.inl h)
 names:=H.names
 ns:=H.ns
 cells:=H.cells
 alive:=H.alive
 B:=H.B
 own:=H.own
 nodup:=H.nodup
 apartB:=H.apartB
 apartK:=λa ha o h=>H.apartK a ha o (.inl h)
 gens:=H.gens
 os:=H.os
 al:=H.al
 B0:=H.B0
 Bnew:=H.Bnew
 ownNew:=H.ownNew
 noB:=λa ha=>H.noB a (.inl ha)
inductive WI (C:Cx)(I:Nat->St->Prop)(k:Nat)(s:Shared):Prop
 | mk (σ':St) (h:I k σ') (H:Holds C σ' s):WI C I k s
theorem Qpt {test:Expr}{body orelse:List Stmt}{pos:Pos}{Q:MF->St->Prop}(I:Nat->St->Prop)
   (turn:∀k σ',I k σ'->Ts C test σ' (λb σ₁=>if b then Sts C body σ₁ (λf σ₂=>match f with | .next=>∃m,m<k/\I m σ₂ | .ret v=>Q (.ret v) σ₂) else Sts C orelse σ₁ Q))
   (k:Nat) (h:I k σ):Stm C (.While test body orelse pos) σ Q:=λs H=>by
 refine wpAny_While (codeAny_whileLoop (WI C I) (λk s hpat=>?_) k ⟨σ,h,H⟩)
 refine smG λH_ k_=>?_
 obtain ⟨σ',hI,H'⟩:=hpat
 refine k_ ?_
 clear k_ H_
 refine wpAny_mono (turn k σ' hI s H') (λb s₂ hpat=>?_) λu_ u_ x=>x.elim
 refine smG λH_ k_=>?_
 obtain ⟨b',σ₁,e,H₁,h₁⟩:=hpat
 refine k_ ?_
 clear k_ H_
 subst e
 cases b' with
 | true =>
   refine wpAny_mono (h₁ s₂ H₁) (λf s₃ hpat=>?_) λu_ u_ x=>x.elim
   refine smG λH_ k_=>?_
   obtain ⟨m,σ₂,hf,H₂,h₂⟩:=hpat
   refine k_ ?_
   clear k_ H_
   cases m with
   | next=>obtain rfl:f=.next:=hf;obtain ⟨j,hj,hI'⟩:=h₂;exact ⟨j,hj,σ₂,hI',H₂⟩
   | ret v=>obtain ⟨vv,rfl,hv⟩:=hf;exact ⟨.ret v,σ₂,⟨vv,rfl,hv⟩,H₂,h₂⟩
 | false =>
   exact wpAny_mono (h₁ s₂ H₁) (λf s₃ ⟨m,σ₂,hf,H₂,h₂⟩=>⟨m,σ₂,hf,H₂,h₂⟩) λu_ u_ x=>x.elim
noncomputable def Itr (σ:St)(v:MV)(items:List MV):Prop :=
 ∃a,v=.ref a/\(σ.B a=some (.list items)\/(σ.B a=some (.tup items)\/∃kvs,σ.B a=some (.dict kvs)/\items=kvs.map (λp=>Qau p.1))\/∃k:Nat,Has σ a (.range k)/\items=(List.range k).map (λi=>MV.int (i:Nat)))
structure Qtt (C:Cx)(σ:St)(items:List MV)(I:Addr)(fp wr:List Addr)(P:Nat->Value->Prop)(St:Nat->Heap->Prop)(s:Shared):Prop where
 walks:Walks C.prog C.w C.A I fp wr items.length P St
 st:St 0 s.heap
 item:∀i v,P i v->∃m,items[i]? = some m/\VR m v
 holds:Holds C σ s
 apart:∀a∈fp,a∉σ.own.map (·.1)++C.fr
 alive:∀a∈fp,∃o,s.heap.get? a=some o
 noB:∀a∈wr,σ.B a=none
 noK:∀a∈wr,∀o,¬C.kp a o
 noAl:∀a∈wr,¬C.al a
 stays:∀i h,St i h->∀a∈wr,∃o,h.get? a=some o
theorem Qb4 {s:Shared}(H:Holds C σ s):s.heap.objs.size∉σ.own.map (·.1)++C.fr/\σ.B s.heap.objs.size=none/\(∀o,¬C.kp s.heap.objs.size o)/\¬C.al s.heap.objs.size:=H.far (Qwb _)
theorem Qdj (k:Nat):Builtin.Range.rangeSize 0 k 1=k:=by
 unfold Builtin.Range.rangeSize
 rw [if_pos (by decide)]
 split
 . rw [Int.ediv_one];exact om274
 . exact om276 ‹_›
theorem Qgx {k:Nat}(h:k<=lim):Builtin.Range.small 0 k 1=true:=by
 have hl:(k:Int)<=1000000:=by unfold lim at h;exact om273 ‹_›
 have fit:∀i:Int,0<=i->i<=1000001->Builtin.Range.rangeFitsLong i=true:=λi h0 h1=>by
   unfold Builtin.Range.rangeFitsLong
   rw [Bool.and_eq_true]
   exact ⟨decide_eq_true (by omega),decide_eq_true (by omega)⟩
 unfold Builtin.Range.small
 rw [Qdj,fit 0 (by decide) (by decide),fit 1 (by decide) (by decide),fit k (by exact om278 ‹_›) (by exact om279 ‹_›),if_pos (by decide),fit (k+(1-1)) (by exact om280 ‹_›) (by exact om281 ‹_›)]
 simp
theorem all1 {α:Type}{P:α->Prop}{x:α}(h:P x):∀b∈[x],P b:=Qym.mpr ⟨h,λu_ h=>nomatch h⟩
theorem all2 {α:Type}{P:α->Prop}{x y:α}(h:P x)(h2:P y):∀b∈[x,y],P b:=Qym.mpr ⟨h,all1 h2⟩
theorem all3 {α:Type}{P:α->Prop}{x y z:α}(h:P x)(h2:P y)(h3:P z):∀b∈[x,y,z],P b:=Qym.mpr ⟨h,all2 h2 h3⟩
theorem Itr.walk (OK:C.Ok hb){s:Shared}(H:Holds C σ s){v:MV}{items:List MV}(it:Itr σ v items){vv:Value}(hv:VR v vv){Q:Value->Shared->Prop}{E:Value->Shared->Prop}
   (h:∀I fp wr P St s₂,Qtt C σ items I fp wr P St s₂->Q (.ref I) s₂):wpAny (model C.prog C.w) C.A (pyIter vv) Q E s:=by
 refine smG λH_ k_=>?_
 obtain ⟨a,rfl,it⟩:=it
 refine k_ ?_
 clear k_ H_
 obtain rfl:vv=.ref a:=hv
 refine smG λH_ k_=>?_
 obtain ⟨f1,f2,f3,f4⟩:=Qb4 H
 refine k_ ?_
 clear k_ H_
 have fn:=Qh7 s.heap
 rcases it with hB | (hB | ⟨kvs,hB,rfl⟩) | ⟨k,hr,rfl⟩
 . refine smG λH_ k_=>?_
   obtain ⟨vs,nn,ho,hr,hlim⟩:=H.B a _ hB
   refine k_ ?_
   clear k_ H_
   have hl:s.heap.IsList a vs:=⟨_,ho,rfl,nn,rfl⟩
   have hne:a≠s.heap.objs.size:=λe=>by rw [e,fn] at ho;cases ho
   refine wpAny_pyIter_list hl (h s.heap.objs.size [s.heap.objs.size,a] [s.heap.objs.size] (λi v=>vs[i]? = some v) (λi h=>h.IsListIter s.heap.objs.size a i/\h.IsList a vs) _ ?_)
   have hsz:items.length=vs.size:=by simpa using hr.length
   have W:=Walks.list (prog:=C.prog) (w:=C.w) OK.handled s.heap.objs.size a hne vs
   rw [<-hsz] at W
   refine { walks:=W,st:=⟨⟨_,Heap.get?_push_size _ rfl,rfl,rfl⟩,hl.push _⟩,item:=λi u hu=>?_,holds:=H.push _,apart:=?_,alive:=?_,noB:=?_,noK:=?_,noAl:=?_,stays:=?_ }
   . exact hr.getv (by rw [Qpy];exact hu)
   . refine all2 ?_ ?_
     . exact f1
     . exact λhm=>by rw [H.apartB _ hm] at hB;cases hB
   . refine all2 ?_ ?_
     . exact ⟨_,Heap.get?_push_size _ rfl⟩
     . exact ⟨_,Heap.get?_push_of_some _ ho⟩
   . refine all1 ?_
     exact f2
   . refine all1 ?_
     exact f3
   . refine all1 ?_
     exact f4
   . intro i h' st
     refine all1 ?_
     obtain ⟨⟨o,ho',u_⟩,u_⟩:=st;exact ⟨o,ho'⟩
 . refine smG λH_ k_=>?_
   obtain ⟨vs,nn,ho,hr,hlim⟩:=H.B a _ hB
   refine k_ ?_
   clear k_ H_
   have hl:s.heap.IsTuple a vs:=⟨_,ho,rfl,nn,rfl⟩
   have hne:a≠s.heap.objs.size:=λe=>by rw [e,fn] at ho;cases ho
   refine wpAny_pyIter_tuple hl (h s.heap.objs.size [s.heap.objs.size,a] [s.heap.objs.size] (λi v=>vs[i]? = some v) (λi h=>h.IsTupleIter s.heap.objs.size a i/\h.IsTuple a vs) _ ?_)
   have hsz:items.length=vs.size:=by simpa using hr.length
   have W:=Walks.tuple (prog:=C.prog) (w:=C.w) OK.handled s.heap.objs.size a hne vs
   rw [<-hsz] at W
   refine { walks:=W,st:=⟨⟨_,Heap.get?_push_size _ rfl,rfl,rfl⟩,hl.push _⟩,item:=λi u hu=>?_,holds:=H.push _,apart:=?_,alive:=?_,noB:=?_,noK:=?_,noAl:=?_,stays:=?_ }
   . exact hr.getv (by rw [Qpy];exact hu)
   . refine all2 ?_ ?_
     . exact f1
     . exact λhm=>by rw [H.apartB _ hm] at hB;cases hB
   . refine all2 ?_ ?_
     . exact ⟨_,Heap.get?_push_size _ rfl⟩
     . exact ⟨_,Heap.get?_push_of_some _ ho⟩
   . refine all1 ?_
     exact f2
   . refine all1 ?_
     exact f3
   . refine all1 ?_
     exact f4
   . intro i h' st
     refine all1 ?_
     obtain ⟨⟨o,ho',u_⟩,u_⟩:=st;exact ⟨o,ho'⟩
 . refine smG λH_ k_=>?_
   obtain ⟨hms,vk,⟨p0,w0,hdo⟩,hkv,hlim⟩:=H.B a _ hB
   refine k_ ?_
   clear k_ H_
   refine smG λH_ k_=>?_
   obtain ⟨ep,hda⟩:=(Qaw (p':=C.prog) (w':=C.w) hdo).dictAt
   refine k_ ?_
   clear k_ H_
   have ho:∃o,s.heap.get? a=some o:=let ⟨o,_,h1,_⟩:=hda;⟨o,h1⟩
   refine smG λH_ k_=>?_
   obtain ⟨ob,ho⟩:=ho
   refine k_ ?_
   clear k_ H_
   have hne:a≠s.heap.objs.size:=λe=>by rw [e,fn] at ho;cases ho
   refine wpAny_pyIter_dict hms hda (h s.heap.objs.size [s.heap.objs.size,a] [s.heap.objs.size] (λi v=>∃k x,vk[i]? = some (k,x)/\(Qbj C.prog C.w).is k v=true) (λi h=>h.IsKeyIter s.heap.objs.size a i vk.length ep/\h.DictAt (Qbj C.prog C.w) a vk ep) _ ?_)
   have hsz:(kvs.map (λp=>Qau p.1)).length=vk.length:=by have:=congrArg List.length hkv.k;simpa using this
   have W:=Walks.dictKeys (knd:=Qbj C.prog C.w) OK.handled s.heap.objs.size a hne vk ep
   rw [<-hsz] at W
   refine { walks:=by rw [<-hsz];exact W,st:=⟨⟨_,Heap.get?_push_size _ rfl,rfl,rfl⟩,hda.push _⟩,item:=λi u hu=>?_,holds:=H.push _,apart:=?_,alive:=?_,noB:=?_,noK:=?_,noAl:=?_,stays:=?_ }
   . refine smG λH_ k_=>?_
     obtain ⟨k,x,hx,hk⟩:=hu
     refine k_ ?_
     clear k_ H_
     have e1:(kvs.map (·.1))[i]? = some k:=by rw [hkv.k];simp [hx]
     refine ⟨Qau k,by rw [Qaa] at e1 ⊢;obtain ⟨p,hp,rfl⟩:=Qad.mp e1;rw [hp];rfl,?_⟩
     cases k with
     | none=>exact Qbe hk
     | some k=>exact Qa6 hk
   . refine all2 ?_ ?_
     . exact f1
     . exact λhm=>by rw [H.apartB _ hm] at hB;cases hB
   . refine all2 ?_ ?_
     . exact ⟨_,Heap.get?_push_size _ rfl⟩
     . exact ⟨_,Heap.get?_push_of_some _ ho⟩
   . refine all1 ?_
     exact f2
   . refine all1 ?_
     exact f3
   . refine all1 ?_
     exact f4
   . intro i h' st
     refine all1 ?_
     obtain ⟨⟨o,ho',u_⟩,u_⟩:=st;exact ⟨o,ho'⟩
 . refine smG λH_ k_=>?_
   obtain ⟨t,u,vv,ho,hlim⟩:=H.has hr
   refine k_ ?_
   clear k_ H_
   refine wpAny_pyIter_range ho (Qgx hlim) (h s.heap.objs.size [s.heap.objs.size] [s.heap.objs.size] (λi v=>i<k/\∃t,v=.int (0+i*1) t) (λi h=>IsRangeIter h s.heap.objs.size (0+(i:Nat)*1) ((k:Int)-(i:Nat)) 1) _ ?_)
   have W:=Walks.range (prog:=C.prog) (w:=C.w) (A:=C.A) OK.handled s.heap.objs.size 0 1 k
   refine { walks:=?_,st:=?_,item:=λi u hu=>?_,holds:=H.push _,apart:=?_,alive:=?_,noB:=?_,noK:=?_,noAl:=?_,stays:=?_ }
   . rw [Qab,Qxx]
     exact { sub:=W.sub,frame:=W.frame,done:=W.done,self:=W.self,item:=λi s Q E hi st hQ=>W.item i s Q E hi st λv h' tk hP hs hk=>hQ v h' tk ⟨hi,hP⟩ hs hk }
   . rw [Qdj];simp;exact Heap.get?_push_size _ rfl
   . refine smG λH_ k_=>?_
     obtain ⟨hi,t,rfl⟩:=hu
     refine k_ ?_
     clear k_ H_
     refine ⟨.int i,?_,t,by simp⟩
     simp [hi]
   . refine all1 ?_
     exact f1
   . refine all1 ?_
     exact ⟨_,Heap.get?_push_size _ rfl⟩
   . refine all1 ?_
     exact f2
   . refine all1 ?_
     exact f3
   . refine all1 ?_
     exact f4
   . intro i h' st
     refine all1 ?_
     exact ⟨_,st⟩
theorem Holds.hidden {s s':Shared}{wr:List Addr}(OK:C.Ok hb)(H:Holds C σ s)(k:∀b o,b∉wr->s.heap.get? b=some o->s'.heap.get? b=some o)(hg:s'.gens=s.gens)(hos:s'.os=s.os)
   (a1:∀a∈wr,a∉σ.own.map (·.1)++C.fr) (a2:∀a∈wr,σ.B a=none) (a3:∀a∈wr,∀o,¬C.kp a o) (a4:∀a∈wr,¬C.al a):Holds C σ s':=by
 have nfr:∀b∈C.fr,b∉wr:=λb hb' hm=>a1 b hm (Qbv _ hb')
 have cne:∀x c,C.env.cells.lookup x=some c->c∉wr:=λx c hc=>(OK.cellsIn x c hc).elim (nfr c) λ⟨o,ho⟩ hm=>a3 c hm o ho
 exact {
   kp:=λb o h=>k b o (λhm=>a3 b hm o h) (H.kp b o h)
   names:=λx v hv=>by
     rcases H.names x v hv with ⟨hk,m,u,⟨o,es,ep,h1,h2⟩,hm,hv'⟩ | ⟨hk,c,u,hc,⟨ob,h1,h2⟩,hv'⟩
     . exact .inl ⟨hk,m,u,⟨o,es,ep,k _ _ (nfr _ OK.locals) h1,h2⟩,hm,hv'⟩
     . exact .inr ⟨hk,c,u,hc,⟨ob,k _ _ (cne x c hc) h1,h2⟩,hv'⟩
   ns:=let ⟨m,o,es,ep,h1,h2⟩:=H.ns;⟨m,o,es,ep,k _ _ (nfr _ OK.locals) h1,h2⟩
   cells:=λx c hc=>let ⟨u,ob,h1,h2⟩:=H.cells x c hc;⟨u,ob,k _ _ (cne x c hc) h1,h2⟩
   alive:=λa ha=>let ⟨o,ho⟩:=H.alive a ha;⟨o,k _ _ (nfr a ha) ho⟩
   B:=λa o ha=>(H.B a o ha).at λob hob=>k _ _ (λhm=>by rw [a2 a hm] at ha;cases ha) hob
   own:=λp hp=>(H.own p hp).at λob hob=>k _ _ (λhm=>a1 _ hm (Qaq _ (Qc6.mpr ⟨p,hp,rfl⟩))) hob
   nodup:=H.nodup,apartB:=H.apartB,apartK:=H.apartK,gens:=hg.trans H.gens,os:=hos.trans H.os
   al:=λa ha=>let ⟨o,ho⟩:=H.al a ha;⟨o,k _ _ (λhm=>a4 a hm ha) ho⟩
   B0:=H.B0,Bnew:=H.Bnew,ownNew:=H.ownNew,noB:=H.noB }
inductive FI (C:Cx)(N:Nat)(J:Nat->Mine.St->Prop)(fp wr:List Addr)(St:Nat->Heap->Prop)(k:Nat)(s:Shared):Prop
 | mk (i:Nat) (σ':Mine.St) (hk:k=N+1-i) (hi:i<=N) (hJ:J i σ') (H:Holds C σ' s) (st:St i s.heap) (ap:∀a∈fp,a∉σ'.own.map (·.1)++C.fr) (al:∀a∈fp,∃o,s.heap.get? a=some o) (nb:∀a∈wr,σ'.B a=none):FI C N J fp wr St k s
abbrev Nx (J:St->Prop)(Q:MF->St->Prop):MF->St->Prop:=λf σ₃=>match f with | .next=>J σ₃ | .ret v=>Q (.ret v) σ₃
inductive ForQ (hb:Heap)(prog:Program)(w:World)(sc:Scope)(n:Nat)(md:List Addr)(fl:Bool)(x:Str)(body orelse:List Stmt)(Q:MF->St->Prop)(v:MV)(σ₁:St):Prop
 | mk (items:List MV) (J:Nat->St->Prop) (it:Itr σ₁ v items) (h0:J 0 σ₁) (turn:∀C',Fx C' hb prog w sc n md fl->∀i σ' m,J i σ'->items[i]? = some m->Qb6 C' x m σ' (λσ₂=>Sts C' body σ₂ (Nx (J (i+1)) Q))) (fin:∀C',Fx C' hb prog w sc n md fl->∀σ',J items.length σ'->Sts C' orelse σ' Q):ForQ hb prog w sc n md fl x body orelse Q v σ₁
theorem Qvw {x:Str}{px pos:Pos}{iter:Expr}{body orelse:List Stmt}{Q:MF->St->Prop}(F:Fx C hb prog w sc n md fl)(hs:∀v,foldedSetIterable iter C.env v=pure v)
   (h:Ex C iter σ (ForQ hb prog w sc n md fl x body orelse Q)):Stm C (.For (.Name x px) iter body orelse pos) σ Q:=λs H=>by
 refine wpAny_For (hs:=hs) (wpAny_mono (h s H) (λvv s₁ hpat=>?_) λu_ u_ x=>x)
 refine smG λH_ k_=>?_
 obtain ⟨v,σ₁,hv,H₁,items,J,it,J0,turn,fin⟩:=hpat
 refine k_ ?_
 clear k_ H_
 refine it.walk F.ok H₁ hv λI fp wr P St s₂ W=>?_
 have wsub:=W.walks.sub
 refine codeAny_forLoop (FI C items.length J fp wr St)
   (λk s hpat=>?_) (items.length+1) ⟨0,σ₁,rfl,Qwv _,J0,W.holds,W.st,W.apart,W.alive,W.noB⟩
 refine smG λH_ k_=>?_
 obtain ⟨i,σ',hk,hi,hJ,H',hst,hap,hal,hnb⟩:=hpat
 refine k_ ?_
 clear k_ H_
 have apw:∀a∈wr,a∉σ'.own.map (·.1)++C.fr:=λa ha=>hap a (wsub a ha)
 by_cases hlt:i<items.length
 . refine W.walks.item i s _ _ hlt hst λu h' tk hP hst' hk'=>?_
   refine smG λH_ k_=>?_
   obtain ⟨m,hm,hr⟩:=W.item i u hP
   refine k_ ?_
   clear k_ H_
   have H₂:Holds C σ' { s with heap:=h',toks:=tk }:=H'.hidden F.ok hk' rfl rfl apw hnb W.noK W.noAl
   have hal':∀a∈fp,∃o,h'.get? a=some o:=λa ha=>by
     by_cases hw:a∈wr
     . exact W.stays _ _ hst' a hw
     . obtain ⟨o,ho⟩:=hal a ha;exact ⟨o,hk' a o hw ho⟩
   have H₃:=H₂.hide (X:=fp) (wr:=wr) hap hnb
   have F':Fx (C.hide h' fp wr) hb prog w sc n md fl:=F.hide (λa ha hf=>hap a ha (Qbv _ hf)) λa ha=>⟨wsub a ha,hal' a (wsub a ha)⟩
   refine wpAny_assign_Name (wpAny_mono (turn _ F' i σ' m hJ hm u hr _ H₃) (λu_ s₃ hpat=>?_) λu_ u_ x=>x.elim)
   refine smG λH_ k_=>?_
   obtain ⟨u_,σ₃,u_,H₃',h₃⟩:=hpat
   refine k_ ?_
   clear k_ H_
   refine wpAny_mono (h₃ s₃ H₃') (λf s₄ hpat=>?_) λu_ u_ x=>x.elim
   refine smG λH_ k_=>?_
   obtain ⟨mf,σ₄,hf,H₄,h₄⟩:=hpat
   refine k_ ?_
   clear k_ H_
   cases mf with
   | next =>
     obtain rfl:f=.next:=hf
     have kept:∀a∈fp,∀o,h'.get? a=some o->s₄.heap.get? a=some o:=λa ha o ho=>H₄.kp a o (.inr ⟨ha,ho⟩)
     refine ⟨items.length+1-(i+1),by rw [hk];exact Qxh (Qw4 hlt) (Qxc i),i+1,σ₄,rfl,hlt,h₄,H₄.unhide,W.walks.frame _ _ _ hst' kept,λa ha hm'=>?_,λa ha=>?_,λa ha=>H₄.noB a (.inr ha)⟩
     . obtain ⟨o,ho⟩:=hal' a ha;exact H₄.apartK a hm' o (.inr ⟨ha,ho⟩)
     . obtain ⟨o,ho⟩:=hal' a ha;exact ⟨o,kept a ha o ho⟩
   | ret v =>
     refine smG λH_ k_=>?_
     obtain ⟨vv,rfl,hv'⟩:=hf
     refine k_ ?_
     clear k_ H_
     exact ⟨.ret v,σ₄,⟨vv,rfl,hv'⟩,H₄.unhide,h₄⟩
 . have hin:i=items.length:=Qxn hi (Qyb.mp hlt)
   subst hin
   refine W.walks.done s _ _ hst λh' tk hk'=>?_
   have H₂:Holds C σ' { s with heap:=h',toks:=tk }:=H'.hidden F.ok hk' rfl rfl apw hnb W.noK W.noAl
   exact wpAny_mono (fin C F σ' hJ _ H₂) (λf s₃ ⟨mf,σ₃,hf,H₃,h₃⟩=>⟨mf,σ₃,hf,H₃,h₃⟩) λu_ u_ x=>x.elim
end
end Mine
namespace Mine
open PySem
noncomputable def Qgv (cs sc:Scope):Scope :=
 { cs with names:=cs.names.map λ(n,k)=>if (k == .free && sc.kind == .function && sc.names.lookup n == some .cell) then (n,.cell) else (n,k) }
theorem Qcm {cs:Scope}{env:Env}{sc:Scope}(h:env.scope=sc):relabel cs env=Qgv cs sc:=by subst h;rfl
noncomputable def Qcb (cells:List (Str×Addr)):List (Str×NameKind)->List (Str×Addr)->List (Str×Addr)
 | [],acc=>acc
 | (n,k)::r,acc=>if k == .free then (match cells.lookup n with | some c=>Qcb cells r ((n,c)::acc) | none=>Qcb cells r acc) else Qcb cells r acc
theorem Qf5 (env:Env):∀(names:List (Str×NameKind)) (acc:List (Str×Addr)),(∀x,(x,NameKind.free)∈names->∃c,env.cells.lookup x=some c) ->
   (forIn names acc λ(p:Str×NameKind) (cs:List (Str×Addr))=>(if (p.2 == NameKind.free)=true then do let a <-cellOf env p.1;pure (ForInStep.yield ((p.1,a)::cs)) else pure (ForInStep.yield cs):Sem _))=pure (Qcb env.cells names acc)
 | [],acc,_=>by rw [Qzo];rfl
 | (n,k)::r,acc,h=>by
   rw [Qzf]
   unfold Qcb
   by_cases hk:(k == NameKind.free)=true
   . have hk':k=.free:=by simpa using hk
     obtain ⟨c,hc⟩:=h n (by rw [hk'];exact .head _)
     simp only [hk,if_true,hc,cellOf,pure_bind]
     exact Qf5 env r _ λx hx=>h x (.tail _ hx)
   . simp only [hk,if_false,pure_bind]
     exact Qf5 env r _ λx hx=>h x (.tail _ hx)
theorem Qhw {scope:Scope}{env:Env}(h:∀x,(x,NameKind.free)∈scope.names->∃c,env.cells.lookup x=some c):closureFor scope env=pure (Qcb env.cells scope.names []):=by
 have:=Qf5 env scope.names [] h
 unfold closureFor
 exact (bind_pure _).trans this
theorem Qcw (cells:List (Str×Addr)){x:Str}{c:Addr}:∀(names:List (Str×NameKind)) (acc:List (Str×Addr)),(Qcb cells names acc).lookup x=some c->acc.lookup x=some c\/(cells.lookup x=some c/\(x,NameKind.free)∈names)
 | [],acc,h=>.inl h
 | (n,k)::r,acc,h=>by
   unfold Qcb at h
   by_cases hk:(k == NameKind.free)=true
   . have hk':k=.free:=by simpa using hk
     rw [if_pos hk] at h
     cases hc:cells.lookup n with
     | none =>
       rw [hc] at h
       rcases Qcw cells r acc h with h1 | ⟨h1,h2⟩
       . exact .inl h1
       . exact .inr ⟨h1,.tail _ h2⟩
     | some d =>
       rw [hc] at h
       rcases Qcw cells r _ h with h1 | ⟨h1,h2⟩
       . by_cases hx:(x == n)=true
         . rw [Qwe,hx] at h1
           have hx':x=n:=by simpa using hx
           subst hx'
           exact .inr ⟨hc.trans h1,by rw [hk'];exact .head _⟩
         . have hx':(x == n)=false:=by simpa using hx
           rw [Qwe,hx'] at h1
           exact .inl h1
       . exact .inr ⟨h1,.tail _ h2⟩
   . rw [if_neg hk] at h
     rcases Qcw cells r acc h with h1 | ⟨h1,h2⟩
     . exact .inl h1
     . exact .inr ⟨h1,.tail _ h2⟩
theorem Qd6 (cells:List (Str×Addr)){x:Str}:∀(names:List (Str×NameKind)) (acc:List (Str×Addr)),((x,NameKind.free)∈names/\(∃c,cells.lookup x=some c))\/(∃c,acc.lookup x=some c)->∃c,(Qcb cells names acc).lookup x=some c
 | [],acc,h=>h.elim (λh=>nomatch h.1) id
 | (n,k)::r,acc,h=>by
   unfold Qcb
   have keep:∀d,(∃c,acc.lookup x=some c)->∃c,((n,d)::acc).lookup x=some c:=λd ⟨c,hc⟩=>by
     by_cases hx:(x == n)=true
     . exact ⟨d,by rw [Qwe,hx]⟩
     . have hx':(x == n)=false:=by simpa using hx
       exact ⟨c,by rw [Qwe,hx'];exact hc⟩
   set_option tactic.hygienic true in split
   . rename_i hk
     have hk':k=.free:=by simpa using hk
     cases hc:cells.lookup n with
     | none =>
       refine Qd6 cells r acc (h.imp (λ⟨h1,c,h2⟩=>⟨?_,c,h2⟩) id)
       rcases Qch.mp h1 with e | e
       . cases e;rw [hc] at h2;cases h2
       . exact e
     | some d =>
       refine Qd6 cells r _ ?_
       rcases h with ⟨h1,c,h2⟩ | h
       . rcases Qch.mp h1 with e | e
         . cases e;exact .inr ⟨d,by simp [List.lookup]⟩
         . exact .inl ⟨e,c,h2⟩
       . exact .inr (keep d h)
   . rename_i hk
     refine Qd6 cells r acc (h.imp (λ⟨h1,c,h2⟩=>⟨?_,c,h2⟩) id)
     rcases Qch.mp h1 with e | e
     . cases e;exact absurd rfl hk
     . exact e
end Mine
namespace Mine
open PySem
structure Qbx (cs sc:Scope)(x:Str):Prop where
 kind:cs.kind=.function
 nd:(cs.names.map (·.1)).Nodup
 noCell:∀y∈cs.names,y.2≠.cell
 cap:∀y∈cs.names,y.2=.free->sc.names.lookup y.1=some .cell\/sc.names.lookup y.1=some .free
 x:cs.names.lookup x=some .local
noncomputable def capt (cs:Scope):Loc->Loc
 | []=>[]
 | (y,v)::r=>if cs.names.lookup y=some .free then (y,v)::capt cs r else capt cs r
theorem Qg1 {cs:Scope}{y:Str}{v:MV}:∀{l:Loc},look (capt cs l) y=some v->look l y=some v/\cs.names.lookup y=some .free
 | [],h=>by simp [capt,look] at h
 | (z,u)::r,h=>by
   unfold capt at h
   by_cases hz:cs.names.lookup z=some .free
   . rw [if_pos hz] at h
     unfold look at h ⊢
     by_cases hy:y=z
     . subst hy;rw [if_pos rfl] at h ⊢;exact ⟨h,hz⟩
     . rw [if_neg hy] at h ⊢;exact Qg1 h
   . rw [if_neg hz] at h
     have ih:=Qg1 h
     unfold look
     by_cases hy:y=z
     . subst hy;exact absurd ih.2 hz
     . rw [if_neg hy];exact ih
theorem Qfu {α:Type}:∀{l:List (Str×α)} {n:Str} {k:α},l.lookup n=some k->(n,k)∈l
 | (m,v)::r,n,k,h=>by
   rw [Qwe] at h
   cases hb:n == m with
   | true=>rw [hb] at h;cases h;rw [beq_iff_eq.mp hb];exact .head _
   | false=>rw [hb] at h;exact .tail _ (Qfu h)
theorem Qc9 {α:Type}:∀{l:List (Str×α)} {n:Str} {k:α},(l.map (·.1)).Nodup->(n,k)∈l->l.lookup n=some k
 | (m,v)::r,n,k,nd,h=>by
   have nd':=Qnn.mp nd
   rw [Qwe]
   rcases Qch.mp h with e | e
   . cases e;simp
   . have:(n == m)=false:=by
       cases hb:n == m with
       | false=>rfl
       | true=>exact absurd (Qc6.mpr ⟨(n,k),e,beq_iff_eq.mp hb⟩) nd'.1
     rw [this];exact Qc9 nd'.2 e
theorem Qbn {cs sc:Scope}{y:Str}:(Qgv cs sc).names.lookup y=(cs.names.lookup y).map λk=>if (k == .free && sc.kind == .function && sc.names.lookup y == some .cell) then .cell else k:=by
 unfold Qgv
 generalize cs.names=l
 induction l with
 | nil=>rfl
 | cons p r ih =>
   obtain ⟨n,k⟩:=p
   rw [Qwk]
   dsimp only
   by_cases hy:(y == n)=true
   . have e:y=n:=by simpa using hy
     subst e
     set_option tactic.hygienic true in split
     . rename_i h;rw [Qwe,Qwe,hy];simp only [Qys];rw [if_pos h]
     . rename_i h;rw [Qwe,Qwe,hy];simp only [Qys];rw [if_neg h]
   . have hy':(y == n)=false:=by simpa using hy
     split
     . rw [Qwe,hy',Qwe,hy'];exact ih
     . rw [Qwe,hy',Qwe,hy'];exact ih
noncomputable def Cx.comp (C:Cx)(cenv:Env)(h:Heap)(X Y:List Addr):Cx:={ C with env:=cenv,fr:=[cenv.locals],kp:=λb o=>C.kp b o\/(b∈X/\h.get? b=some o),no:=λa=>C.no a\/a∈Y }
section
variable {C:Cx} {hb:Heap} {prog:Program} {w:World} {sc cs:Scope} {n:Nat} {md:List Addr} {fl:Bool} {x:Str} {σ:St}
theorem Fx.clo (F:Fx C hb prog w sc n md fl)(K:Qbx cs sc x):closureFor cs C.env=pure (Qcb C.env.cells cs.names []) :=
 Qhw λy hy=>F.cell y (K.cap _ hy rfl)
theorem Qdc {cells:List (Str×Addr)}{names:List (Str×NameKind)}{y:Str}{c:Addr}(h:(Qcb cells names []).lookup y=some c):cells.lookup y=some c:=by
 rcases Qcw cells names [] h with h | h
 . cases h
 . exact h.1
theorem Fx.comp (F:Fx C hb prog w sc n md fl)(K:Qbx cs sc x){s:Shared}(H:Holds C σ s){L:Addr}{X Y:List Addr}(hfr:∀a∈C.fr,a∈X)(hLX:L∉X)(hLk:∀o,¬C.kp L o)(hLc:L∉C.fr)
   (hY:∀a∈Y,a∈X/\∃o,s.heap.get? a=some o):Fx (C.comp (compEnvC cs (Qcb C.env.cells cs.names []) L C.env) s.heap X Y) hb prog w (Qgv cs sc) n md false where
 ok:={
   handled:=F.ok.handled
   depth:=F.ok.depth
   units:=F.ok.units
   kind:=K.kind
   globals:=F.ok.globals
   builtins:=F.ok.builtins
   locals:=.head _
   cellsIn:=λy c hc=>by
     have h1:=Qdc hc
     rcases F.ok.cellsIn y c h1 with h | ⟨o,h⟩
     . obtain ⟨o,ho⟩:=H.alive c h;exact .inr ⟨o,.inr ⟨hfr c h,ho⟩⟩
     . exact .inr ⟨o,.inl h⟩
   cellsNe:=λy c hc e=>by
     have e:c=L:=e
     subst e
     rcases F.ok.cellsIn y c (Qdc hc) with h | ⟨o,h⟩
     . exact hLc h
     . exact hLk o h
   cellsInj:=λy z c h1 h2=>F.ok.cellsInj y z c (Qdc h1) (Qdc h2)
   apart:=λa ha o hk=>by
     have e:a=L:=by simpa [Cx.comp,compEnvC] using ha
     subst e
     rcases hk with hk | hk
     . exact hLk o hk
     . exact hLX hk.1
   base:=λb o h=>.inl (F.ok.base b o h)
   modAl:=F.ok.modAl
   noKp:=λa ha=>ha.elim (λh=>let ⟨o,ho⟩:=F.ok.noKp a h;⟨o,.inl ho⟩) λh=>let ⟨h1,o,ho⟩:=hY a h;⟨o,.inr ⟨h1,ho⟩⟩ }
 eprog:=F.eprog
 ew:=F.ew
 esc:=Qcm F.esc
 eroom:=F.eroom
 emod:=F.emod
 cell:=λy hy=>by
   have hfree:(y,NameKind.free)∈cs.names:=by
     rw [Qbn] at hy
     cases hk:cs.names.lookup y with
     | none=>rw [hk] at hy;simp at hy
     | some k =>
       have hm:=Qfu hk
       have:k=.free:=by
         rw [hk] at hy
         simp only [Qys,Option.some.injEq] at hy
         by_cases hkf:k=.free
         . exact hkf
         . rw [if_neg (by simp [hkf])] at hy
           rcases hy with e | e
           . exact absurd e (K.noCell _ hm)
           . exact e
       rw [<-this];exact hm
   exact Qd6 C.env.cells cs.names [] (.inl ⟨hfree,F.cell y (K.cap _ hfree rfl)⟩)
 full:=λh=>by cases h
theorem Holds.toComp (F:Fx C hb prog w sc n md fl)(K:Qbx cs sc x){s:Shared}{D:Addr}{o:MO}(H:Holds C { σ with own:=(D,o)::σ.own } s){L:Addr}{fp wr:List Addr}{mm:Str->Option Value}{m:MV}{u:Value}
   (hns:s.heap.Ns L mm) (hmx:mm x=some u) (hr:VR m u) (hfp:∀a∈fp,a∉D::σ.own.map (·.1)++C.fr) (hwr:∀a∈wr,σ.B a=none)
   (hLo:L∉D::σ.own.map (·.1)++C.fr) (hLf:L∉fp) (hLB:σ.B L=none) (hLk:∀o,¬C.kp L o) :
   Holds (C.comp (compEnvC cs (Qcb C.env.cells cs.names []) L C.env) s.heap (D::fp++C.fr) (D::wr++C.fr)) ⟨put (capt cs σ.loc) x m,σ.B,σ.own⟩ s:=by
 have nd:(D::(σ.own.map (·.1)++C.fr)).Nodup:=H.nodup
 have nd1:=Qnn.mp nd
 have nd2:=Qdi.mp nd1.2
 have hx:(Qgv cs sc).names.lookup x=some .local:=by rw [Qbn,K.x];rfl
 have kx:(compEnvC cs (Qcb C.env.cells cs.names []) L C.env).kindOf x=some .local:=by
   show (relabel cs C.env).names.lookup x=_
   rw [Qcm F.esc];exact hx
 exact {
   kp:=λb o' h=>h.elim (H.kp b o') λh=>h.2
   names:=λy v hy=>by
     rw [Qe8] at hy
     by_cases hxy:y=x
     . subst hxy;rw [if_pos rfl] at hy;cases hy
       exact .inl ⟨kx,mm,u,hns,hmx,hr⟩
     . rw [if_neg hxy] at hy
       obtain ⟨h1,h2⟩:=Qg1 hy
       have hm:=Qfu h2
       have hcap:=K.cap _ hm rfl
       have outer:∃c u',C.env.cells.lookup y=some c/\s.heap.IsCell c (some u')/\VR v u':=by
         rcases H.names y v h1 with ⟨hk,u_⟩ | ⟨hk,r⟩
         . exfalso
           have hk':sc.names.lookup y=some .local:=by rw [<-F.esc];exact hk
           rw [hk'] at hcap;simp at hcap
         . exact r
       obtain ⟨c,u',hc,hu,hv⟩:=outer
       obtain ⟨c',hc'⟩:=Qd6 C.env.cells cs.names [] (.inl ⟨hm,c,hc⟩)
       have:c'=c:=by have:=Qdc hc';rw [hc] at this;exact (Option.some.inj this).symm
       subst this
       refine .inr ⟨?_,c',u',hc',hu,hv⟩
       show (relabel cs C.env).names.lookup y=_\/(relabel cs C.env).names.lookup y=_
       rw [Qcm F.esc,Qbn,h2]
       simp only [Qys,Option.some.injEq]
       split
       . exact .inl rfl
       . exact .inr rfl
   ns:=⟨mm,hns⟩
   cells:=λy c hc=>H.cells y c (Qdc hc)
   alive:=λa ha=>by
     have e:a=L:=by simpa [Cx.comp,compEnvC] using ha
     subst e;obtain ⟨ob,es,ep,ho,u_⟩:=hns;exact ⟨ob,ho⟩
   B:=H.B
   own:=λp hp=>H.own p (.tail _ hp)
   nodup:=Qdi.mpr ⟨nd2.1,Qnn.mpr ⟨(by simp),Qzp⟩,λa ha b hb' e=>by
     have e':b=L:=by simpa [Cx.comp,compEnvC] using hb'
     subst e e'
     exact hLo (.tail _ (Qaq _ ha))⟩
   apartB:=λa ha=>by
     rcases Qaz.mp ha with h | h
     . exact H.apartB a (.tail _ (Qaq _ h))
     . have e':a=L:=by simpa [Cx.comp,compEnvC] using h
       subst e';exact hLB
   apartK:=λa ha o' hk=>by
     rcases Qaz.mp ha with h | h
     . rcases hk with hk | ⟨hk,u_⟩
       . exact H.apartK a (.tail _ (Qaq _ h)) o' hk
       . rcases Qaz.mp hk with hk | hk
         . rcases Qch.mp hk with rfl | hk
           . exact nd1.1 (Qaq _ h)
           . exact hfp a hk (.tail _ (Qaq _ h))
         . exact nd2.2.2 a h a hk rfl
     . have e':a=L:=by simpa [Cx.comp,compEnvC] using h
       subst e'
       rcases hk with hk | ⟨hk,u_⟩
       . exact hLk o' hk
       . rcases Qaz.mp hk with hk | hk
         . rcases Qch.mp hk with rfl | hk
           . exact hLo (.head _)
           . exact hLf hk
         . exact hLo (.tail _ (Qbv _ hk))
   gens:=H.gens
   os:=H.os
   al:=H.al
   B0:=H.B0
   Bnew:=H.Bnew
   ownNew:=λp hp=>H.ownNew p (.tail _ hp)
   noB:=λa ha=>by
     rcases ha with ha | ha
     . exact H.noB a ha
     . rcases Qaz.mp ha with ha | ha
       . rcases Qch.mp ha with rfl | ha
         . exact H.apartB _ (.head _)
         . exact hwr a ha
       . exact H.apartB a (.tail _ (Qbv _ ha)) }
theorem Holds.fromComp {s s':Shared}{D:Addr}{o:MO}(OK:C.Ok hb)(H:Holds C { σ with own:=(D,o)::σ.own } s){L:Addr}{cenv:Env}{fp wr:List Addr}{σ':St}
   (H':Holds (C.comp cenv s.heap (D::fp++C.fr) (D::wr++C.fr)) σ' s'):Holds C ⟨σ.loc,σ'.B,(D,o)::σ'.own⟩ s':=by
 have nd:(D::(σ.own.map (·.1)++C.fr)).Nodup:=H.nodup
 have nd1:=Qnn.mp nd
 have DX:D∈D::fp++C.fr:=.head _
 have fX:∀a∈C.fr,a∈D::fp++C.fr:=λa ha=>Qbv _ ha
 have kX:∀a ob,a∈D::fp++C.fr->s.heap.get? a=some ob->s'.heap.get? a=some ob:=λa ob ha ho=>H'.kp a ob (.inr ⟨ha,ho⟩)
 have hD:=H.own (D,o) (.head _)
 obtain ⟨oD,hoD⟩:=hD.alive
 have oK:∀a∈σ'.own.map (·.1),∀ob,¬(C.kp a ob\/(a∈D::fp++C.fr/\s.heap.get? a=some ob)):=λa ha ob=>H'.apartK a (Qaq _ ha) ob
 have cellsK:∀y c,C.env.cells.lookup y=some c->∀ob,s.heap.get? c=some ob->s'.heap.get? c=some ob:=λy c hc ob ho=>by
   rcases OK.cellsIn y c hc with h | ⟨ob',h⟩
   . exact kX c ob (fX c h) ho
   . have e1:=H.kp c ob' h
     rw [ho] at e1;cases e1
     exact H'.kp c ob (.inl h)
 exact {
   kp:=λb ob h=>H'.kp b ob (.inl h)
   names:=λy v hv=>by
     rcases H.names y v hv with ⟨hk,m,u,⟨ob,es,ep,h1,h2⟩,hm,hv'⟩ | ⟨hk,c,u,hc,⟨ob,h1,h2⟩,hv'⟩
     . exact .inl ⟨hk,m,u,⟨ob,es,ep,kX _ _ (fX _ OK.locals) h1,h2⟩,hm,hv'⟩
     . exact .inr ⟨hk,c,u,hc,⟨ob,cellsK y c hc ob h1,h2⟩,hv'⟩
   ns:=let ⟨m,ob,es,ep,h1,h2⟩:=H.ns;⟨m,ob,es,ep,kX _ _ (fX _ OK.locals) h1,h2⟩
   cells:=λy c hc=>let ⟨u,ob,h1,h2⟩:=H.cells y c hc;⟨u,ob,cellsK y c hc ob h1,h2⟩
   alive:=λa ha=>let ⟨ob,ho⟩:=H.alive a ha;⟨ob,kX a ob (fX a ha) ho⟩
   B:=H'.B
   own:=λp hp=>by
     rcases Qch.mp hp with rfl | hp
     . exact hD.at λob ho=>kX D ob DX ho
     . exact H'.own p hp
   nodup:=by
     show (D::(σ'.own.map (·.1)++C.fr)).Nodup
     refine Qnn.mpr ⟨λhm=>?_,Qdi.mpr ⟨(Qdi.mp H'.nodup).1,(Qdi.mp nd1.2).2.1,λa ha b hb' e=>?_⟩⟩
     . rcases Qaz.mp hm with hm | hm
       . exact oK D hm oD (.inr ⟨DX,hoD⟩)
       . exact nd1.1 (Qbv _ hm)
     . subst e
       obtain ⟨ob,ho⟩:=H.alive a hb'
       exact oK a ha ob (.inr ⟨fX a hb',ho⟩)
   apartB:=λa ha=>by
     have ha':a∈D::(σ'.own.map (·.1)++C.fr):=ha
     rcases Qch.mp ha' with rfl | ha'
     . exact H'.noB _ (.inr (.head _))
     . rcases Qaz.mp ha' with h | h
       . exact H'.apartB a (Qaq _ h)
       . exact H'.noB a (.inr (Qbv _ h))
   apartK:=λa ha ob hk=>by
     have ha':a∈D::(σ'.own.map (·.1)++C.fr):=ha
     rcases Qch.mp ha' with rfl | ha'
     . exact H.apartK _ (.head _) ob hk
     . rcases Qaz.mp ha' with h | h
       . exact oK a h ob (.inl hk)
       . exact OK.apart a h ob hk
   gens:=H'.gens
   os:=H'.os
   al:=H'.al
   B0:=H'.B0
   Bnew:=H'.Bnew
   ownNew:=λp hp=>by
     rcases Qch.mp hp with rfl | hp
     . exact H.ownNew (D,o) (.head _)
     . exact H'.ownNew p hp
   noB:=λa ha=>H'.noB a (.inl ha) }
end
end Mine
namespace Mine
open PySem
section
variable {C:Cx} {hb:Heap} {prog:Program} {w:World} {sc cs:Scope} {n:Nat} {md:List Addr} {fl:Bool} {x:Str} {σ:St}
noncomputable def CTs (C:Cx):List Expr->St->(Bool->St->Prop)->Prop
 | [],σ,Q=>Q true σ
 | c::r,σ,Q=>Ts C c σ (λb σ'=>if b then CTs C r σ' Q else Q false σ')
theorem Qkp {M:Model}{A:Around}{E:Value->Shared->Prop}{env:Env}{s:Shared}{Q:Bool->Shared->Prop}:∀(ifs:List Expr),Q false s ->
   wpAny M A (forIn ifs false λc r=>if r=true then do let ok <-isTrue c env (eval c env);pure (ForInStep.yield ok) else pure (ForInStep.yield r)) Q E s
 | [],h=>by rw [Qzo];exact wpAny_pure h
 | c::r,h=>by
   rw [Qzf]
   simp only [Bool.false_eq_true,if_false,pure_bind]
   exact Qkp r h
theorem Ql0:∀(ifs:List Expr) {σ:St} {Q:Bool->St->Prop},CTs C ifs σ Q ->
   Tr C (forIn ifs true λc r=>if r=true then do let ok <-isTrue c C.env (eval c C.env);pure (ForInStep.yield ok) else pure (ForInStep.yield r)) (λb a=>b=a) σ Q
 | [],σ,Q,h=>by rw [Qzo];exact Tr.pure (b:=true) rfl h
 | c::r,σ,Q,h=>λs H=>by
   rw [Qzf]
   simp only [if_true,bind_assoc,pure_bind]
   refine wpAny_bind (wpAny_mono (h s H) (λb s' hpat=>?_) λu_ u_ x=>x)
   refine smG λH_ k_=>?_
   obtain ⟨b',σ',e,H',h'⟩:=hpat
   refine k_ ?_
   clear k_ H_
   subst e
   cases b' with
   | true=>exact Ql0 r h' s' H'
   | false=>exact Qkp r ⟨false,σ',rfl,H',h'⟩
theorem Qcf {prog:Program}{w:World}{A:Around}{E:Value->Shared->Prop}{s:Shared}{l:Addr}{xs:List MV}{m:MV}{v:Value}{Q:Value->Shared->Prop}(hl:OR s.heap l (.list xs))(hv:VR m v)(hlim:xs.length+1<=lim)
   (hQ:∀h',OR h' l (.list (xs++[m]))->(∀b o,b≠l->s.heap.get? b=some o->h'.get? b=some o)->Q .none { s with heap:=h' }):wpAny (model prog w) A (call (.builtin "list.append") [.ref l,v]) Q E s:=by
 refine smG λH_ k_=>?_
 obtain ⟨vs,nn,ho,hr,hle⟩:=hl
 refine k_ ?_
 clear k_ H_
 refine wpAny_list_append_plain (items:=vs) ⟨nn,ho⟩ (λh' hl' hs'=>hQ h' ?_ hs'.extBut) (hsz:=?_)
 . refine smG λH_ k_=>?_
   obtain ⟨n',ho'⟩:=hl'
   refine k_ ?_
   clear k_ H_
   exact ⟨_,n',ho',by simpa using hr.snoc hv,by simpa using hlim⟩
 . have:=hr.length;have:=Qdv;simp at *;omega
theorem Qbc {h:Heap}{b L:Addr}{o:Obj}(e:h.get? b=some o)(hL:h.objs.size=L):b≠L:=λe'=>by subst e';subst hL;exact absurd (Heap.lt_size e) (Qyp _)
theorem sing {P:Addr->Prop}{L:Addr}(h:P L):∀a∈[L],P a:=λa ha=>by rw [Qbq.mp ha];exact h
inductive CI (C:Cx)(N:Nat)(J:Nat->List MV->Mine.St->Prop)(D L:Addr)(fp wr:List Addr)(St:Nat->Heap->Prop)(k:Nat)(s:Shared):Prop
 | mk (i:Nat) (ys:List MV) (σ':Mine.St) (hk:k=N+1-i) (hi:i<=N) (hJ:J i ys σ') (hyl:ys.length<=i) (H:Holds C { σ' with own:=(D,.list ys)::σ'.own } s) (st:St i s.heap) (ns:∃m,s.heap.Ns L m)
   (ap:∀a∈fp,a∉D::σ'.own.map (·.1)++C.fr) (al:∀a∈fp,∃o,s.heap.get? a=some o) (nb:∀a∈wr,σ'.B a=none) (lo:L∉D::σ'.own.map (·.1)++C.fr) (lB:σ'.B L=none):CI C N J D L fp wr St k s
inductive CB (C:Cx)(l:Loc)(ys:List MV)(D L:Addr)(fp wr:List Addr)(St:Heap->Prop)(σ₃:Mine.St)(s₃:Shared):Prop
 | mk (b1:Holds C ⟨l,σ₃.B,(D,.list ys)::σ₃.own⟩ s₃) (b2:St s₃.heap) (b3:∃m,s₃.heap.Ns L m) (b4:∀a∈fp,a∉D::σ₃.own.map (·.1)++C.fr) (b5:∀a∈fp,∃o,s₃.heap.get? a=some o) (b6:∀a∈wr,σ₃.B a=none)
   (b7:L∉D::σ₃.own.map (·.1)++C.fr) (b8:σ₃.B L=none):CB C l ys D L fp wr St σ₃ s₃
theorem Qkb {elt iter:Expr}{px pos:Pos}{ifs:List Expr}(F:Fx C hb prog w sc n md fl)(K:Qbx cs sc x){s:Shared}(H:Holds C σ s){v:MV}{items:List MV}(it:Itr σ v items){vv:Value}(hv:VR v vv)(hlen:items.length<=lim)
   (J:Nat->List MV->St->Prop) (J0:J 0 [] σ)
   (turn:∀C',Fx C' hb prog w (Qgv cs sc) n md false->∀i ys σ' m,J i ys σ'->items[i]? = some m ->
     CTs C' ifs { σ' with loc:=put (capt cs σ'.loc) x m } (λok σ₁=>if ok then Ex C' elt σ₁ (λy σ₂=>J (i+1) (ys++[y]) { σ₂ with loc:=σ'.loc }) else J (i+1) ys { σ₁ with loc:=σ'.loc }))
   {RR:Value->Addr->Result->Shared->Prop} {E:Value->Shared->Prop}
   (fin:∀D L ys σ' s',J items.length ys σ'->Holds C { σ' with own:=(D,.list ys)::σ'.own } s'->Fsh C.mod σ' D->(∃m,s'.heap.Ns L m)->L∉D::σ'.own.map (·.1)++C.fr->σ'.B L=none->(∀o,¬C.kp L o)->¬C.al L->RR (.ref D) L (.ok .next) s') :
   wpAny (model C.prog C.w) C.A (pyIter vv) (λitv s₂=>wpAny (model C.prog C.w) C.A (newList []) (λacc s₃ =>
     wpAny (model C.prog C.w) C.A (newFunctionEnv cs C.env.globals (Qcb C.env.cells cs.names []) [] C.env.qual none .none (some C.env)) (λcenv s₄ =>
       codeAny (model C.prog C.w) C.A (.compStart (.ListComp elt [⟨.Name x px,iter,ifs,0⟩] cs pos) 0 itv acc { cenv with scope:=relabel cs C.env }) (RR acc cenv.locals) s₄) E s₃) E s₂) E s:=by
 refine it.walk F.ok H hv λI fp wr P St s₂ W=>?_
 have wsub:=W.walks.sub
 refine wpAny_newObj_type (wpAny_newFunctionEnv K.noCell (by intro y hy;simp at hy) (λh₁ hns₁ hsb₁=>?_) K.kind)
 have HD:=W.holds.new (o:={ cls:=.type "list",data:=.seq ([]:List Value).toArray }) (mo:=.list []) ⟨_,_,Heap.get?_push_size _ rfl,.nil,Qwv _⟩
 have hDm:s₂.heap.objs.size∉C.mod:=W.holds.freshMod F.ok
 generalize hD:s₂.heap.objs.size=D at HD hDm hns₁ hsb₁ ⊢
 generalize hH2:s₂.heap.push { cls:=.type "list",data:=.seq ([]:List Value).toArray }=H2 at HD hns₁ hsb₁ ⊢
 refine smG λH_ k_=>?_
 obtain ⟨g1,g2,g3,g4⟩:=Qb4 HD
 refine k_ ?_
 clear k_ H_
 dsimp only at g1 g2 g3 g4 hns₁ hsb₁
 generalize hL:H2.objs.size=L at g1 g2 g3 g4 hns₁ hsb₁ ⊢
 have keep1:∀b o,H2.get? b=some o->h₁.get? b=some o:=λb o e=>hsb₁.extBut b o (Qbc e hL) (Heap.get?_push_of_some _ e)
 have keep2:∀b o,s₂.heap.get? b=some o->H2.get? b=some o:=λb o e=>hH2 ▸ Heap.get?_push_of_some _ e
 have Hs:Holds C { σ with own:=(D,.list [])::σ.own } { s₂ with heap:=h₁,toks:=s₂.toks+0 }:=HD.ext keep1 rfl rfl
 have hfpD:∀a∈fp,a≠D/\a≠L:=λa ha=>by
   refine smG λH_ k_=>?_
   obtain ⟨o,ho⟩:=W.alive a ha
   refine k_ ?_
   clear k_ H_
   exact ⟨Qbc ho hD,Qbc (keep2 a o ho) hL⟩
 have loop:∀s₅:Shared,s₅={ s₂ with heap:=h₁,toks:=s₂.toks+0 } ->
     codeAny (model C.prog C.w) C.A (.compLoop (.ListComp elt [⟨.Name x px,iter,ifs,0⟩] cs pos) 0 (.ref I) (.ref D) (compEnvC cs (Qcb C.env.cells cs.names []) L C.env)) (RR (.ref D) L) s₅:=by
   rintro s₅ rfl
   refine codeAny_compLoop_tests (CI C items.length J D L fp wr St) ?_ (items.length+1)
     ⟨0,[],σ,rfl,Qwv _,J0,Qwv _,Hs,W.walks.frame _ _ _ W.st λb u_ o e=>keep1 b o (keep2 b o e),⟨_,hns₁⟩,λa ha hm=>?_,λa ha=>let ⟨o,ho⟩:=W.alive a ha;⟨o,keep1 _ _ (keep2 _ _ ho)⟩,W.noB,g1,g2⟩
   . intro k s' hJ_
     refine smG λH_ k_=>?_
     obtain ⟨i,ys,σ',hk,hi,hJ,hyl,H',hst,⟨mL,hnsL⟩,hap,hal,hnb,hLo,hLB⟩:=hJ_
     refine k_ ?_
     clear k_ H_
     have hap':∀a∈wr,a∉(({ σ' with own:=(D,.list ys)::σ'.own }:Mine.St).own.map (·.1))++C.fr:=λa ha=>hap a (wsub a ha)
     by_cases hlt:i<items.length
     . refine W.walks.item i s' _ _ hlt hst λu h' tk hP hst' hk'=>?_
       refine smG λH_ k_=>?_
       obtain ⟨m,hm,hr⟩:=W.item i u hP
       refine k_ ?_
       clear k_ H_
       have H₂:Holds C { σ' with own:=(D,.list ys)::σ'.own } { s' with heap:=h',toks:=tk }:=H'.hidden F.ok hk' rfl rfl hap' hnb W.noK W.noAl
       have hLf:L∉fp:=λhm=>(hfpD L hm).2 rfl
       have hns':h'.Ns L mL:=hnsL.at' λo e=>hk' _ o (λhm=>hLf (wsub _ hm)) e
       have hkx:(compEnvC cs (Qcb C.env.cells cs.names []) L C.env).kindOf x=some .local:=by
         show (relabel cs C.env).names.lookup x=_
         rw [Qcm F.esc,Qbn,K.x];rfl
       refine wpAny_assign_Name (wpAny_storeName_local hkx hns' (λh₂ hn₂ hs₂=>?_) (by simp [compEnvC,relabel,K.kind]))
       have hn₂:h₂.Ns L (λy=>if y=x then some u else mL y):=hn₂
       have hs₂:Heap.SameBut L h' h₂:=hs₂
       have H₃:Holds C { σ' with own:=(D,.list ys)::σ'.own } { s' with heap:=h₂,toks:=tk+1 } :=
         H₂.hidden (wr:=[L]) F.ok (λb o hb' e=>hs₂.extBut b o (λe'=>hb' (by simp [e'])) e) rfl rfl (sing hLo) (sing hLB) (sing (P:=λa=>∀o,¬C.kp a o) g3) (sing (P:=λa=>¬C.al a) g4)
       have hal₂:∀a∈fp,∃o,h₂.get? a=some o:=λa ha=>by
         have:∃o,h'.get? a=some o:=by
           by_cases hw:a∈wr
           . exact W.stays _ _ hst' a hw
           . obtain ⟨o,ho⟩:=hal a ha;exact ⟨o,hk' a o hw ho⟩
         refine smG λH_ k_=>?_
         obtain ⟨o,ho⟩:=this
         refine k_ ?_
         clear k_ H_
         exact ⟨o,hs₂.extBut a o (hfpD a ha).2 ho⟩
       have hst₂:St (i+1) h₂:=W.walks.frame _ _ _ hst' λb hb' o e=>hs₂.extBut b o (hfpD b hb').2 e
       have HC:=Holds.toComp F K H₃ (m:=m) hn₂ (by simp) hr hap hnb hLo hLf hLB g3
       have hYX:∀a∈D::wr++C.fr,a∈D::fp++C.fr/\∃o,h₂.get? a=some o:=λa ha=>by
         rcases Qaz.mp ha with ha | ha
         . rcases Qch.mp ha with rfl | ha
           . exact ⟨.head _,(H₃.own (_,.list ys) (.head _)).alive⟩
           . exact ⟨Qaq _ (.tail _ (wsub a ha)),hal₂ a (wsub a ha)⟩
         . exact ⟨Qbv _ ha,H₃.alive a ha⟩
       have hLX:L∉D::fp++C.fr:=λhm=>by
         rcases Qaz.mp hm with hm | hm
         . rcases Qch.mp hm with e | hm
           . exact hLo (e ▸ .head _)
           . exact hLf hm
         . exact hLo (.tail _ (Qbv _ hm))
       have FC:=F.comp K H₃ (L:=L) (X:=D::fp++C.fr) (Y:=D::wr++C.fr) (λa ha=>Qbv _ ha) hLX g3 (λhm=>hLo (.tail _ (Qbv _ hm))) hYX
       have back:∀(σ₃:Mine.St) (s₃:Shared),Holds (C.comp (compEnvC cs (Qcb C.env.cells cs.names []) L C.env) h₂ (D::fp++C.fr) (D::wr++C.fr)) σ₃ s₃ ->
           CB C σ'.loc ys D L fp wr (St (i+1)) σ₃ s₃:=λσ₃ s₃ H₄=>by
         have H₅:=Holds.fromComp F.ok H₃ (L:=L) H₄
         have kept:∀a∈fp,∀o,h₂.get? a=some o->s₃.heap.get? a=some o:=λa ha o ho=>H₄.kp a o (.inr ⟨Qaq _ (.tail _ ha),ho⟩)
         refine ⟨H₅,W.walks.frame _ _ _ hst₂ kept,H₄.ns,λa ha hm=>?_,λa ha=>?_,λa ha=>H₄.noB a (.inr (Qaq _ (.tail _ ha))),λhm=>?_,H₄.apartB L (Qbv _ (.head _))⟩
         . refine smG λH_ k_=>?_
           obtain ⟨o,ho⟩:=hal₂ a ha
           refine k_ ?_
           clear k_ H_
           rcases Qaz.mp hm with hm | hm
           . rcases Qch.mp hm with e | hm
             . exact (hfpD a ha).1 e
             . exact H₄.apartK a (Qaq _ hm) o (.inr ⟨Qaq _ (.tail _ ha),ho⟩)
           . exact hap a ha (Qbv _ hm)
         . obtain ⟨o,ho⟩:=hal₂ a ha;exact ⟨o,kept a ha o ho⟩
         . rcases Qaz.mp hm with hm | hm
           . rcases Qch.mp hm with e | hm
             . exact hLo (e ▸ .head _)
             . exact (Qdi.mp H₄.nodup).2.2 L hm L (.head _) rfl
           . exact hLo (.tail _ (Qbv _ hm))
       refine wpAny_mono (Ql0 ifs (turn _ FC i ys σ' m hJ hm) _ HC) (λok s₃ hpat=>?_) λu_ u_ x=>x.elim
       refine smG λH_ k_=>?_
       obtain ⟨ok',σ₃,e,H₄,h₄⟩:=hpat
       refine k_ ?_
       clear k_ H_
       subst e
       cases ok' with
       | false =>
         simp only [Bool.false_eq_true,if_false] at h₄ ⊢
         refine smG λH_ k_=>?_
         obtain ⟨b1,b2,b3,b4,b5,b6,b7,b8⟩:=back σ₃ s₃ H₄
         refine k_ ?_
         clear k_ H_
         exact ⟨items.length+1-(i+1),by rw [hk];exact Qxh (Qw4 hlt) (Qxc i),i+1,ys,{ σ₃ with loc:=σ'.loc },rfl,hlt,h₄,Qz0 hyl,b1,b2,b3,b4,b5,b6,b7,b8⟩
       | true =>
         simp only [if_true] at h₄ ⊢
         refine wpAny_mono (h₄ s₃ H₄) (λyv s₄ hpat=>?_) λu_ u_ x=>x.elim
         refine smG λH_ k_=>?_
         obtain ⟨y,σ₄,hy,H₅,h₅⟩:=hpat
         refine k_ ?_
         clear k_ H_
         refine smG λH_ k_=>?_
         obtain ⟨b1,b2,b3,b4,b5,b6,b7,b8⟩:=back σ₄ s₄ H₅
         refine k_ ?_
         clear k_ H_
         refine Qcf (b1.own (D,.list ys) (.head _)) hy (Qdg (Qx4 hyl) (Qdg hlt hlen)) λh₆ ho₆ hk₆=>?_
         have H₆:Holds C ⟨σ'.loc,σ₄.B,(D,.list (ys++[y]))::σ₄.own⟩ { s₄ with heap:=h₆ }:=b1.upd (s':={ s₄ with heap:=h₆ }) F.ok .head hk₆ ho₆ rfl rfl
         have hfD:∀a∈fp,a≠D:=λa ha=>(hfpD a ha).1
         have hLD:L≠D:=λe=>b7 (e ▸ .head _)
         refine ⟨items.length+1-(i+1),by rw [hk];exact Qxh (Qw4 hlt) (Qxc i),i+1,ys++[y],{ σ₄ with loc:=σ'.loc },rfl,hlt,h₅,by rw [Qey];exact Qx4 hyl,H₆,W.walks.frame _ _ _ b2 λa ha o ho=>hk₆ a o (hfD a ha) ho,?_,b4,λa ha=>?_,b6,b7,b8⟩
         . obtain ⟨m',o,es,ep,h1,h2⟩:=b3;exact ⟨m',o,es,ep,hk₆ _ _ hLD h1,h2⟩
         . obtain ⟨o,ho⟩:=b5 a ha;exact ⟨o,hk₆ a o (hfD a ha) ho⟩
     . have hin:i=items.length:=Qxn hi (Qyb.mp hlt)
       subst hin
       refine W.walks.done s' _ _ hst λh' tk hk'=>?_
       have H₂:Holds C { σ' with own:=(D,.list ys)::σ'.own } { s' with heap:=h',toks:=tk }:=H'.hidden F.ok hk' rfl rfl hap' hnb W.noK W.noAl
       exact fin D L ys σ' _ hJ H₂ ⟨hDm,H₂.apartB D (.head _),λhm=>(Qnn.mp H₂.nodup).1 (Qaq _ hm)⟩ ⟨mL,hnsL.at' λo e=>hk' _ o (λhm=>(hfpD L (wsub _ hm)).2 rfl) e⟩ hLo hLB g3 g4
   . rcases Qaz.mp hm with hm | hm
     . rcases Qch.mp hm with e | hm
       . exact (hfpD a ha).1 e
       . exact W.apart a ha (Qaq _ hm)
     . exact W.apart a ha (Qbv _ hm)
 exact codeAny_compStart_list (loop _ rfl) (W.walks.self 0 _ _ _ (W.walks.frame _ _ _ W.st λb u_ o e=>keep1 b o (keep2 b o e)) (loop _ rfl))
end
end Mine
namespace Mine
open PySem
section
variable {C:Cx} {hb:Heap} {prog:Program} {w:World} {sc cs:Scope} {n:Nat} {md:List Addr} {fl:Bool} {x:Str} {σ:St}
noncomputable def Qhp (hb:Heap)(prog:Program)(w:World)(sc cs:Scope)(n:Nat)(md:List Addr)(x:Str)(ifs:List Expr)(elt:Expr)(items:List MV)(J:Nat->List MV->St->Prop):Prop :=
 ∀C',Fx C' hb prog w (Qgv cs sc) n md false->∀i ys σ' m,J i ys σ'->items[i]? = some m ->
     CTs C' ifs { σ' with loc:=put (capt cs σ'.loc) x m } (λok σ₁=>if ok then Ex C' elt σ₁ (λy σ₂=>J (i+1) (ys++[y]) { σ₂ with loc:=σ'.loc }) else J (i+1) ys { σ₁ with loc:=σ'.loc })
theorem Qho {elt iter:Expr}{px pos:Pos}{ifs:List Expr}{Q:MV->St->Prop}(F:Fx C hb prog w sc n md fl)(K:Qbx cs sc x)(hs:∀v,foldedSetIterable iter C.env v=pure v)
   (h:Ex C iter σ (λv σ₁=>∃(items:List MV) (J:Nat->List MV->St->Prop),Itr σ₁ v items/\items.length<=lim/\J 0 [] σ₁/\Qhp hb prog w sc cs n md x ifs elt items J /\
     ∀ys σ',J items.length ys σ'->∀a,Fsh md σ' a->Q (.ref a) { σ' with own:=(a,.list ys)::σ'.own })):Ex C (.ListComp elt [⟨.Name x px,iter,ifs,0⟩] cs pos) σ Q:=λs H=>by
 rw [eval_ListComp]
 show wpAny _ _ (comprehension _ cs C.env _ (newList []) false (eval iter C.env) none) _ _ s
 refine wpAny_comprehension_free rfl hs (F.clo K) K.kind (λy hy hk=>by obtain ⟨y1,y2⟩:=y;dsimp only at hk;subst hk;exact Qc9 K.nd hy) (wpAny_mono (h s H) (λvv s₁ hpat=>?_) λu_ u_ x=>x)
 refine smG λH_ k_=>?_
 obtain ⟨v,σ₁,hv,H₁,items,J,it,hlen,J0,turn,fin⟩:=hpat
 refine k_ ?_
 clear k_ H_
 refine Qkb F K H₁ it hv hlen J J0 turn λD L ys σ' s' hJ H' hD hns hLo hLB hLk hLal=>?_
 refine smG λH_ k_=>?_
 obtain ⟨m,hns⟩:=hns
 refine k_ ?_
 clear k_ H_
 refine ⟨m,hns,λh' hs'=>⟨.ref D,_,rfl,?_,fin ys σ' hJ D (F.emod ▸ hD)⟩⟩
 exact H'.hidden (wr:=[L]) F.ok (λb o hb' e=>hs'.extBut b o (λe'=>hb' (by simp [e'])) e) rfl rfl (sing hLo) (sing hLB) (sing (P:=λa=>∀o,¬C.kp a o) hLk) (sing (P:=λa=>¬C.al a) hLal)
theorem Qhy {elt iter:Expr}{y:Str}{py px pos spos:Pos}{ifs:List Expr}{Q:MF->St->Prop}(F:Fx C hb prog w sc n md fl)(K:Qbx cs sc x)(hs:∀v,foldedSetIterable iter C.env v=pure v)
   (hsw:swapsWith (.ListComp elt [⟨.Name x px,iter,ifs,0⟩] cs pos) (some (.Name y py)) spos.line C.env=pure true)
   (h:Ex C iter σ (λv σ₁=>∃(items:List MV) (J:Nat->List MV->St->Prop),Itr σ₁ v items/\items.length<=lim/\J 0 [] σ₁/\Qhp hb prog w sc cs n md x ifs elt items J /\
     ∀C',Fx C' hb prog w sc n md fl->∀ys σ',J items.length ys σ'->∀a,Fsh md σ' a->Qb6 C' y (.ref a) { σ' with own:=(a,.list ys)::σ'.own } (λσ''=>Q .next σ''))):Stm C (.Assign [.Name y py] (.ListComp elt [⟨.Name x px,iter,ifs,0⟩] cs pos) spos) σ Q:=λs H=>by
 show wpAny _ _ (exec _ C.env) _ _ s
 rw [exec_Assign_Name_used _ _ _ _ hsw]
 refine wpAny_bind (wpAny_standAt (wpAny_bind ?_))
 show wpAny _ _ (do let _ <-comprehension (.ListComp elt [⟨.Name x px,iter,ifs,0⟩] cs pos) cs C.env _ (newList []) false (eval iter C.env) (some (assign (.Name y py) C.env))) _ _ s
 refine wpAny_bind (wpAny_mono (wpAny_comprehension_free (Q:=λu_ s'=>Out C FR Q .next s') rfl hs (F.clo K) K.kind (λy hy hk=>by obtain ⟨y1,y2⟩:=y;dsimp only at hk;subst hk;exact Qc9 K.nd hy) (wpAny_mono (h s H) (λvv s₁ hpat=>?_) λu_ u_ x=>x))
   (λu_ s' hq=>wpAny_pure (wpAny_pure hq)) λu_ u_ e=>e)
 refine smG λH_ k_=>?_
 obtain ⟨v,σ₁,hv,H₁,items,J,it,hlen,J0,turn,fin⟩:=hpat
 refine k_ ?_
 clear k_ H_
 refine Qkb F K H₁ it hv hlen J J0 turn λD L ys σ' s' hJ H' hD hns hLo hLB hLk hLal=>?_
 refine smG λH_ k_=>?_
 obtain ⟨m,hns⟩:=hns
 refine k_ ?_
 clear k_ H_
 have hLfr:∀a∈[L],a∉C.fr:=sing (P:=λa=>a∉C.fr) λhm=>hLo (.tail _ (Qbv _ hm))
 have hLalive:∃o,s'.heap.get? L=some o:=let ⟨o,_,_,ho,_⟩:=hns;⟨o,ho⟩
 have H₂:=H'.hide (X:=[L]) (wr:=[L]) (sing (P:=λa=>a∉_) hLo) (sing (P:=λa=>σ'.B a=none) hLB)
 have F₂:Fx (C.hide s'.heap [L] [L]) hb prog w sc n md fl:=F.hide hLfr λa ha=>⟨ha,by rw [Qbq.mp ha];exact hLalive⟩
 refine wpAny_assign_Name (wpAny_mono (fin _ F₂ ys σ' hJ D (F.emod ▸ hD) (.ref D) rfl s' H₂) (λu_ s'' hpat=>?_) λu_ u_ x=>x)
 refine smG λH_ k_=>?_
 obtain ⟨u_,σ'',u_,H₃,hq⟩:=hpat
 refine k_ ?_
 clear k_ H_
 refine smG λH_ k_=>?_
 obtain ⟨oL,es,ep,ho,r⟩:=hns
 refine k_ ?_
 clear k_ H_
 have kL:=H₃.kp L oL (.inr ⟨.head _,ho⟩)
 refine ⟨m,⟨oL,es,ep,kL,r⟩,λh' hs'=>⟨.next,σ'',rfl,?_,hq⟩⟩
 exact H₃.unhide.hidden (wr:=[L]) F.ok (λb o hb' e=>hs'.extBut b o (λe'=>hb' (by simp [e'])) e) rfl rfl (sing (P:=λa=>a∉_) λhm=>H₃.apartK L hm oL (.inr ⟨.head _,ho⟩)) (sing (P:=λa=>σ''.B a=none) (H₃.noB L (.inr (.head _))))
   (sing (P:=λa=>∀o,¬C.kp a o) hLk) (sing (P:=λa=>¬C.al a) hLal)
end
end Mine
namespace Mine
open PySem
section
variable {C:Cx} {hb:Heap} {prog:Program} {w:World} {sc cs:Scope} {n:Nat} {md:List Addr} {fl:Bool} {x:Str} {σ:St}
theorem Qv7 {a b:Int}{Q:MV->St->Prop}(hm:IntMulOk a b)(h:Q (.int (a*b)) σ):Bin C .Mult (.int a) (.int b) σ Q:=λva vb ha hb s H=>by
 obtain ⟨t,rfl⟩:=ha;obtain ⟨u,rfl⟩:=hb
 exact P.mul_int (hm:=hm) ⟨.int (a*b),σ,⟨_,rfl⟩,H.toks _,h⟩
theorem Qv9 {a b:Int}{Q:MV->St->Prop}(h0:b≠0)(hs:b.natAbs.log2<9000)(h:Q (.int (a.fdiv b)) σ):Bin C .FloorDiv (.int a) (.int b) σ Q:=λva vb ha hb s H=>by
 obtain ⟨t,rfl⟩:=ha;obtain ⟨u,rfl⟩:=hb
 exact PyProof.Rows.floordiv_int h0 ⟨.int (a.fdiv b),σ,⟨_,rfl⟩,H.toks _,h⟩ (.inl (PyProof.noPylong_of_log2 hs))
theorem Qv8 {a b:Int}{Q:MV->St->Prop}(h0:b≠0)(hs:b.natAbs.log2<9000)(h:Q (.int (a.fmod b)) σ):Bin C .Mod (.int a) (.int b) σ Q:=λva vb ha hb s H=>by
 obtain ⟨t,rfl⟩:=ha;obtain ⟨u,rfl⟩:=hb
 exact PyProof.Rows.mod_int h0 ⟨.int (a.fmod b),σ,⟨_,rfl⟩,H.toks _,h⟩
theorem Qv6 {a k:Int}{Q:MV->St->Prop}(h0:0<=k)(h1:k<=1000000)(ha:a.natAbs<2 ^ 64)(h:Q (.int (a ^ k.toNat)) σ):Bin C .Pow (.int a) (.int k) σ Q:=λva vb ha' hb s H=>by
 obtain ⟨t,rfl⟩:=ha';obtain ⟨u,rfl⟩:=hb
 exact PyProof.Rows.pow_int_small h0 h1 ha ⟨.int (a ^ k.toNat),σ,⟨_,rfl⟩,H.toks _,h⟩
theorem Cmp_eq {a b:Int}{Q:MV->St->Prop}(h:Q (.bool (decide (a=b))) σ):Cmp C .Eq (.int a) (.int b) σ Q:=λva vb ha hb s H=>by
 obtain ⟨t,rfl⟩:=ha;obtain ⟨u,rfl⟩:=hb
 exact P.eq_int ⟨.bool (decide (a=b)),σ,rfl,H,h⟩
theorem Cmp_ne {a b:Int}{Q:MV->St->Prop}(h:Q (.bool (!decide (a=b))) σ):Cmp C .NotEq (.int a) (.int b) σ Q:=λva vb ha hb s H=>by
 obtain ⟨t,rfl⟩:=ha;obtain ⟨u,rfl⟩:=hb
 exact P.ne_int ⟨.bool (!decide (a=b)),σ,rfl,H,h⟩
theorem Cmp_lt {a b:Int}{Q:MV->St->Prop}(h:Q (.bool (decide (a<b))) σ):Cmp C .Lt (.int a) (.int b) σ Q:=λva vb ha hb s H=>by
 obtain ⟨t,rfl⟩:=ha;obtain ⟨u,rfl⟩:=hb
 exact P.lt_int ⟨.bool (decide (a<b)),σ,rfl,H,h⟩
theorem Cmp_le {a b:Int}{Q:MV->St->Prop}(h:Q (.bool (decide (a<=b))) σ):Cmp C .LtE (.int a) (.int b) σ Q:=λva vb ha hb s H=>by
 obtain ⟨t,rfl⟩:=ha;obtain ⟨u,rfl⟩:=hb
 exact P.le_int ⟨.bool (decide (a<=b)),σ,rfl,H,h⟩
theorem Cmp_gt {a b:Int}{Q:MV->St->Prop}(h:Q (.bool (decide (b<a))) σ):Cmp C .Gt (.int a) (.int b) σ Q:=λva vb ha hb s H=>by
 obtain ⟨t,rfl⟩:=ha;obtain ⟨u,rfl⟩:=hb
 exact P.gt_int ⟨.bool (decide (b<a)),σ,rfl,H,h⟩
theorem Cmp_ge {a b:Int}{Q:MV->St->Prop}(h:Q (.bool (decide (b<=a))) σ):Cmp C .GtE (.int a) (.int b) σ Q:=λva vb ha hb s H=>by
 obtain ⟨t,rfl⟩:=ha;obtain ⟨u,rfl⟩:=hb
 exact P.ge_int ⟨.bool (decide (b<=a)),σ,rfl,H,h⟩
theorem Qnw {v:MV}{b:Bool}{Q:MV->St->Prop}(hb':b=match v with | .none=>true | .oth u=>u == .none | _=>false)(h:Q (.bool b) σ):Cmp C .Is v .none σ Q:=λva vb ha hb s H=>by
 obtain rfl:vb=.none:=hb
 refine is_none ⟨.bool b,σ,?_,H,h⟩
 show Value.bool _=.bool b
 congr 1
 cases v <;> simp only at hb' <;> subst hb'
 . obtain rfl:va=.none:=ha;rfl
 . obtain rfl:va=_:=ha;rfl
 . obtain ⟨t,rfl⟩:=ha;rfl
 . obtain ⟨t,rfl⟩:=ha;rfl
 . obtain rfl:va=_:=ha;rfl
 . obtain rfl:va=_:=ha;rfl
theorem Qjh {v:MV}{b:Bool}{Q:MV->St->Prop}(hb':b=match v with | .none=>false | .oth u=>!(u == .none) | _=>true)(h:Q (.bool b) σ):Cmp C .IsNot v .none σ Q:=λva vb ha hb s H=>by
 obtain rfl:vb=.none:=hb
 refine isNot_none ⟨.bool b,σ,?_,H,h⟩
 show Value.bool _=.bool b
 congr 1
 cases v <;> simp only at hb' <;> subst hb'
 . obtain rfl:va=.none:=ha;rfl
 . obtain rfl:va=_:=ha;rfl
 . obtain ⟨t,rfl⟩:=ha;rfl
 . obtain ⟨t,rfl⟩:=ha;rfl
 . obtain rfl:va=_:=ha;rfl
 . obtain rfl:va=_:=ha;rfl
theorem Qpo {l r₁ r₂:Expr}{o₁ o₂:CmpOp}{pos:Pos}{Q:Bool->St->Prop}(hm:lastMarks [o₁,o₂] [r₁,r₂]=false)
   (h:Ex C l σ (λa σ₁=>Ex C r₁ σ₁ (λb σ₂=>Cmp C o₁ a b σ₂ (λc σ₃=>Trt C c σ₃ (λt σ₄=>if t then Ex C r₂ σ₄ (λd σ₅=>Cmp C o₂ b d σ₅ (λe σ₆=>Trt C e σ₆ Q)) else Q false σ₄))))) :
   Ts C (.Compare l [o₁,o₂] [r₁,r₂] pos) σ Q:=λs H=>by
 refine PyProof.Rows.isTrue_chain (wpAny_mono (h s H) (λva s₁ hpat=>?_) λu_ u_ x=>x) hm
 refine smG λH_ k_=>?_
 obtain ⟨a,σ₁,ha,H₁,h₁⟩:=hpat
 refine k_ ?_
 clear k_ H_
 refine PyProof.Rows.test_link (wpAny_mono (h₁ s₁ H₁) (λvb s₂ ⟨b,σ₂,hb',H₂,h₂⟩=>wpAny_mono (h₂ va vb ha hb' s₂ H₂) (λvc s₃ ⟨c,σ₃,hc,H₃,h₃⟩=>wpAny_mono (h₃ vc hc s₃ H₃) (λt s₄ hpat=>?_) λu_ u_ x=>x) λu_ u_ x=>x) λu_ u_ x=>x)
 refine smG λH_ k_=>?_
 obtain ⟨t',σ₄,e,H₄,h₄⟩:=hpat
 refine k_ ?_
 clear k_ H_
 subst e
 cases t' with
 | true =>
   refine PyProof.Rows.test_last (wpAny_mono (h₄ s₄ H₄) (λvd s₅ ⟨d,σ₅,hd,H₅,h₅⟩=>wpAny_mono (h₅ vb vd hb' hd s₅ H₅) (λve s₆ ⟨e,σ₆,he,H₆,h₆⟩=>h₆ ve he s₆ H₆) λu_ u_ x=>x) λu_ u_ x=>x)
 | false=>exact ⟨false,σ₄,rfl,H₄,h₄⟩
theorem Qrf {l r₁ r₂:Expr}{o₁ o₂:CmpOp}{pos:Pos}{Q:MV->St->Prop}(hm:lastMarks [o₁,o₂] [r₁,r₂]=false)
   (h:Ex C l σ (λa σ₁=>Ex C r₁ σ₁ (λb σ₂=>Cmp C o₁ a b σ₂ (λc σ₃=>Trt C c σ₃ (λt σ₄=>if t then Ex C r₂ σ₄ (λd σ₅=>Cmp C o₂ b d σ₅ Q) else Q c σ₄))))) :
   Ex C (.Compare l [o₁,o₂] [r₁,r₂] pos) σ Q:=λs H=>by
 refine PyProof.Rows.Compare_chain (wpAny_mono (h s H) (λva s₁ hpat=>?_) λu_ u_ x=>x) hm
 refine smG λH_ k_=>?_
 obtain ⟨a,σ₁,ha,H₁,h₁⟩:=hpat
 refine k_ ?_
 clear k_ H_
 refine PyProof.Rows.chain_link (wpAny_mono (h₁ s₁ H₁) (λvb s₂ ⟨b,σ₂,hb',H₂,h₂⟩=>wpAny_mono (h₂ va vb ha hb' s₂ H₂) (λvc s₃ ⟨c,σ₃,hc,H₃,h₃⟩=>wpAny_mono (h₃ vc hc s₃ H₃) (λt s₄ hpat=>?_) λu_ u_ x=>x) λu_ u_ x=>x) λu_ u_ x=>x)
 refine smG λH_ k_=>?_
 obtain ⟨t',σ₄,e,H₄,h₄⟩:=hpat
 refine k_ ?_
 clear k_ H_
 subst e
 cases t' with
 | true =>
   refine PyProof.Rows.chain_last (wpAny_mono (h₄ s₄ H₄) (λvd s₅ ⟨d,σ₅,hd,H₅,h₅⟩=>h₅ vb vd hb' hd s₅ H₅) λu_ u_ x=>x)
 | false=>exact ⟨c,σ₄,hc,H₄,h₄⟩
noncomputable def Qoq:Expr->Bool
 | .Slice .. => false
 | _=>true
theorem Qfs {e:Expr}{o i:Value}(h:Qoq e=true):subscripted e false o i=operate [o,i] (getItem o i):=by
 cases e <;> first | rfl | exact Bool.noConfusion h
noncomputable def SubG (C:Cx)(o i:MV)(σ:St)(Q:MV->St->Prop):Prop :=
 ∀s,Holds C σ s->∀vo vi,VR o vo->VR i vi->∃T id,s.TypeIs vo T/\typeLookup (.type T) "__getitem__" = pure (some (.builtin id)) /\
   wpAny (model C.prog C.w) C.A (getItem vo vi) (Out C VR Q) (λu_ u_=>False) s
abbrev SubK2 (C:Cx)(Q:MV->St->Prop)(o:MV):MV->St->Prop:=λi σ₂=>SubG C o i σ₂ Q
abbrev SubK (C:Cx)(slice:Expr)(Q:MV->St->Prop):MV->St->Prop:=λo σ₁=>Ex C slice σ₁ (SubK2 C Q o)
theorem Qkk {value slice:Expr}{pos:Pos}{Q:MV->St->Prop}(hs:Qoq slice=true)(h:Ex C value σ (SubK C slice Q)):Ex C (.Subscript value slice pos) σ Q:=λs H=>by
 refine PyProof.Rows.Subscript_ (wpAny_mono (h s H) (λvo s₁ ⟨o,σ₁,ho,H₁,h₁⟩=>wpAny_mono (h₁ s₁ H₁) (λvi s₂ hpat=>?_) λu_ u_ x=>x) λu_ u_ x=>x)
 refine smG λH_ k_=>?_
 obtain ⟨i,σ₂,hi,H₂,h₂⟩:=hpat
 refine k_ ?_
 clear k_ H_
 refine smG λH_ k_=>?_
 obtain ⟨T,id,hT,hl,hw⟩:=h₂ s₂ H₂ vo vi ho hi
 refine k_ ?_
 clear k_ H_
 exact PyProof.Rows.tail_any hT hl hw (Qfs hs)
theorem idx_of {k:Int}{len:Nat}{j:Nat}(h0:0<=k)(hj:k.toNat=j)(hlt:j<len):seqIndex? k len=some j:=by
 subst hj;exact seqIndex_of h0 (by exact om304 ‹_› ‹_›)
theorem Qe9 {k:Nat}(h:k<=lim):(k:Int)<2 ^ 63:=by unfold lim at h;omega
theorem Qae {a:Addr}{xs:List MV}{k:Int}{m:MV}{Q:MV->St->Prop}(hh:Has σ a (.list xs))(h0:0<=k)(hm:xs[k.toNat]? = some m)(h:Q m σ):SubG C (.ref a) (.int k) σ Q:=λs H vo vi ho hi=>by
 obtain rfl:vo=.ref a:=ho
 refine smG λH_ k_=>?_
 obtain ⟨t,rfl⟩:=hi
 refine k_ ?_
 clear k_ H_
 refine smG λH_ k_=>?_
 obtain ⟨vs,nn,hob,hr,hlim⟩:=H.has hh
 refine k_ ?_
 clear k_ H_
 refine smG λH_ k_=>?_
 obtain ⟨v,hv,hvr⟩:=hr.get hm
 refine k_ ?_
 clear k_ H_
 have hl:s.heap.IsList a vs:=⟨_,hob,rfl,nn,rfl⟩
 have hlt:k.toNat<xs.length:=(Qck.mp hm).1
 refine ⟨"list",_,hl.typeIs,list_getitem_lookup,wpAny_getItem_list hl h0 ?_ (by rw [<-Qpy];exact hv) ⟨m,σ,hvr,H,h⟩⟩
 unfold lim at hlim;omega
theorem Qja {a:Addr}{xs:List MV}{k:Int}{m:MV}{Q:MV->St->Prop}(hh:Has σ a (.tup xs))(h0:0<=k)(hm:xs[k.toNat]? = some m)(h:Q m σ):SubG C (.ref a) (.int k) σ Q:=λs H vo vi ho hi=>by
 obtain rfl:vo=.ref a:=ho
 refine smG λH_ k_=>?_
 obtain ⟨t,rfl⟩:=hi
 refine k_ ?_
 clear k_ H_
 refine smG λH_ k_=>?_
 obtain ⟨vs,nn,hob,hr,hlim⟩:=H.has hh
 refine k_ ?_
 clear k_ H_
 refine smG λH_ k_=>?_
 obtain ⟨v,hv,hvr⟩:=hr.get hm
 refine k_ ?_
 clear k_ H_
 have hlt:k.toNat<xs.length:=(Qck.mp hm).1
 have hsz:vs.size=xs.length:=by have:=hr.length;simp at this;exact this.symm
 unfold lim at hlim
 exact ⟨"tuple",_,⟨_,hob,rfl⟩,F.slot_tuple_getitem.lookup,P.getItem_tuple (n:=nn) hob (by omega) (by omega) (idx_of h0 rfl (by exact om310 ‹_› ‹_›)) (by rw [<-Qpy];exact hv) ⟨m,σ,hvr,H,h⟩⟩
theorem Qlq {o i e:Expr}{p' pos:Pos}{Q:MF->St->Prop}(hs:swapsWith e (some (.Subscript o i p')) pos.line C.env=pure false)
   (h:Ex C e σ (λv σ₁=>Ex C o σ₁ (λov σ₂=>Ex C i σ₂ (λiv σ₃=>∀s,Holds C σ₃ s->∀vv vo vi,VR v vv->VR ov vo->VR iv vi ->
     wpAny (model C.prog C.w) C.A (setItem vo vi vv) (λu_ s'=>∃σ',Holds C σ' s'/\Q .next σ') (λu_ u_=>False) s)))):Stm C (.Assign [.Subscript o i p'] e pos) σ Q:=λs H=>by
 refine wpAny_Assign_Subscript (hs:=hs) (wpAny_mono (h s H) (λvv s₁ ⟨v,σ₁,hv,H₁,h₁⟩=>wpAny_mono (h₁ s₁ H₁) (λvo s₂ ⟨ov,σ₂,ho,H₂,h₂⟩=>wpAny_mono (h₂ s₂ H₂) (λvi s₃ hpat=>?_) λu_ u_ x=>x) λu_ u_ x=>x) λu_ u_ x=>x)
 refine smG λH_ k_=>?_
 obtain ⟨iv,σ₃,hi,H₃,h₃⟩:=hpat
 refine k_ ?_
 clear k_ H_
 exact wpAny_mono (h₃ s₃ H₃ vv vo vi hv ho hi) (λu_ s' ⟨σ',H',hq⟩=>⟨.next,σ',rfl,H',hq⟩) λu_ u_ x=>x
end
end Mine
namespace Mine
open PySem
section
variable {C:Cx} {hb:Heap} {prog:Program} {w:World} {sc cs:Scope} {n:Nat} {md:List Addr} {fl:Bool} {x:Str} {σ:St}
structure IsFn (hb:Heap)(fa:Addr):Prop where
 ex:∃o fd,hb.get? fa=some o/\o.data=.func fd
theorem Qkm {f:Str}{p pos:Pos}{e:Expr}{rest:List Expr}{fa:Addr}{Q:MV->St->Prop}(OK:C.Ok hb)(g:Gl hb f (.ref fa))(hk:C.env.kindOf f=some .globalImplicit)(hf:IsFn hb fa)
   (he:starEach (e::rest) C.env=(false,eval e C.env)::starEach rest C.env)
   (h:Exs C pos (e::rest) σ (Qrt C (.ref fa) Q)):Ex C (.Call (.Name f p) (e::rest) [] pos) σ Q:=λs H=>by
 obtain ⟨o,fd,ho,hd⟩:=hf.ex
 refine PyProof.Rows.Call_ (wpAny_mono (Qec (Q:=λv σ'=>v=.ref fa/\σ'=σ) OK g hk ⟨rfl,rfl⟩ s H) (λvf s₁ hpat=>?_) λu_ u_ x=>x)
 obtain ⟨u_,u_,hv,H₁,e1,e2⟩:=hpat
 subst e1 e2
 obtain rfl:vf=.ref fa:=hv
 exact PyProof.Rows.callWith_def (o:=o) hd (wpAny_mono (h s₁ H₁) (λvs s₂ ⟨ms,σ₂,hms,H₂,h₂⟩=>⟨H₂.base OK _ _ ho,h₂ vs hms s₂ H₂⟩) λu_ u_ x=>x) he
theorem Qtf {f:Str}{p pos:Pos}{e:Expr}{rest:List Expr}{id:String}{Q:MV->St->Prop}(OK:C.Ok hb)(g:Gl hb f (.oth (.builtin id)))(hk:C.env.kindOf f=some .globalImplicit)
   (he:starEach (e::rest) C.env=(false,eval e C.env)::starEach rest C.env) (hplain:(backTo pos (starEach rest C.env)).any (·.1)=false)
   (h:Exs C pos (e::rest) σ (Qrt C (.builtin id) Q)):Ex C (.Call (.Name f p) (e::rest) [] pos) σ Q:=λs H=>by
 refine PyProof.Rows.Call_ (wpAny_mono (Qec (Q:=λv σ'=>v=.oth (.builtin id)/\σ'=σ) OK g hk ⟨rfl,rfl⟩ s H) (λvf s₁ hpat=>?_) λu_ u_ x=>x)
 obtain ⟨u_,u_,hv,H₁,e1,e2⟩:=hpat
 subst e1 e2
 obtain rfl:vf=.builtin id:=hv
 exact PyProof.Rows.callWith_builtin1 (wpAny_mono (h s₁ H₁) (λvs s₂ ⟨ms,σ₂,hms,H₂,h₂⟩=>h₂ vs hms s₂ H₂) λu_ u_ x=>x) he hplain
theorem Qfn {f:Str}{p pos:Pos}{e:Expr}{rest:List Expr}{T:String}{Q:MV->St->Prop}(OK:C.Ok hb)(g:Gl hb f (.oth (.type T)))(hk:C.env.kindOf f=some .globalImplicit)
   (he:starEach (e::rest) C.env=(false,eval e C.env)::starEach rest C.env) (hplain:(backTo pos (starEach (e::rest) C.env)).any (·.1)=false)
   (h:Exs C pos (e::rest) σ (Qrt C (.type T) Q)):Ex C (.Call (.Name f p) (e::rest) [] pos) σ Q:=λs H=>by
 refine PyProof.Rows.Call_ (wpAny_mono (Qec (Q:=λv σ'=>v=.oth (.type T)/\σ'=σ) OK g hk ⟨rfl,rfl⟩ s H) (λvf s₁ hpat=>?_) λu_ u_ x=>x)
 obtain ⟨u_,u_,hv,H₁,e1,e2⟩:=hpat
 subst e1 e2
 obtain rfl:vf=.type T:=hv
 refine callWith_type hplain ?_
 have hx:backTo pos (starEach (e::rest) C.env)=(false,eval e C.env)::backTo pos (starEach rest C.env):=by rw [he];rfl
 rw [hx]
 refine Calls.evalArgs_plain ?_
 rw [<-hx]
 exact wpAny_mono (h s₁ H₁) (λvs s₂ ⟨ms,σ₂,hms,H₂,h₂⟩=>h₂ vs hms s₂ H₂) λu_ u_ x=>x
theorem VsR.one {m:MV}{vs:List Value}(h:VsR [m] vs):∃v,vs=[v]/\VR m v:=by
 cases h with | cons h1 h2=>cases h2;exact ⟨_,rfl,h1⟩
theorem VsR.two {m m':MV}{vs:List Value}(h:VsR [m,m'] vs):∃v v',vs=[v,v']/\VR m v/\VR m' v':=by
 cases h with | cons h1 h2=>cases h2 with | cons h3 h4=>cases h4;exact ⟨_,_,rfl,h1,h3⟩
theorem Qji {a:Addr}{xs:List MV}{Q:MV->St->Prop}(hh:Has σ a (.list xs))(h:Q (.int xs.length) σ):Qb0 C (.builtin "len") [.ref a] σ Q:=λvs hvs s H=>by
 obtain ⟨v,rfl,hv⟩:=hvs.one
 obtain rfl:v=.ref a:=hv
 obtain ⟨vs,nn,hob,hr,hlim⟩:=H.has hh
 have hsz:vs.size=xs.length:=by have:=hr.length;simp at this;exact this.symm
 refine Calls.call_len_list (items:=vs) ⟨_,hob,rfl,nn,rfl⟩ (by rw [hsz];exact Qe9 hlim) ⟨.int xs.length,σ,?_,H.toks _,h⟩
 rw [hsz];exact ⟨_,rfl⟩
theorem Qkn {a:Addr}{xs:List MV}{Q:MV->St->Prop}(hh:Has σ a (.tup xs))(h:Q (.int xs.length) σ):Qb0 C (.builtin "len") [.ref a] σ Q:=λvs hvs s H=>by
 obtain ⟨v,rfl,hv⟩:=hvs.one
 obtain rfl:v=.ref a:=hv
 obtain ⟨vs,nn,hob,hr,hlim⟩:=H.has hh
 have hsz:vs.size=xs.length:=by have:=hr.length;simp at this;exact this.symm
 refine P.len_tuple (items:=vs) (n:=nn) hob (by rw [hsz];have:=Qe9 hlim;exact om311 ‹_› ‹_›) ⟨.int xs.length,σ,?_,H.toks _,h⟩
 rw [hsz];exact ⟨_,rfl⟩
theorem Qhz {a:Addr}{xs:List MV}{Q:MV->St->Prop}(OK:C.Ok hb)(hh:Has σ a (.list xs))(h:∀b,Fsh C.mod σ b->Q (.ref b) { σ with own:=(b,.list xs)::σ.own }):Qb0 C (.type "list") [.ref a] σ Q:=λvs hvs s H=>by
 obtain ⟨v,rfl,hv⟩:=hvs.one
 obtain rfl:v=.ref a:=hv
 obtain ⟨vs,nn,hob,hr,hlim⟩:=H.has hh
 have hsz:vs.size=xs.length:=by have:=hr.length;simp at this;exact this.symm
 refine call_list_seq a (.inl rfl) hob rfl rfl (λh' c' hk hD=>?_) (by rw [hsz];exact Qdg hlim Qdv)
 refine ⟨.ref s.heap.objs.size,{ σ with own:=(s.heap.objs.size,.list xs)::σ.own },rfl,?_,h _ (H.fsh OK)⟩
 exact (H.ext (s':={ s with heap:=h' }) hk rfl rfl).addO (Qb4 H) ⟨vs,c',hD,hr,hlim⟩
theorem Qar {k:Int}{Q:MV->St->Prop}(h0:0<=k)(h1:k.toNat<=lim)(h:∀a,Q (.ref a) { σ with own:=(a,.range k.toNat)::σ.own }):Qb0 C (.type "range") [.int k] σ Q:=λvs hvs s H=>by
 obtain ⟨v,rfl,t,rfl⟩:=hvs.one
 refine call_range_1 ⟨.ref s.heap.objs.size,_,rfl,(H.new (mo:=.range k.toNat) ⟨s.toks,t,s.toks+1,?_,h1⟩).toks _,h _⟩
 have:((k.toNat:Nat):Int)=k:=by exact om54 ‹_›
 show (s.heap.push _).get? _=_
 rw [this];exact Heap.get?_push_size _ rfl
theorem Qfo {m:MV}{T:String}{b:Bool}{Q:MV->St->Prop}(hi:∀s,Holds C σ s->∀v,VR m v->∀Q':Value->Shared->Prop,(∀t,Q' (.bool b) { s with toks:=t })->wpAny (model C.prog C.w) C.A (call (.builtin "isinstance") [v,.type T]) Q' (λu_ u_=>False) s)
   (h:Q (.bool b) σ):Qb0 C (.builtin "isinstance") [m,.oth (.type T)] σ Q:=λvs hvs s H=>by
 obtain ⟨v,v',rfl,hv,hv'⟩:=hvs.two
 obtain rfl:v'=.type T:=hv'
 exact hi s H v hv _ λt=>⟨.bool b,σ,rfl,H.toks t,h⟩
theorem Qlb {i:Int}{Q:MV->St->Prop}(h:Q (.bool true) σ):Qb0 C (.builtin "isinstance") [.int i,.oth (.type "int")] σ Q :=
 Qfo (b:=true) (λs H v hv Q' hq=>by obtain ⟨t,rfl⟩:=hv;exact IsiPair.int_int (hq s.toks)) h
theorem Qjx {i:Int}{Q:MV->St->Prop}(h:Q (.bool false) σ):Qb0 C (.builtin "isinstance") [.int i,.oth (.type "bool")] σ Q :=
 Qfo (b:=false) (λs H v hv Q' hq=>by obtain ⟨t,rfl⟩:=hv;exact IsiPair.int_bool (hq _)) h
theorem Qit {a:Addr}{xs:List MV}{Q:MV->St->Prop}(hh:Has σ a (.list xs))(h:Q (.bool true) σ):Qb0 C (.builtin "isinstance") [.ref a,.oth (.type "list")] σ Q :=
 Qfo (b:=true) (λs H v hv Q' hq=>by obtain rfl:v=.ref a:=hv;obtain ⟨vs,nn,hob,u_⟩:=H.has hh;exact IsiPair.list_list hob rfl (hq s.toks)) h
theorem Qk9 {a:Addr}{xs:List MV}{Q:MV->St->Prop}(hh:Has σ a (.tup xs))(h:Q (.bool true) σ):Qb0 C (.builtin "isinstance") [.ref a,.oth (.type "tuple")] σ Q :=
 Qfo (b:=true) (λs H v hv Q' hq=>by obtain rfl:v=.ref a:=hv;obtain ⟨vs,nn,hob,u_⟩:=H.has hh;exact IsiPair.tuple_tuple hob rfl (hq s.toks)) h
theorem Qrn {a b:Str}{Q:MV->St->Prop}(h:Q (.bool (decide (a=b))) σ):Cmp C .Eq (.str a) (.str b) σ Q:=λva vb ha hb s H=>by
 obtain ⟨t,rfl⟩:=ha;obtain ⟨u,rfl⟩:=hb
 refine P.eq_str ⟨.bool (decide (a=b)),σ,?_,H,h⟩
 show Value.bool _=_
 congr 1
 by_cases hab:a=b
 . subst hab;simp
 . rw [decide_eq_false hab]
   refine beq_eq_false_iff_ne.mpr λhl=>hab ?_
   cases a;cases b
   simp only [Str.mk.injEq]
   exact Array.toList_inj.mp hl
theorem Qtk {a b:Int}{Q:MV->St->Prop}(OK:C.Ok hb)(h:Q (.int (max a b)) σ):Qb0 C (.builtin "max") [.int a,.int b] σ Q:=λvs hvs s H=>by
 obtain ⟨v,v',rfl,⟨t,rfl⟩,⟨u,rfl⟩⟩:=hvs.two
 refine max_two_ints OK.handled λh' tk hk=>?_
 refine ⟨.int (max a b),σ,?_,H.ext hk rfl rfl,h⟩
 split
 . exact ⟨_,by congr 1;exact om313 ‹_›⟩
 . exact ⟨_,by congr 1;exact om316 ‹_›⟩
theorem Qtj {a b:Int}{Q:MV->St->Prop}(OK:C.Ok hb)(h:Q (.int (min a b)) σ):Qb0 C (.builtin "min") [.int a,.int b] σ Q:=λvs hvs s H=>by
 obtain ⟨v,v',rfl,⟨t,rfl⟩,⟨u,rfl⟩⟩:=hvs.two
 refine min_two_ints OK.handled λh' tk hk=>?_
 refine ⟨.int (min a b),σ,?_,H.ext hk rfl rfl,h⟩
 split
 . exact ⟨_,by congr 1;exact om312 ‹_›⟩
 . exact ⟨_,by congr 1;exact om315 ‹_›⟩
set_option maxRecDepth 100000 in
theorem Qii {A:Around}{E:Value->Shared->Prop}{s:Shared}{l:Addr}{items:Array Value}{nn:Nat}{k:Int}{j:Nat}{t:Tok}{v:Value}{Q:Unit->Shared->Prop}(hkj:k=j)
   (ho:s.heap.get? l=some { cls:=.type "list",dict:=none,data:=.seq items nn,slots:=#[] }) (hfit:k<2 ^ 63) (hj:j<items.size)
   (hQ:Q () { s with heap:=s.heap.update l (Obj.mapSeq (·.setIfInBounds j v)) }):wpAny (model prog w) A (setItem (.ref l) (.int k t) v) Q E s:=by
 have h0:0<=k:=by exact om314 ‹_› ‹_›
 have hl:s.heap.IsList l items:=⟨_,ho,rfl,nn,rfl⟩
 unfold setItem
 try with_reducible refine wpAny_holding ?_
 first | refine wpAny_bind (wpAny_pure ?_) | skip
 refine wpAny_bind (wpAny_sequenceKey hl.typeIs (by decide) ?_)
 refine wpAny_bind (wpAny_callSpecial?_slot (name:=Qa "__setitem__") hl.typeIs slot_list_setitem (wpAny_call_entry slot_list_setitem hl.typeIs entry_list_setitem ?_ (args_list_setitem _ _ _)))
 show wpAny _ _ (Builtin.List.listSubscript? (.int k t) >>= _) _ _ s
 refine wpAny_bind (wpAny_listSubscript_int (fitsIndex_of h0 hfit) ?_)
 clear hfit
 subst hkj
 have hx':items[j]? = some items[j]:=Array.getElem?_eq_getElem hj
 show wpAny _ _ ((seqItemAt l j >>= λr=>pure (r.map (j,·))) >>= _) _ _ s
 refine wpAny_bind (wpAny_bind (wpAny_seqItemAt ho rfl (wpAny_pure ?_)))
 rw [hx']
 show wpAny _ _ (setSeqItemAt l j v >>= _) _ _ s
 refine wpAny_bind (wpAny_setSeqItemAt ho rfl ?_)
 first
   | exact wpAny_bind (wpAny_pure (wpAny_pure ⟨.none,rfl,wpAny_pure hQ⟩))
   | exact wpAny_pure ⟨.none,rfl,wpAny_pure hQ⟩
theorem Qke {a:Addr}{xs:List MV}{k:Int}{m:MV}{own':Own}{Q:MF->St->Prop}(OK:C.Ok hb)(u:Upd σ.own a (.list xs) (.list (xs.set k.toNat m)) own')(h0:0<=k)(h1:k<xs.length)(h:Q .next { σ with own:=own' }) :
   ∀s,Holds C σ s->∀vv vo vi,VR m vv->VR (.ref a) vo->VR (.int k) vi->wpAny (model C.prog C.w) C.A (setItem vo vi vv) (λu_ s'=>∃σ',Holds C σ' s'/\Q .next σ') (λu_ u_=>False) s:=λs H vv vo vi hv ho hi=>by
 obtain rfl:vo=.ref a:=ho
 obtain ⟨t,rfl⟩:=hi
 obtain ⟨vs,nn,hob,hr,hlim⟩:=H.own _ u.mem
 have hsz:vs.size=xs.length:=by have:=hr.length;simp at this;exact this.symm
 obtain ⟨j,rfl⟩:=Qy5 h0
 have hj:j<vs.size:=by exact om317 ‹_› ‹_›
 refine Qii rfl hob (Qe9 (by exact om318 ‹_› ‹_› ‹_›)) hj ⟨{ σ with own:=own' },H.upd OK u (λb ob hb' e=>by rw [Heap.get?_update_other _ _ (Ne.symm hb')];exact e) ?_ rfl rfl,h⟩
 refine ⟨vs.setIfInBounds j vv,nn,?_,?_,by simpa using hlim⟩
 . have:=Heap.get?_update_self (Obj.mapSeq (·.setIfInBounds j vv)) hob rfl
   simpa [Obj.mapSeq] using this
 . have:=hr.set hv j
   simpa using this
end
end Mine
namespace Mine
open PySem PySem.SeqAt
section
variable {C:Cx} {hb:Heap} {prog:Program} {w:World} {sc cs:Scope} {n:Nat} {md:List Addr} {fl:Bool} {x:Str} {σ:St}
theorem Qrh {o e:Expr}{apos pos:Pos}{Q:MV->St->Prop}(OK:C.Ok hb)(hbase:attributeBase o "append" C.env (eval o C.env)=eval o C.env)(hline:(apos.endLine == pos.line)=true)
   (he:backTo pos (starEach [e] C.env)=[(false,eval e C.env)])
   (h:Ex C o σ (λov σ₁=>∃a xs,ov=.ref a/\Has σ₁ a (.list xs)/\Ex C e σ₁ (λv σ₂=>∃ys own',Upd σ₂.own a (.list ys) (.list (ys++[v])) own'/\ys.length+1<=lim/\Q .none { σ₂ with own:=own' }))) :
   Ex C (.Call (.Attribute o "append" apos) [e] [] pos) σ Q:=λs H=>by
 refine wpAny_Call_method hbase (by rw [he];rfl) hline F.plainAttrs_list F.slot_list_append F.type_list_append (wpAny_mono (h s H) (λvo s₁ hpat=>?_) λu_ u_ x=>x)
 refine smG λH_ k_=>?_
 obtain ⟨ov,σ₁,ho,H₁,a,xs,e1,hh,h₁⟩:=hpat
 refine k_ ?_
 clear k_ H_
 subst e1
 obtain rfl:vo=.ref a:=ho
 refine smG λH_ k_=>?_
 obtain ⟨vs,nn,hob,hr,hlim⟩:=H₁.has hh
 refine k_ ?_
 clear k_ H_
 refine ⟨⟨_,hob,rfl⟩,λb e'=>by cases e';exact ⟨_,hob,rfl⟩,?_⟩
 rw [he]
 refine P.append_list (wpAny_mono (h₁ s₁ H₁) (λv s₂ hpat=>?_) λu_ u_ x=>x)
 refine smG λH_ k_=>?_
 obtain ⟨m,σ₂,hv,H₂,ys,own',u,hl,hq⟩:=hpat
 refine k_ ?_
 clear k_ H_
 refine smG λH_ k_=>?_
 obtain ⟨vs',n',hob',hr',hlim'⟩:=H₂.own _ u.mem
 refine k_ ?_
 clear k_ H_
 have hsz:vs'.size=ys.length:=by have:=hr'.length;simp at this;exact this.symm
 refine ⟨vs',n',by rw [hsz];exact Qdg hlim' Qdv,hob',.none,{ σ₂ with own:=own' },rfl,?_,hq⟩
 refine H₂.upd OK u (λb ob hb' e'=>by rw [Heap.get?_update_other _ _ (Ne.symm hb')];exact e') ?_ rfl rfl
 refine ⟨vs'.push v,_,IsL.update hob' λxs=>xs.push v,?_,by simpa using hl⟩
 simpa using hr'.snoc hv
inductive EqM (σ:St):MV->MV->Bool->Prop
 | same (a:Addr):EqM σ (.ref a) (.ref a) true
 | int (i j:Int):EqM σ (.int i) (.int j) (decide (i=j))
 | str (x y:Str):EqM σ (.str x) (.str y) (decide (x=y))
 | none:EqM σ .none .none true
 | bool (b:Bool):EqM σ (.bool b) (.bool b) true
theorem EqM.at {s:Shared}(H:Holds C σ s){m m':MV}{b:Bool}(h:EqM σ m m' b){v v':Value}(hv:VR m v)(hv':VR m' v')(A:Around):EqAt A s v v' b:=by
 cases h with
 | same a=>obtain rfl:v=_:=hv;obtain rfl:v'=_:=hv';exact EqAt.same _
 | int i j=>obtain ⟨t,rfl⟩:=hv;obtain ⟨u,rfl⟩:=hv';exact (MeetsSeq.EqGives.int i j t u).at A s
 | str x y=>obtain ⟨t,rfl⟩:=hv;obtain ⟨u,rfl⟩:=hv';exact λprog w E Q hq=>wpAny_eqBool_str hq
 | none=>obtain rfl:v=_:=hv;obtain rfl:v'=_:=hv';exact EqAt.same _
 | bool b=>obtain rfl:v=_:=hv;obtain rfl:v'=_:=hv';exact EqAt.same _
theorem Qny {a b:Addr}{xs ys:List MV}{e:Nat->Bool}{Q:MV->St->Prop}(OK:C.Ok hb)(ha:Has σ a (.list xs))(hb':Has σ b (.list ys))(hlen:xs.length=ys.length)
   (he:∀i m m',xs[i]? = some m->ys[i]? = some m'->EqM σ m m' (e i)) (h:Q (.bool ((List.range xs.length).all e)) σ):Cmp C .Eq (.ref a) (.ref b) σ Q:=λva vb hva hvb s H=>by
 obtain rfl:va=_:=hva
 obtain rfl:vb=_:=hvb
 refine smG λH_ k_=>?_
 obtain ⟨vs,nn,hob,hr,hlim⟩:=H.has ha
 refine k_ ?_
 clear k_ H_
 refine smG λH_ k_=>?_
 obtain ⟨us,nn',hob',hr',hlim'⟩:=H.has hb'
 refine k_ ?_
 clear k_ H_
 have hsz:vs.size=xs.length:=by have:=hr.length;simp at this;exact this.symm
 have hsz':us.size=ys.length:=by have:=hr'.length;simp at this;exact this.symm
 refine eq_listAt (items:=vs) (items2:=us) (e:=e) ⟨_,hob,rfl,nn,rfl⟩ ⟨_,hob',rfl,nn',rfl⟩ (by omega) (by have:=OK.units;omega) (λj h1 h2=>?_) ?_
 . refine smG λH_ k_=>?_
   obtain ⟨m,hm,hmr⟩:=hr.getv (i:=j) (v:=vs[j]) (by simp [h1])
   refine k_ ?_
   clear k_ H_
   refine smG λH_ k_=>?_
   obtain ⟨m',hm',hmr'⟩:=hr'.getv (i:=j) (v:=us[j]) (by simp [h2])
   refine k_ ?_
   clear k_ H_
   exact (he j m m' hm hm').at H hmr hmr' _
 . rw [hsz];exact ⟨.bool _,σ,rfl,H,h⟩
end
end Mine
namespace Mine
open PySem
noncomputable def Sub0 (B B':MH):Prop:=∀a o,B a=some o->B' a=some o
theorem Sub0.rfl' (B:MH):Sub0 B B:=λu_ u_ h=>h
noncomputable def Fin (Q:MV->MH->Own->Prop)(B:MH)(r:MV)(σ:St):Prop:=∃B₂ own₂,Sub0 B₂ σ.B/\Sub0 B B₂/\own₂.Sublist σ.own/\Q r B₂ own₂
section
variable {C:Cx} {hb:Heap} {prog:Program} {w:World} {sc cs:Scope} {n:Nat} {md:List Addr} {fl:Bool} {x:Str} {σ:St}
theorem Holds.drop {s:Shared}{B₂:MH}{own₂:Own}(H:Holds C σ s)(h1:Sub0 B₂ σ.B)(h2:Sub0 C.B0 B₂)(h3:own₂.Sublist σ.own):Holds C { σ with B:=B₂,own:=own₂ } s:=by
 have hsub:(own₂.map (·.1)++C.fr).Sublist (σ.own.map (·.1)++C.fr):=(h3.map _).append (List.Sublist.refl _)
 have bn:∀a,σ.B a=none->B₂ a=none:=λa ha=>by
   cases e:B₂ a with
   | none=>rfl
   | some o=>rw [h1 a o e] at ha;cases ha
 exact {
   kp:=H.kp,names:=H.names,ns:=H.ns,cells:=H.cells,alive:=H.alive,gens:=H.gens,os:=H.os,al:=H.al
   B:=λa o h=>H.B a o (h1 a o h)
   own:=λp hp=>H.own p (h3.mem hp)
   nodup:=hsub.nodup H.nodup
   apartB:=λa ha=>bn a (H.apartB a (hsub.mem ha))
   apartK:=λa ha=>H.apartK a (hsub.mem ha)
   B0:=h2
   Bnew:=λa o h=>H.Bnew a o (h1 a o h)
   ownNew:=λp hp=>H.ownNew p (h3.mem hp)
   noB:=λa ha=>bn a (H.noB a ha) }
end
end Mine
namespace Mine
open PySem
noncomputable def Qe1 (p:Program)(i:Nat):DefRec:=match p.main.body[i]? with | some (.FunctionDef n a b _ _ _ s _ _ pos)=>⟨n,a,b,s,pos⟩ | _=>⟨default,default,[],default,default⟩
noncomputable def Qan (p:Program)(i:Nat):List Stmt:=(Qe1 p i).body
noncomputable def Qij (p:Program)(i:Nat):Scope:=(Qe1 p i).scope
noncomputable def Qe2 (p:Program)(i:Nat):List Str:=(Qe1 p i).params.args.map (·.arg)
structure FnC (prog:Program)(w:World)(hb:Heap)(f:Str)(n:Nat)(S:Spec):Prop where
 ex:∃fa,Gl hb f (.ref fa)/\IsFn hb fa/\Contract prog w hb (.ref fa) n S
section
variable {C:Cx} {hb:Heap} {prog:Program} {w:World} {sc cs:Scope} {n:Nat} {md:List Addr} {fl:Bool} {x:Str} {σ:St}
theorem Fx.kind (F:Fx C hb prog w sc n md fl){x:Str}{k:NameKind}(h:sc.names.lookup x=some k):C.env.kindOf x=some k:=by unfold Env.kindOf;rw [F.esc];exact h
theorem Qug {x:Str}{v:MV}:put [] x v=[(x,v)]:=rfl
theorem put_hd {l:Loc}{x:Str}{u v:MV}:put ((x,u)::l) x v=(x,v)::l:=by simp [put]
theorem put_tl {l l':Loc}{x y:Str}{u v:MV}(h:x≠y)(h':put l x v=l'):put ((y,u)::l) x v=(y,u)::l':=by simp only [put,h,if_false,h']
theorem Qsw:capt cs []=[]:=rfl
theorem Qpg {l l':Loc}{y:Str}{u:MV}(h:cs.names.lookup y=some .free)(h':capt cs l=l'):capt cs ((y,u)::l)=(y,u)::l':=by simp only [capt,h,if_true,h']
theorem Qpf {l l':Loc}{y:Str}{u:MV}(h:cs.names.lookup y≠some .free)(h':capt cs l=l'):capt cs ((y,u)::l)=l':=by simp only [capt,h,if_false,h']
theorem Qe6:∀{a b:List Char},a.map Char.toNat=b.map Char.toNat->a=b
 | [],[],_=>rfl
 | x::a,y::b,h=>by
   simp only [Qwk,List.cons.injEq] at h
   have e:x=y:=Char.ext (UInt32.toNat_inj.mp h.1)
   rw [e,Qe6 h.2]
 | [],_::_,h=>by simp at h
 | _::_,[],h=>by simp at h
theorem Qbk {a b:String}(h:a≠b):Qa a≠Qa b:=λe=>h (by
 rw [Str.ofString_eq_toList,Str.ofString_eq_toList] at e
 have e1:=congrArg Array.toList (Str.mk.inj e)
 simp only [] at e1
 exact String.toList_injective (Qe6 e1))
theorem Qtx {x:Str}{pos:Pos}{m:MV}{Q:MV->St->Prop}(F:Fx C hb prog w sc n md fl)(hl:look σ.loc x=some m)(hn:Qgz x=true)(h:Q m σ):Ex C (.Name x pos) σ Q:=Qs7 F.ok hl hn h
theorem Ex_glb {x:Str}{pos:Pos}{m:MV}{Q:MV->St->Prop}(F:Fx C hb prog w sc n md fl)(g:Gl hb x m)(hk:sc.names.lookup x=some .globalImplicit)(h:Q m σ):Ex C (.Name x pos) σ Q:=Qec F.ok g (F.kind hk) h
theorem Qpq {x:Str}{m:MV}{l':Loc}{Q:St->Prop}(F:Fx C hb prog w sc n md fl)(hk:sc.names.lookup x=some .local)(hp:put σ.loc x m=l')(h:Q { σ with loc:=l' }):Qb6 C x m σ Q:=Qlo F.ok (F.kind hk) (hp ▸ h)
theorem Qpr {x:Str}{m:MV}{l':Loc}{Q:St->Prop}(F:Fx C hb prog w sc n md true)(hk:sc.names.lookup x=some .cell)(hp:put σ.loc x m=l')(h:Q { σ with loc:=l' }):Qb6 C x m σ Q :=
 Qnk F.ok (F.kind hk) (F.full rfl x hk) (hp ▸ h)
abbrev SpK2 (σ₁:St)(Q:MV->St->Prop):MV->MH->Own->Prop:=λm B' own'=>Q m { σ₁ with B:=B',own:=own'++σ₁.own }
abbrev SpK (S:Spec)(Q:MV->St->Prop):List MV->St->Prop:=λvs σ₁=>S vs σ₁.B [] (SpK2 σ₁ Q)
abbrev SpO2 (σ₁:St)(rest':Own)(Q:MV->St->Prop):MV->MH->Own->Prop:=λm B' own'=>Q m { σ₁ with B:=B',own:=own'++rest' }
inductive SpO (S:Spec)(Q:MV->St->Prop)(vs:List MV)(σ₁:St):Prop
 | mk (own₁ rest':Own) (p:σ₁.own.Perm (own₁++rest')) (h:S vs σ₁.B own₁ (SpO2 σ₁ rest' Q)):SpO S Q vs σ₁
theorem Qte {f:Str}{p pos:Pos}{e:Expr}{rest:List Expr}{k:Nat}{S:Spec}{Q:MV->St->Prop}(F:Fx C hb prog w sc n md fl)(hf:FnC prog w hb f k S)(hk:sc.names.lookup f=some .globalImplicit)(hn:k<=n)
   (he:starEach (e::rest) C.env=(false,eval e C.env)::starEach rest C.env)
   (h:Exs C pos (e::rest) σ (SpK S Q)):Ex C (.Call (.Name f p) (e::rest) [] pos) σ Q:=by
 obtain ⟨fa,g,hi,ct⟩:=hf.ex
 refine Qkm F.ok g (F.kind hk) hi he (Tr.mono h λvs σ₁ h₁=>?_)
 have ct':Contract C.prog C.w hb (.ref fa) k S:=by rw [F.eprog,F.ew];exact ct
 exact Qrs F.ok ct' (by rw [F.eroom];exact hn) h₁
theorem Qrj {f:Str}{p pos:Pos}{e:Expr}{rest:List Expr}{k:Nat}{S:Spec}{Q:MV->St->Prop}(F:Fx C hb prog w sc n md fl)(hf:FnC prog w hb f k S)(hk:sc.names.lookup f=some .globalImplicit)(hn:k<=n)
   (he:starEach (e::rest) C.env=(false,eval e C.env)::starEach rest C.env)
   (h:Exs C pos (e::rest) σ (SpO S Q)):Ex C (.Call (.Name f p) (e::rest) [] pos) σ Q:=by
 obtain ⟨fa,g,hi,ct⟩:=hf.ex
 refine Qkm F.ok g (F.kind hk) hi he (Tr.mono h λvs σ₁ hpat=>?_)
 obtain ⟨o1,r1,hp,h₁⟩:=hpat
 have ct':Contract C.prog C.w hb (.ref fa) k S:=by rw [F.eprog,F.ew];exact ct
 exact Qmu F.ok ct' (by rw [F.eroom];exact hn) hp h₁
end
end Mine
namespace Mine
section
open PySem
noncomputable def setB (B:MH)(a:Addr)(o:MO):MH:=λb=>if b=a then some o else B b
theorem setB_self {B:MH}{a:Addr}{o:MO}:setB B a o a=some o:=by simp [setB]
theorem Qbp {B:MH}{a b:Addr}{o:MO}(h:b≠a):setB B a o b=B b:=by simp [setB,h]
inductive Del:Own->Addr->MO->Own->Prop
 | head {a:Addr} {o:MO} {r:Own}:Del ((a,o)::r) a o r
 | tail {a:Addr} {o:MO} {p:Addr×MO} {r r':Own}:Del r a o r'->Del (p::r) a o (p::r')
inductive Cv (md:List Addr):St->St->Prop
 | refl (σ:St):Cv md σ σ
 | trans {σ₁ σ₂ σ₃:St}:Cv md σ₁ σ₂->Cv md σ₂ σ₃->Cv md σ₁ σ₃
 | loc {l l':Loc} {B:MH} {own:Own}:(∀x v,look l' x=some v->look l x=some v)->Cv md ⟨l,B,own⟩ ⟨l',B,own⟩
 | own {l:Loc} {B:MH} {own own₂:Own}:own₂.Sublist own->Cv md ⟨l,B,own⟩ ⟨l,B,own₂⟩
 | perm {l:Loc} {B:MH} {own own₂:Own}:own.Perm own₂->Cv md ⟨l,B,own⟩ ⟨l,B,own₂⟩
 | frz {l:Loc} {B:MH} {a:Addr} {o:MO} {own:Own}:a∉md->Cv md ⟨l,B,(a,o)::own⟩ ⟨l,setB B a o,own⟩
section
variable {C:Cx} {hb:Heap} {prog:Program} {w:World} {sc cs:Scope} {n:Nat} {md:List Addr} {fl:Bool} {x:Str} {σ:St}
theorem Holds.frz {s:Shared}{l:Loc}{B:MH}{a:Addr}{o:MO}{own:Own}(OK:C.Ok hb)(H:Holds C ⟨l,B,(a,o)::own⟩ s)(ha:a∉C.mod):Holds C ⟨l,setB B a o,own⟩ s:=by
 have nd:(a::(own.map (·.1)++C.fr)).Nodup:=H.nodup
 have nd1:=Qnn.mp nd
 have hBa:B a=none:=H.apartB a (.head _)
 have nal:¬C.al a:=(H.ownNew (a,o) (.head _)).resolve_right ha
 exact {
   kp:=H.kp,names:=H.names,ns:=H.ns,cells:=H.cells,alive:=H.alive,gens:=H.gens,os:=H.os,al:=H.al
   B:=λb ob h=>by
     by_cases hab:b=a
     . subst hab;have h:setB B b o b=some ob:=h;rw [setB_self] at h;cases h;exact H.own (b,o) (.head _)
     . have h:setB B a o b=some ob:=h;rw [Qbp hab] at h;exact H.B b ob h
   own:=λp hp=>H.own p (.tail _ hp)
   nodup:=nd1.2
   apartB:=λb hb'=>by
     show setB B a o b=none
     have hne:b≠a:=λe=>by subst e;exact nd1.1 hb'
     rw [Qbp hne];exact H.apartB b (.tail _ hb')
   apartK:=λb hb'=>H.apartK b (.tail _ hb')
   B0:=λb ob h=>by
     have:=H.B0 b ob h
     show setB B a o b=some ob
     have hne:b≠a:=λe=>by subst e;rw [show B b=some ob from this] at hBa;cases hBa
     rw [Qbp hne];exact this
   Bnew:=λb ob h=>by
     by_cases hab:b=a
     . subst hab;exact .inr nal
     . have h:setB B a o b=some ob:=h;rw [Qbp hab] at h;exact H.Bnew b ob h
   ownNew:=λp hp=>H.ownNew p (.tail _ hp)
   noB:=λb hb'=>by
     show setB B a o b=none
     have hne:b≠a:=λe=>by subst e;obtain ⟨ob,hob⟩:=OK.noKp b hb';exact H.apartK b (.head _) ob hob
     rw [Qbp hne];exact H.noB b hb' }
theorem Holds.loc {s:Shared}{l l':Loc}{B:MH}{own:Own}(H:Holds C ⟨l,B,own⟩ s)(h:∀x v,look l' x=some v->look l x=some v):Holds C ⟨l',B,own⟩ s:={ H with names:=λx v hx=>H.names x v (h x v hx) }
theorem Cv.holds (OK:C.Ok hb)(hm:C.mod=md){σ σ':St}(c:Cv md σ σ'):∀{s:Shared},Holds C σ s->Holds C σ' s:=by
 induction c with
 | refl=>exact id
 | trans _ _ ih1 ih2=>exact λH=>ih2 (ih1 H)
 | loc h=>exact λH=>H.loc h
 | own h=>exact λH=>H.drop (Sub0.rfl' _) H.B0 h
 | perm h=>exact λH=>H.perm h
 | frz h=>exact λH=>H.frz OK (hm ▸ h)
theorem Tr.cv {α β:Type}{t:Sem α}{R:β->α->Prop}{σ':St}{Q:β->St->Prop}(F:Fx C hb prog w sc n md fl)(c:Cv md σ σ')(h:Tr C t R σ' Q):Tr C t R σ Q:=λs H=>h s (c.holds F.ok F.emod H)
theorem Qkd {sts:List Stmt}{σ':St}{Q:MF->St->Prop}(F:Fx C hb prog w sc n md fl)(c:Cv md σ σ')(h:Sts C sts σ' Q):Sts C sts σ Q:=Tr.cv F c h
theorem Qtw {st:Stmt}{σ':St}{Q:MF->St->Prop}(F:Fx C hb prog w sc n md fl)(c:Cv md σ σ')(h:Stm C st σ' Q):Stm C st σ Q:=Tr.cv F c h
inductive End (md:List Addr)(Q:MV->MH->Own->Prop)(r:MV)(σ:St):Prop
 | mk (σ₂:St) (c:Cv md σ σ₂) (h:Q r σ₂.B σ₂.own):End md Q r σ
abbrev EndK (md:List Addr)(Q:MV->MH->Own->Prop):MF->St->Prop:=λfl σ'=>End md Q (Qud fl) σ'
theorem Contract.of {f:Addr}{ps:List Str}{body:List Stmt}{scope:Scope}{S:Spec}(F:FnIs hb f ps body scope)(hlim:hb.NoLimit)
   (hS:∀args B own Q,S args B own Q->args.length=ps.length)
   (h:∀(C:Cx) args B own Q,Fx C hb prog w scope n (own.map (·.1)) true->S args B own Q->Sts C body ⟨ps.zip args,B,own⟩ (EndK (own.map (·.1)) Q)):Contract prog w hb (.ref f) (n+1) S:=by
 refine Contract.intro F hlim hS λC OK h1 h2 h3 h4 h5 h6 args B own Q hm hB0 hs=>?_
 intro s H
 have F':Fx C hb prog w scope n (own.map (·.1)) true:=⟨OK,h1,h2,h3,h4,hm,λx hx=>hx.elim (h6 x) λe=>absurd e (F.noFree x),λu_ x hx=>let ⟨c,hc⟩:=h6 x hx;⟨c,hc,h5 x c hc⟩⟩
 refine wpAny_mono (h C args B own Q F' hs s H) (λfl s' hpat=>?_) λu_ u_ x=>x
 refine smG λH_ k_=>?_
 obtain ⟨b,σ',hf,H',σ₂,cv,hq⟩:=hpat
 refine k_ ?_
 clear k_ H_
 exact ⟨b,σ₂,hf,cv.holds OK hm H',hq⟩
theorem Qax {p:Prop}[Decidable p]{A B:Prop}(h1:p->A)(h2:¬p->B):if decide p=true then A else B:=by
 by_cases h:p
 . rw [if_pos (by simpa using h)];exact h1 h
 . rw [if_neg (by simpa using h)];exact h2 h
theorem Qc1 {p:Prop}[Decidable p]{A B:Prop}(h1:¬p->A)(h2:p->B):if (!decide p)=true then A else B:=by
 by_cases h:p
 . rw [if_neg (by simpa using h)];exact h2 h
 . rw [if_pos (by simpa using h)];exact h1 h
theorem Qbz {A B:Prop}(h:A):if true=true then A else B:=h
theorem if_ff {A B:Prop}(h:B):if false=true then A else B:=h
theorem if_ntt {A B:Prop}(h:B):if (!true)=true then A else B:=h
theorem Qb2 {p:Prop}[Decidable p]{A B:Prop}(hp:p)(h:A):if decide p=true then A else B:=by rw [if_pos (by simpa using hp)];exact h
theorem Qbl {p:Prop}[Decidable p]{A B:Prop}(hp:¬p)(h:B):if decide p=true then A else B:=by rw [if_neg (by simpa using hp)];exact h
end
section
variable {C:Cx} {hb:Heap} {prog:Program} {w:World} {sc cs:Scope} {n:Nat} {md:List Addr} {fl:Bool} {x:Str} {σ:St}
theorem Qta {elts:List Expr}{pos:Pos}{Q:MV->St->Prop}(F:Fx C hb prog w sc n md fl)(h:Exs C pos elts σ (λvs σ'=>vs.length<=lim/\∀a,Fsh md σ' a->Q (.ref a) { σ' with own:=(a,.list vs)::σ'.own })):Ex C (.List elts pos) σ Q :=
 Qv0 F.ok (by rw [F.emod];exact h)
theorem Qkj {elts:List Expr}{k:Nat}{pos:Pos}{Q:MV->St->Prop}(F:Fx C hb prog w sc n md fl)(h:Exs C pos elts σ (λvs σ'=>vs.length<=lim/\∀a,Fsh md σ' a->Q (.ref a) { σ' with own:=(a,.tup vs)::σ'.own })):Ex C (.Tuple elts k pos) σ Q :=
 Qs9 F.ok (by rw [F.emod];exact h)
theorem Qnz {a:Addr}{xs:List MV}{Q:MV->St->Prop}(F:Fx C hb prog w sc n md fl)(hh:Has σ a (.list xs))(h:∀b,Fsh md σ b->Q (.ref b) { σ with own:=(b,.list xs)::σ.own }):Qb0 C (.type "list") [.ref a] σ Q :=
 Qhz F.ok hh (by rw [F.emod];exact h)
theorem Qvr {vs:List MV}{P:Prop}(h:vs.length<=lim)(h':P):vs.length<=lim/\P:=⟨h,h'⟩
theorem Qr4 {l l₁ l₂:Loc}{m:MV}(h1:capt cs l=l₁)(h2:put l₁ x m=l₂):put (capt cs l) x m=l₂:=by rw [h1];exact h2
theorem Ex_le {e:Expr}{l l':Loc}{B:MH}{own:Own}{Q:MV->St->Prop}(h:l=l')(h':Ex C e ⟨l',B,own⟩ Q):Ex C e ⟨l,B,own⟩ Q:=h ▸ h'
theorem Ts_le {e:Expr}{l l':Loc}{B:MH}{own:Own}{Q:Bool->St->Prop}(h:l=l')(h':Ts C e ⟨l',B,own⟩ Q):Ts C e ⟨l,B,own⟩ Q:=h ▸ h'
theorem Qap {Q:Bool->St->Prop}(h:Q true σ):CTs C [] σ Q:=h
theorem Qdu {c:Expr}{r:List Expr}{Q:Bool->St->Prop}(h:Ts C c σ (λb σ'=>if b then CTs C r σ' Q else Q false σ')):CTs C (c::r) σ Q:=h
noncomputable def SetG (C:Cx)(v o i:MV)(σ:St)(Q:MF->St->Prop):Prop:=∀s,Holds C σ s->∀vv vo vi,VR v vv->VR o vo->VR i vi->wpAny (model C.prog C.w) C.A (setItem vo vi vv) (λu_ s'=>∃σ',Holds C σ' s'/\Q .next σ') (λu_ u_=>False) s
abbrev SetK2 (C:Cx)(Q:MF->St->Prop)(v ov:MV):MV->St->Prop:=λiv σ₃=>SetG C v ov iv σ₃ Q
abbrev SetK1 (C:Cx)(i:Expr)(Q:MF->St->Prop)(v:MV):MV->St->Prop:=λov σ₂=>Ex C i σ₂ (SetK2 C Q v ov)
abbrev SetK (C:Cx)(o i:Expr)(Q:MF->St->Prop):MV->St->Prop:=λv σ₁=>Ex C o σ₁ (SetK1 C i Q v)
theorem Qs0 {o i e:Expr}{p' pos:Pos}{Q:MF->St->Prop}(hs:swapsWith e (some (.Subscript o i p')) pos.line C.env=pure false)
   (h:Ex C e σ (SetK C o i Q)):Stm C (.Assign [.Subscript o i p'] e pos) σ Q:=Qlq hs h
theorem Qkf {a:Addr}{xs:List MV}{k:Int}{m:MV}{own':Own}{Q:MF->St->Prop}(F:Fx C hb prog w sc n md fl)(u:Upd σ.own a (.list xs) (.list (xs.set k.toNat m)) own')(h0:0<=k)(h1:k<xs.length)(h:Q .next { σ with own:=own' }) :
   SetG C m (.ref a) (.int k) σ Q:=Qke F.ok u h0 h1 h
theorem mem_hd {p:Addr×MO}{l:Own}:p∈p::l:=Qwm
theorem mem_tl {p q:Addr×MO}{l:Own}(h:p∈l):p∈q::l:=Qdx _ h
structure FnO (prog:Program)(w:World)(hb:Heap)(f:Str)(n:Nat)(S:Spec):Prop where
 c:FnC prog w hb f n S
theorem Qtd {f:Str}{p pos:Pos}{e:Expr}{rest:List Expr}{k:Nat}{S:Spec}{Q:MV->St->Prop}(F:Fx C hb prog w sc n md fl)(hf:FnO prog w hb f k S)(hk:sc.names.lookup f=some .globalImplicit)(hn:k<=n)
   (he:starEach (e::rest) C.env=(false,eval e C.env)::starEach rest C.env)
   (h:Exs C pos (e::rest) σ (SpO S Q)):Ex C (.Call (.Name f p) (e::rest) [] pos) σ Q:=Qrj F hf.c hk hn he h
theorem Qfw (F:Fx C hb prog w sc n md fl):interactive C.env=false:=by unfold interactive;rw [F.ok.kind];rfl
theorem Qor {a b:Int}(h:b.natAbs<1000000):IntMulOk a b:=IntMulOk.of_right (PyProof.Rows.intBits_le (by omega))
theorem Qh5 {b:Int}(h:b.natAbs<1073741824):b.natAbs.log2<9000:=by
 by_cases h0:b.natAbs=0
 . rw [h0];decide
 . have:=(Nat.log2_lt h0 (k:=30)).mpr (by omega);exact om322 ‹_›
end
end
section
open PySem
section
variable {C:Cx} {hb:Heap} {prog:Program} {w:World} {sc cs:Scope} {n:Nat} {md:List Addr} {fl:Bool} {x:Str} {σ:St}
theorem Qk7 {l r:Loc}{y:Str}{v:MV}(h:look l y=some v):look (l++r) y=some v:=by
 induction l with
 | nil=>simp [look] at h
 | cons p l ih =>
   obtain ⟨z,u⟩:=p
   simp only [Qwx,look] at h ⊢
   set_option tactic.hygienic true in split
   . rename_i e;rw [if_pos e] at h;exact h
   . rename_i e;rw [if_neg e] at h;exact ih h
theorem Cv.pre {l₀ l:Loc}(r:Loc){B:MH}{own:Own}(h:l₀=l++r):Cv md ⟨l₀,B,own⟩ ⟨l,B,own⟩:=.loc λy v hy=>h ▸ Qk7 hy
theorem Cv.none {l:Loc}{B:MH}{own:Own}:Cv md ⟨l,B,own⟩ ⟨l,B,[]⟩:=.own (Qw6 _)
theorem Cv.tl {l:Loc}{B:MH}{own:Own}{p:Addr×MO}:Cv md ⟨l,B,p::own⟩ ⟨l,B,own⟩:=.own (Qxe ..)
theorem Qcx {y:Str}{m:MV}{σ':St}{Q:St->Prop}(F:Fx C hb prog w sc n md fl)(c:Cv md σ σ')(h:Qb6 C y m σ' Q):Qb6 C y m σ Q:=λv hv=>Tr.cv F c (h v hv)
theorem Ts_cv {e:Expr}{σ':St}{Q:Bool->St->Prop}(F:Fx C hb prog w sc n md fl)(c:Cv md σ σ')(h:Ts C e σ' Q):Ts C e σ Q:=Tr.cv F c h
inductive Tn (md:List Addr)(J:St->Prop)(σ:St):Prop
 | mk (σ₀:St) (c:Cv md σ σ₀) (h:J σ₀):Tn md J σ
inductive CvT (md:List Addr)(J:MH->Own->Prop)(σ:St):Prop
 | mk (σ₃:St) (c:Cv md σ σ₃) (h:J σ₃.B σ₃.own):CvT md J σ
abbrev CtK2 (md:List Addr)(J:List MV->MH->Own->Prop)(ys:List MV):MV->St->Prop:=λy σ₂=>CvT md (J (ys++[y])) σ₂
abbrev CtK (C':Cx)(elt:Expr)(md:List Addr)(J:List MV->MH->Own->Prop)(ys:List MV):Bool->St->Prop:=λok σ₁=>if ok then Ex C' elt σ₁ (CtK2 md J ys) else CvT md (J ys) σ₁
inductive Less (I:Nat->St->Prop)(k:Nat)(σ₃:St):Prop
 | mk (m:Nat) (h:m<k) (i:I m σ₃):Less I k σ₃
abbrev Qsx (md:List Addr)(J:St->Prop)(Q:MF->St->Prop):MF->St->Prop:=λf σ₃=>match f with | .next=>Tn md J σ₃ | .ret v=>Q (.ret v) σ₃
abbrev Qv4 (C:Cx)(body:List Stmt)(Q:MF->St->Prop):St->Prop:=λσ₂=>Sts C body σ₂ Q
inductive ForP (hb:Heap)(prog:Program)(w:World)(sc:Scope)(n:Nat)(md:List Addr)(fl:Bool)(x:Str)(body orelse:List Stmt)(Q:MF->St->Prop)(v:MV)(σ₁:St):Prop
 | mk (items:List MV) (J:Nat->St->Prop) (it:Itr σ₁ v items) (h0:Tn md (J 0) σ₁) (turn:∀C',Fx C' hb prog w sc n md fl->∀i σ' m,J i σ'->items[i]? = some m->Qb6 C' x m σ' (Qv4 C' body (Qsx md (J (i+1)) Q))) (fin:∀C',Fx C' hb prog w sc n md fl->∀σ',J items.length σ'->Sts C' orelse σ' Q):ForP hb prog w sc n md fl x body orelse Q v σ₁
theorem Qao {px pos:Pos}{iter:Expr}{body orelse:List Stmt}{Q:MF->St->Prop}(F:Fx C hb prog w sc n md fl)(hs:∀v,foldedSetIterable iter C.env v=pure v)
   (h:Ex C iter σ (ForP hb prog w sc n md fl x body orelse Q)):Stm C (.For (.Name x px) iter body orelse pos) σ Q:=by
 refine Qvw F hs (Tr.mono h λv σ₁ ⟨items,J,it,J0,turn,fin⟩=>⟨items,λi=>Tn md (J i),it,J0,?_,?_⟩)
 . intro C' F' i σ' m ⟨σ₀,c,hJ⟩ hm
   exact Qcx F' c (turn C' F' i σ₀ m hJ hm)
 . intro C' F' σ' ⟨σ₀,c,hJ⟩
   exact Qkd F' c (fin C' F' σ₀ hJ)
theorem Qdd {test:Expr}{body orelse:List Stmt}{pos:Pos}{Q:MF->St->Prop}(F:Fx C hb prog w sc n md fl)(I:Nat->St->Prop)
   (turn:∀k σ',I k σ'->Ts C test σ' (λb σ₁=>if b then Sts C body σ₁ (Qsx md (Less I k) Q) else Sts C orelse σ₁ Q))
   (k:Nat) (h:Tn md (I k) σ):Stm C (.While test body orelse pos) σ Q:=by
 refine Qpt (λk=>Tn md (I k)) ?_ k h
 rintro k σ' ⟨σ₀,c,hI⟩
 refine Ts_cv F c (Tr.mono (turn k σ₀ hI) λb σ₁ hb'=>?_)
 cases b with
 | false=>exact hb'
 | true =>
   refine Tr.mono (show Sts C body σ₁ _ from hb') λf σ₂ h₂=>?_
   cases f with
   | next=>obtain ⟨σ₃,c',m,hm,hI'⟩:=h₂;exact ⟨m,hm,σ₃,c',hI'⟩
   | ret v=>exact h₂
noncomputable def Qtv (hb:Heap)(prog:Program)(w:World)(sc cs:Scope)(n:Nat)(md:List Addr)(x:Str)(ifs:List Expr)(elt:Expr)(items:List MV)(l:Loc)(J:Nat->List MV->MH->Own->Prop):Prop :=
 ∀C',Fx C' hb prog w (Qgv cs sc) n md false->∀i ys B own m,J i ys B own->items[i]? = some m ->
     CTs C' ifs ⟨put (capt cs l) x m,B,own⟩ (CtK C' elt md (J (i+1)) ys)
theorem Tr.post {α β:Type}{t:Sem α}{R:β->α->Prop}{Q:β->St->Prop}(F:Fx C hb prog w sc n md fl)(h:Tr C t R σ (λb σ'=>∃σ'',Cv md σ' σ''/\Q b σ'')):Tr C t R σ Q:=λs H =>
 wpAny_mono (h s H) (λa s' ⟨b,σ',hr,H',σ'',c,hq⟩=>⟨b,σ'',hr,c.holds F.ok F.emod H',hq⟩) λu_ u_ x=>x
theorem Ql6 {ifs:List Expr}{elt:Expr}{items:List MV}{l:Loc}{J:Nat->List MV->MH->Own->Prop}(h:Qtv hb prog w sc cs n md x ifs elt items l J) :
   Qhp hb prog w sc cs n md x ifs elt items (λi ys σ=>σ.loc=l/\J i ys σ.B σ.own):=by
 intro C' F' i ys σ' m ⟨hl,hJ⟩ hm
 have key:=h C' F' i ys σ'.B σ'.own m hJ hm
 subst hl
 have:∀(ifs:List Expr) (σ₁:St),CTs C' ifs σ₁ (CtK C' elt md (J (i+1)) ys) ->
     CTs C' ifs σ₁ (λok σ₁=>if ok then Ex C' elt σ₁ (λy σ₂=>σ'.loc=σ'.loc/\J (i+1) (ys++[y]) σ₂.B σ₂.own) else σ'.loc=σ'.loc/\J (i+1) ys σ₁.B σ₁.own):=by
   intro ifs
   induction ifs with
   | nil =>
     intro σ₁ h
     have h':Ex C' elt σ₁ (CtK2 md (J (i+1)) ys):=h
     have h2:Ex C' elt σ₁ (λy σ₂=>σ'.loc=σ'.loc/\J (i+1) (ys++[y]) σ₂.B σ₂.own):=Tr.post F' (Tr.mono h' λy σ₄ ⟨σ₃,c3,hj⟩=>⟨σ₃,c3,rfl,hj⟩)
     exact h2
   | cons t r ih =>
     intro σ₁ h
     refine Tr.post F' (Tr.mono (show Ts C' t σ₁ _ from h) λb σ₄ h₄=>?_)
     cases b with
     | true=>exact ⟨σ₄,.refl _,ih σ₄ h₄⟩
     | false=>obtain ⟨σ₃,c3,hj⟩:=(h₄:CvT md _ σ₄);exact ⟨σ₃,c3,rfl,hj⟩
 exact this ifs _ key
inductive Qjg (hb:Heap)(prog:Program)(w:World)(sc cs:Scope)(n:Nat)(md:List Addr)(x:Str)(ifs:List Expr)(elt:Expr)(R:List MV->MH->Own->Loc->Prop)(v:MV)(σ₁:St):Prop
 | mk (items:List MV) (J:Nat->List MV->MH->Own->Prop) (it:Itr σ₁ v items) (hl:items.length<=lim) (h0:J 0 [] σ₁.B σ₁.own) (turn:Qtv hb prog w sc cs n md x ifs elt items σ₁.loc J) (fin:∀ys B own,J items.length ys B own->R ys B own σ₁.loc):Qjg hb prog w sc cs n md x ifs elt R v σ₁
abbrev RK1 (md:List Addr)(Q:MV->St->Prop):List MV->MH->Own->Loc->Prop:=λys B own l=>∀a,Fsh md ⟨l,B,own⟩ a->Q (.ref a) ⟨l,B,(a,.list ys)::own⟩
abbrev RK2 (hb:Heap)(prog:Program)(w:World)(sc:Scope)(n:Nat)(md:List Addr)(fl:Bool)(y:Str)(Q:MF->St->Prop):List MV->MH->Own->Loc->Prop:=λys B own l=>∀C',Fx C' hb prog w sc n md fl->∀a,Fsh md ⟨l,B,own⟩ a->Qb6 C' y (.ref a) ⟨l,B,(a,.list ys)::own⟩ (NextK Q)
theorem Qa9 {elt iter:Expr}{px pos:Pos}{ifs:List Expr}{Q:MV->St->Prop}(F:Fx C hb prog w sc n md fl)(K:Qbx cs sc x)(hs:∀v,foldedSetIterable iter C.env v=pure v)
   (h:Ex C iter σ (Qjg hb prog w sc cs n md x ifs elt (RK1 md Q))):Ex C (.ListComp elt [⟨.Name x px,iter,ifs,0⟩] cs pos) σ Q:=by
 refine Qho F K hs (Tr.mono h λv σ₁ ⟨items,J,it,hl,J0,turn,fin⟩=>⟨items,_,it,hl,⟨rfl,J0⟩,Ql6 turn,?_⟩)
 rintro ys ⟨l,B,own⟩ ⟨hl',hJ⟩ a ha
 dsimp only at hl' hJ
 subst hl'
 exact fin ys B own hJ a ha
theorem Qef {elt iter:Expr}{y:Str}{py px pos spos:Pos}{ifs:List Expr}{Q:MF->St->Prop}(F:Fx C hb prog w sc n md fl)(K:Qbx cs sc x)(hs:∀v,foldedSetIterable iter C.env v=pure v)
   (hsw:swapsWith (.ListComp elt [⟨.Name x px,iter,ifs,0⟩] cs pos) (some (.Name y py)) spos.line C.env=pure true)
   (h:Ex C iter σ (Qjg hb prog w sc cs n md x ifs elt (RK2 hb prog w sc n md fl y Q))) :
   Stm C (.Assign [.Name y py] (.ListComp elt [⟨.Name x px,iter,ifs,0⟩] cs pos) spos) σ Q:=by
 refine Qhy F K hs hsw (Tr.mono h λv σ₁ ⟨items,J,it,hl,J0,turn,fin⟩=>⟨items,_,it,hl,⟨rfl,J0⟩,Ql6 turn,?_⟩)
 rintro C' F' ys ⟨l,B,own⟩ ⟨hl',hJ⟩ a ha
 dsimp only at hl' hJ
 subst hl'
 exact fin ys B own hJ C' F' a ha
theorem Qbi {p:Prop}[Decidable p]{A B:Prop}(hp:p)(h:B):if (!decide p)=true then A else B:=by rw [if_neg (by simp [hp])];exact h
noncomputable def App2 (C:Cx)(a:Addr)(v:MV)(σ:St)(Q:MV->St->Prop):Prop:=∃ys own',Upd σ.own a (.list ys) (.list (ys++[v])) own'/\ys.length+1<=lim/\Q .none { σ with own:=own' }
noncomputable def AppG (C:Cx)(ov:MV)(e:Expr)(σ:St)(Q:MV->St->Prop):Prop:=∃a xs,ov=.ref a/\Has σ a (.list xs)/\Ex C e σ (λv σ₂=>App2 C a v σ₂ Q)
abbrev AppK (C:Cx)(e:Expr)(Q:MV->St->Prop):MV->St->Prop:=λov σ₁=>AppG C ov e σ₁ Q
abbrev App2K (C:Cx)(a:Addr)(Q:MV->St->Prop):MV->St->Prop:=λv σ₂=>App2 C a v σ₂ Q
theorem Qvz {o e:Expr}{apos pos:Pos}{Q:MV->St->Prop}(F:Fx C hb prog w sc n md fl)(hbase:attributeBase o "append" C.env (eval o C.env)=eval o C.env)(hline:(apos.endLine == pos.line)=true)
   (he:backTo pos (starEach [e] C.env)=[(false,eval e C.env)]) (h:Ex C o σ (AppK C e Q)):Ex C (.Call (.Attribute o "append" apos) [e] [] pos) σ Q:=Qrh F.ok hbase hline he h
theorem AppG_i {a:Addr}{xs:List MV}{e:Expr}{Q:MV->St->Prop}(hh:Has σ a (.list xs))(h:Ex C e σ (App2K C a Q)):AppG C (.ref a) e σ Q:=⟨a,xs,rfl,hh,h⟩
theorem Qid {a:Addr}{v:MV}{ys:List MV}{own':Own}{Q:MV->St->Prop}(u:Upd σ.own a (.list ys) (.list (ys++[v])) own')(hl:ys.length+1<=lim)(h:Q .none { σ with own:=own' }):App2 C a v σ Q:=⟨ys,own',u,hl,h⟩
theorem Qvt {a:Addr}{xs:List MV}{k:Int}{m:MV}{Q:MV->St->Prop}(hh:Has σ a (.ro xs))(h0:0<=k)(hm:xs[k.toNat]? = some m)(h:Q m σ):SubG C (.ref a) (.int k) σ Q:=λs H vo vi ho hi=>by
 obtain rfl:vo=.ref a:=ho
 obtain ⟨t,rfl⟩:=hi
 obtain ⟨vs,hl,hr,hlim⟩:=H.has hh
 obtain ⟨v,hv,hvr⟩:=hr.get hm
 have hlt:k.toNat<xs.length:=(Qck.mp hm).1
 refine ⟨"list",_,hl.typeIs,list_getitem_lookup,wpAny_getItem_list hl h0 ?_ (by rw [<-Qpy];exact hv) ⟨m,σ,hvr,H,h⟩⟩
 unfold lim at hlim;omega
theorem Qlz {a:Addr}{xs:List MV}{Q:MV->St->Prop}(hh:Has σ a (.ro xs))(h:Q (.int xs.length) σ):Qb0 C (.builtin "len") [.ref a] σ Q:=λvs hvs s H=>by
 obtain ⟨v,rfl,hv⟩:=hvs.one
 obtain rfl:v=.ref a:=hv
 obtain ⟨vs,hl,hr,hlim⟩:=H.has hh
 have hsz:vs.size=xs.length:=by have:=hr.length;simp at this;exact this.symm
 refine Calls.call_len_list hl (by rw [hsz];exact Qe9 hlim) ⟨.int xs.length,σ,?_,H.toks _,h⟩
 rw [hsz];exact ⟨_,rfl⟩
end
end
section
open PySem PySem.SeqAt
abbrev KV:=List (Option Int×MV)
noncomputable def dget:KV->Option Int->Option MV
 | [],_=>none
 | (y,v)::r,x=>if y=x then some v else dget r x
noncomputable def dput:KV->Option Int->MV->KV
 | [],x,v=>[(x,v)]
 | (y,u)::r,x,v=>if y=x then (y,v)::r else (y,u)::dput r x v
theorem KVR.inv {p:Option Int×MV}{kvs:KV}{vk:List (Option Int×Value)}(h:KVR (p::kvs) vk):∃q vk',vk=q::vk'/\p.1=q.1/\VR p.2 q.2/\KVR kvs vk':=by
 refine smG λH_ k_=>?_
 obtain ⟨hk,hv⟩:=h
 refine k_ ?_
 clear k_ H_
 cases vk with
 | nil=>simp at hk
 | cons q vk' =>
   simp only [Qwk,List.cons.injEq] at hk hv
   cases hv with
   | cons h1 h2=>exact ⟨q,vk',rfl,hk.1,h1,hk.2,h2⟩
theorem KVR.cons {p:Option Int×MV}{q:Option Int×Value}{kvs:KV}{vk:List (Option Int×Value)}(h1:p.1=q.1)(h2:VR p.2 q.2)(h:KVR kvs vk):KVR (p::kvs) (q::vk) :=
 ⟨by simp [h1,h.k],.cons h2 h.v⟩
theorem KVR.nil:KVR [] []:=⟨rfl,.nil⟩
theorem KVR.length {kvs:KV}{vk:List (Option Int×Value)}(h:KVR kvs vk):kvs.length=vk.length:=by have:=congrArg List.length h.k;simpa using this
theorem KVR.none {kvs:KV}:∀{vk:List (Option Int×Value)},KVR kvs vk->∀{k:Option Int},dget kvs k=.none->valueAt vk k=.none:=by
 induction kvs with
 | nil=>intro vk h k _;cases vk with
   | nil=>rfl
   | cons q vk=>have:=h.k;simp at this
 | cons p kvs ih =>
   intro vk h k hg
   refine smG λH_ k_=>?_
   obtain ⟨q,vk',rfl,h1,h2,h3⟩:=h.inv
   refine k_ ?_
   clear k_ H_
   refine smG λH_ k_=>?_
   obtain ⟨y,v⟩:=p
   refine k_ ?_
   clear k_ H_
   simp only [dget] at hg
   set_option tactic.hygienic true in split at hg
   . cases hg
   . rename_i hne
     have:=ih h3 hg
     unfold valueAt at this ⊢
     rw [Qza (by simp only [decide_eq_true_eq];intro e;exact hne (h1.trans e))]
     exact this
theorem KVR.some {kvs:KV}:∀{vk:List (Option Int×Value)},KVR kvs vk->∀{k:Option Int} {m:MV},dget kvs k=.some m->∃v,valueAt vk k=.some v/\VR m v:=by
 induction kvs with
 | nil=>intro vk h k m hg;simp [dget] at hg
 | cons p kvs ih =>
   intro vk h k m hg
   refine smG λH_ k_=>?_
   obtain ⟨q,vk',rfl,h1,h2,h3⟩:=h.inv
   refine k_ ?_
   clear k_ H_
   refine smG λH_ k_=>?_
   obtain ⟨y,v⟩:=p
   refine k_ ?_
   clear k_ H_
   simp only [dget] at hg
   set_option tactic.hygienic true in split at hg
   . rename_i e
     cases hg
     refine ⟨q.2,?_,h2⟩
     unfold valueAt
     rw [List.find?_cons_of_pos (by simp only [decide_eq_true_eq];exact h1.symm.trans e)]
     rfl
   . rename_i hne
     refine smG λH_ k_=>?_
     obtain ⟨v',hv',hr⟩:=ih h3 hg
     refine k_ ?_
     clear k_ H_
     refine ⟨v',?_,hr⟩
     unfold valueAt at hv' ⊢
     rw [Qza (by simp only [decide_eq_true_eq];intro e;exact hne (h1.trans e))]
     exact hv'
theorem KVR.isSome {kvs:KV}{vk:List (Option Int×Value)}(h:KVR kvs vk)(k:Option Int):(valueAt vk k).isSome=(dget kvs k).isSome:=by
 cases e:dget kvs k with
 | none=>rw [h.none e];rfl
 | some m=>obtain ⟨v,hv,u_⟩:=h.some e;rw [hv];rfl
theorem Qht {q:Option Int×Value}{vk:List (Option Int×Value)}{k:Option Int}{v:Value}(hn:((q::vk).map (·.1)).Nodup)(e:q.1=k):stored (q::vk) k v=(q.1,v)::vk:=by
 unfold stored
 rw [if_pos (by simp [e])]
 rw [Qwk,if_pos e]
 congr 1
 refine map_store_of_not_mem vk k v ?_
 subst e
 simp only [Qwk,Qnn] at hn
 exact hn.1
theorem Qhs {q:Option Int×Value}{vk:List (Option Int×Value)}{k:Option Int}{v:Value}(e:q.1≠k):stored (q::vk) k v=q::stored vk k v:=by
 unfold stored
 have:(q::vk).any (λkv=>decide (kv.1=k))=vk.any (λkv=>decide (kv.1=k)):=by simp [e]
 rw [this]
 split
 . rw [Qwk,if_neg e]
 . rfl
theorem KVR.put {kvs:KV}:∀{vk:List (Option Int×Value)},KVR kvs vk->(vk.map (·.1)).Nodup->∀{k:Option Int} {m:MV} {v:Value},VR m v->KVR (dput kvs k m) (stored vk k v):=by
 induction kvs with
 | nil=>intro vk h hn k m v hv;cases vk with
   | nil=>exact ⟨rfl,.cons hv .nil⟩
   | cons q vk=>have:=h.k;simp at this
 | cons p kvs ih =>
   intro vk h hn k m v hv
   refine smG λH_ k_=>?_
   obtain ⟨q,vk',rfl,h1,h2,h3⟩:=h.inv
   refine k_ ?_
   clear k_ H_
   refine smG λH_ k_=>?_
   obtain ⟨y,u⟩:=p
   refine k_ ?_
   clear k_ H_
   simp only [dput]
   set_option tactic.hygienic true in split
   . rename_i e
     rw [Qht hn (h1.symm.trans e)]
     exact .cons h1 hv h3
   . rename_i e
     rw [Qhs (λe'=>e (h1.trans e'))]
     exact .cons h1 h2 (ih h3 (by simp only [Qwk,Qnn] at hn;exact hn.2) hv)
theorem Qlh (kvs:KV)(k:Option Int)(m:MV):(dput kvs k m).length<=kvs.length+1:=by
 induction kvs with
 | nil=>simp [dput]
 | cons p kvs ih=>obtain ⟨y,u⟩:=p;simp only [dput];split <;> simp <;> exact om323 ‹_›
theorem Qo8 (kvs:KV)(k j:Option Int)(m:MV):dget (dput kvs k m) j=if k=j then some m else dget kvs j:=by
 induction kvs with
 | nil=>simp [dput,dget]
 | cons p kvs ih =>
   refine smG λH_ k_=>?_
   obtain ⟨y,u⟩:=p
   refine k_ ?_
   clear k_ H_
   simp only [dput]
   by_cases e:y=k
   . subst e;simp only [if_true,dget];split <;> rfl
   . simp only [e,if_false,dget,ih]
     by_cases e2:y=j
     . subst e2;simp [Ne.symm e]
     . simp [e2]
theorem Qdl {k:Option Int}{v:Value}(h:VR (Qau k) v):Qg4 k v=true:=by
 cases k with
 | none=>obtain rfl:v=.none:=h;rfl
 | some i=>obtain ⟨t,rfl⟩:=h;simp [Qg4,Value.isInt]
noncomputable def mvOf:Value->MV
 | .none=>.none
 | .bool b=>.bool b
 | .int i _=>.int i
 | .str x _=>.str x
 | .ref a=>.ref a
 | v=>.oth v
theorem Qu5 {m:MV}{v:Value}(h:VR m v)(hm:∀u,m≠.oth u):mvOf v=m:=by
 cases m with
 | none=>obtain rfl:v=_:=h;rfl
 | bool b=>obtain rfl:v=_:=h;rfl
 | int i=>obtain ⟨t,rfl⟩:=h;rfl
 | str x=>obtain ⟨t,rfl⟩:=h;rfl
 | ref a=>obtain rfl:v=_:=h;rfl
 | oth u=>exact absurd rfl (hm u)
theorem Qkv {xs:List MV}{vs:List Value}(h:VsR xs vs)(e:MV->Bool)(hx:∀y∈xs,∀u,y≠.oth u):(∀v∈vs,VR (mvOf v) v/\mvOf v∈xs)/\vs.any (λv=>e (mvOf v))=xs.any e:=by
 induction h with
 | nil=>exact ⟨λv hv=>(nomatch hv),rfl⟩
 | @cons m v ms vs' hv hvs ih =>
   have e1:=Qu5 hv (hx m Qwm)
   refine smG λH_ k_=>?_
   obtain ⟨i1,i2⟩:=ih λy hy=>hx y (Qdx _ hy)
   refine k_ ?_
   clear k_ H_
   refine ⟨λu hu=>?_,by simp only [List.any_cons,e1,i2]⟩
   rcases Qch.mp hu with rfl | hu
   . rw [e1];exact ⟨hv,Qwm⟩
   . exact ⟨(i1 u hu).1,Qdx _ (i1 u hu).2⟩
section
variable {C:Cx} {hb:Heap} {prog:Program} {w:World} {sc cs:Scope} {n:Nat} {md:List Addr} {fl:Bool} {x:Str} {σ:St}
theorem Qrm {k:Option Int}{d:Addr}{kvs:KV}{Q:MV->St->Prop}(hh:Has σ d (.dict kvs))(h:Q (.bool (dget kvs k).isSome) σ):Cmp C .In (Qau k) (.ref d) σ Q:=λva vb ha hb' s H=>by
 obtain rfl:vb=.ref d:=hb'
 refine smG λH_ k_=>?_
 obtain ⟨hms,vk,⟨p0,w0,hdo⟩,hkv,hlim⟩:=H.has hh
 refine k_ ?_
 clear k_ H_
 have hm:=(Qaw (p':=C.prog) (w':=C.w) hdo).mapOf
 refine wpAny_in_of (k:=k) (Qdl ha) hms hm ?_
 rw [hkv.isSome]
 exact ⟨.bool _,σ,rfl,H.toks _,h⟩
theorem Qnt {k:Option Int}{d:Addr}{kvs:KV}{Q:MV->St->Prop}(hh:Has σ d (.dict kvs))(h:Q (.bool (!(dget kvs k).isSome)) σ):Cmp C .NotIn (Qau k) (.ref d) σ Q:=λva vb ha hb' s H=>by
 obtain rfl:vb=.ref d:=hb'
 refine smG λH_ k_=>?_
 obtain ⟨hms,vk,⟨p0,w0,hdo⟩,hkv,hlim⟩:=H.has hh
 refine k_ ?_
 clear k_ H_
 have hm:=(Qaw (p':=C.prog) (w':=C.w) hdo).mapOf
 refine wpAny_notIn_of (k:=k) (Qdl ha) hms hm ?_
 rw [hkv.isSome]
 exact ⟨.bool _,σ,rfl,H.toks _,h⟩
theorem Qti {i:Int}{d:Addr}{kvs:KV}{Q:MV->St->Prop}(hh:Has σ d (.dict kvs))(h:Q (.bool (dget kvs (some i)).isSome) σ):Cmp C .In (.int i) (.ref d) σ Q:=Qrm (k:=some i) hh h
theorem Qlx {i:Int}{d:Addr}{kvs:KV}{Q:MV->St->Prop}(hh:Has σ d (.dict kvs))(h:Q (.bool (!(dget kvs (some i)).isSome)) σ):Cmp C .NotIn (.int i) (.ref d) σ Q:=Qnt (k:=some i) hh h
theorem Qth {d:Addr}{kvs:KV}{Q:MV->St->Prop}(hh:Has σ d (.dict kvs))(h:Q (.bool (dget kvs none).isSome) σ):Cmp C .In .none (.ref d) σ Q:=Qrm (k:=none) hh h
theorem Qkc {k:Option Int}{d:Addr}{kvs:KV}{m:MV}{Q:MV->St->Prop}(hh:Has σ d (.dict kvs))(hm:dget kvs k=some m)(h:Q m σ):SubG C (.ref d) (Qau k) σ Q:=λs H vo vi ho hi=>by
 obtain rfl:vo=.ref d:=ho
 refine smG λH_ k_=>?_
 obtain ⟨hms,vk,⟨p0,w0,hdo⟩,hkv,hlim⟩:=H.has hh
 refine k_ ?_
 clear k_ H_
 have hd:=Qaw (p':=C.prog) (w':=C.w) hdo
 refine smG λH_ k_=>?_
 obtain ⟨v,hv,hr⟩:=hkv.some hm
 refine k_ ?_
 clear k_ H_
 exact ⟨"dict",_,hd.typeIs,slot_dict_getitem.lookup,wpAny_getItem_of (Qdl hi) hd.mapOf hv ⟨m,σ,hr,H.toks _,h⟩⟩
theorem Qb5 {i:Int}{d:Addr}{kvs:KV}{m:MV}{Q:MV->St->Prop}(hh:Has σ d (.dict kvs))(hm:dget kvs (some i)=some m)(h:Q m σ):SubG C (.ref d) (.int i) σ Q:=Qkc (k:=some i) hh hm h
theorem Qkg {a:Addr}{kvs:KV}{k:Option Int}{m:MV}{own':Own}{Q:MF->St->Prop}(F:Fx C hb prog w sc n md fl)(u:Upd σ.own a (.dict kvs) (.dict (dput kvs k m)) own')(hl:kvs.length+1<=lim)(h:Q .next { σ with own:=own' }) :
   SetG C m (.ref a) (Qau k) σ Q:=λs H vv vo vi hv ho hi=>by
 obtain rfl:vo=.ref a:=ho
 refine smG λH_ k_=>?_
 obtain ⟨hms,vk,⟨p0,w0,hdo⟩,hkv,hlim⟩:=H.own _ u.mem
 refine k_ ?_
 clear k_ H_
 have hd:=Qaw (p':=C.prog) (w':=C.w) hdo
 have hn:(vk.map (·.1)).Nodup:=let ⟨_,_,_,_,_,_,_,_,hn⟩:=hd;hn
 refine wpAny_setItem_pairs (k:=k) (Qdl hi) hd (λh' hd' hs=>?_) (by rw [<-hkv.length];exact Qdg hlim Qdv)
 refine ⟨_,H.upd F.ok u (λb ob hb' e=>(hs.2 b hb').trans e) ⟨hms,_,⟨_,_,hd'⟩,hkv.put hn hv,Qdg (Qlh ..) hl⟩ rfl rfl,h⟩
theorem Qa7 {a:Addr}{kvs:KV}{k:Int}{m:MV}{own':Own}{Q:MF->St->Prop}(F:Fx C hb prog w sc n md fl)(u:Upd σ.own a (.dict kvs) (.dict (dput kvs (some k) m)) own')(hl:kvs.length+1<=lim)(h:Q .next { σ with own:=own' }) :
   SetG C m (.ref a) (.int k) σ Q:=Qkg (k:=some k) F u hl h
theorem Qnm {a:Addr}{kvs:KV}{m:MV}{own':Own}{Q:MF->St->Prop}(F:Fx C hb prog w sc n md fl)(u:Upd σ.own a (.dict kvs) (.dict (dput kvs none m)) own')(hl:kvs.length+1<=lim)(h:Q .next { σ with own:=own' }) :
   SetG C m (.ref a) .none σ Q:=Qkg (k:=none) F u hl h
theorem Holds.noModules {s:Shared}(H:Holds C σ s)(OK:C.Ok hb)(hl:hb.NoLimit):(s.heap.objs.size == sysModules)=false:=Qgu (hl.keeps λb o hb'=>H.kp b o (OK.base b o hb'))
theorem Qcz {pos:Pos}{Q:MV->St->Prop}(F:Fx C hb prog w sc n md fl)(hl:hb.NoLimit)(h:∀d,Fsh md σ d->Q (.ref d) { σ with own:=(d,.dict [])::σ.own }):Ex C (.Dict [] [] pos) σ Q:=λs H =>
 wpAny_Dict_empty ⟨.ref _,_,rfl,H.new (mo:=.dict []) ⟨H.noModules F.ok hl,[],⟨C.prog,C.w,Heap.DictOf.new s.heap⟩,.nil,Qwv _⟩,h _ (F.emod ▸ H.fsh F.ok)⟩
theorem Qtc {ke ve:Expr}{pos:Pos}{Q:MV->St->Prop}(F:Fx C hb prog w sc n md fl)(hl:hb.NoLimit)
   (h:∀d,Fsh md σ d->Ex C ke { σ with own:=(d,.dict [])::σ.own } (λk σ₁=>Ex C ve σ₁ (λv σ₂=>∃i own',k=.int i/\Upd σ₂.own d (.dict []) (.dict [(some i,v)]) own'/\Q (.ref d) { σ₂ with own:=own' }))) :
   Ex C (.Dict [some ke] [ve] pos) σ Q:=λs H=>by
 have H0:=H.new (mo:=.dict []) ⟨H.noModules F.ok hl,[],⟨C.prog,C.w,Heap.DictOf.new s.heap⟩,.nil,Qwv _⟩
 refine wpAny_Dict_pairs (knd:=Qbj C.prog C.w) (pairs:=[(eval ke C.env,do let x <-eval ve C.env;standAt pos;pure x)]) rfl (by simp) (by simp) (evalPairs_cons (wpAny_mono (h _ (F.emod ▸ H.fsh F.ok) _ H0) (λkv s₁ hpat=>?_) λu_ u_ x=>x))
 refine smG λH_ k_=>?_
 obtain ⟨k,σ₁,hk,H₁,h₁⟩:=hpat
 refine k_ ?_
 clear k_ H_
 refine wpAny_bind (wpAny_mono (h₁ s₁ H₁) (λvv s₂ hpat=>?_) λu_ u_ x=>x)
 refine smG λH_ k_=>?_
 obtain ⟨v,σ₂,hv,H₂,i,own',ek,u,hq⟩:=hpat
 refine k_ ?_
 clear k_ H_
 subst ek
 refine wpAny_bind (wpAny_standAt (wpAny_pure (evalPairs_nil ?_)))
 refine smG λH_ k_=>?_
 obtain ⟨hms,vk,⟨p0,w0,hdo⟩,hkv,hlim⟩:=H₂.own _ u.mem
 refine k_ ?_
 clear k_ H_
 have hd:=Qaw (p':=C.prog) (w':=C.w) hdo
 have hvk:vk=[]:=by have:=hkv.length;cases vk with | nil=>rfl | cons _ _=>simp at this
 subst hvk
 refine ⟨[(some i,vv)],⟨Qdl (k:=some i) hk,rfl,trivial⟩,hd,λh' hd' hs=>?_⟩
 refine ⟨.ref _,_,rfl,(H₂.upd F.ok u (s':={ s₂ with heap:=h',toks:=s₂.toks+_ }) (λb ob hb' e=>(hs.2 b hb').trans e) ⟨hms,[(some i,vv)],⟨_,_,hd'⟩,.cons rfl hv .nil,by simp [lim]⟩ rfl rfl),hq⟩
theorem Qkh {o:Expr}{apos pos:Pos}{Q:MV->St->Prop}(F:Fx C hb prog w sc n md fl)(hbase:attributeBase o "pop" C.env (eval o C.env)=eval o C.env)(hline:(apos.endLine == pos.line)=true)
   (h:Ex C o σ (λov σ₁=>∃a xs m own',ov=.ref a/\Upd σ₁.own a (.list (xs++[m])) (.list xs) own'/\Q m { σ₁ with own:=own' })) :
   Ex C (.Call (.Attribute o "pop" apos) [] [] pos) σ Q:=λs H=>by
 refine wpAny_Call_method0_late hbase hline (wpAny_mono (h s H) (λvo s₁ hpat=>?_) λu_ u_ x=>x)
 refine smG λH_ k_=>?_
 obtain ⟨ov,σ₁,ho,H₁,a,xs,m,own',e1,u,hq⟩:=hpat
 refine k_ ?_
 clear k_ H_
 subst e1
 obtain rfl:vo=.ref a:=ho
 refine smG λH_ k_=>?_
 obtain ⟨vs,nn,hob,hr,hlim⟩:=H₁.own _ u.mem
 refine k_ ?_
 clear k_ H_
 have hsz:vs.size=xs.length+1:=by have:=hr.length;simp at this;exact this.symm
 refine smG λH_ k_=>?_
 obtain ⟨v,hv,hvr⟩:=hr.get (i:=xs.length) (m:=m) (by simp)
 refine k_ ?_
 clear k_ H_
 refine ⟨"list",_,PySem.F.plainAttrs_list,PySem.F.slot_list_pop,PySem.F.type_list_pop,⟨_,hob,rfl⟩,λb e'=>by cases e';exact ⟨_,hob,rfl⟩,?_⟩
 refine P.pop_list hob (y:=v) (by rw [hsz,<-Qpy];simpa using hv) ⟨m,_,hvr,H₁.upd F.ok u (λb ob hb' e'=>by rw [Heap.get?_update_other _ _ (Ne.symm hb')];exact e') ?_ rfl rfl,hq⟩ (by rw [hsz];simp at hlim;exact Qdg hlim Qdv)
 refine ⟨vs.eraseIdxIfInBounds (vs.size-1),_,IsL.update hob λxs=>xs.eraseIdxIfInBounds (vs.size-1),?_,by simp at hlim;exact om324 ‹_›⟩
 have e:(vs.eraseIdxIfInBounds (vs.size-1)).toList=vs.toList.take xs.length:=by
   unfold Array.eraseIdxIfInBounds
   rw [dif_pos (by exact om325 ‹_›)]
   rw [Array.toList_eraseIdx,hsz,List.eraseIdx_eq_take_drop_succ]
   simp [hsz]
 rw [e]
 have:=hr.take xs.length
 simpa using this
theorem EqM.noOth {m m':MV}{b:Bool}(h:EqM σ m m' b):∀u,m≠.oth u:=λu e=>by subst e;cases h
theorem Qv3 {a:Addr}{xs:List MV}{m:MV}(e:MV->Bool){Q:MV->St->Prop}(hh:Has σ a (.list xs))(he:∀y∈xs,EqM σ y m (e y))(h:Q (.bool (xs.any e)) σ):Cmp C .In m (.ref a) σ Q:=λva vb ha hb' s H=>by
 obtain rfl:vb=.ref a:=hb'
 refine smG λH_ k_=>?_
 obtain ⟨vs,nn,hob,hr,hlim⟩:=H.has hh
 refine k_ ?_
 clear k_ H_
 refine smG λH_ k_=>?_
 obtain ⟨h1,h2⟩:=Qkv hr e λy hy=>(he y hy).noOth
 refine k_ ?_
 clear k_ H_
 refine in_listAt (λv=>e (mvOf v)) ⟨_,hob,rfl,nn,rfl⟩ (λy hy=>?_) ⟨.bool _,σ,rfl,H,by rw [<-Qy6,h2];exact h⟩
 refine smG λH_ k_=>?_
 obtain ⟨g1,g2⟩:=h1 y (by simpa using hy)
 refine k_ ?_
 clear k_ H_
 exact (he _ g2).at H g1 ha _
theorem Qns {a:Addr}{xs:List MV}{m:MV}(e:MV->Bool){Q:MV->St->Prop}(hh:Has σ a (.list xs))(he:∀y∈xs,EqM σ y m (e y))(h:Q (.bool (!xs.any e)) σ):Cmp C .NotIn m (.ref a) σ Q:=λva vb ha hb' s H=>by
 obtain rfl:vb=.ref a:=hb'
 refine smG λH_ k_=>?_
 obtain ⟨vs,nn,hob,hr,hlim⟩:=H.has hh
 refine k_ ?_
 clear k_ H_
 refine smG λH_ k_=>?_
 obtain ⟨h1,h2⟩:=Qkv hr e λy hy=>(he y hy).noOth
 refine k_ ?_
 clear k_ H_
 refine notIn_listAt (λv=>e (mvOf v)) ⟨_,hob,rfl,nn,rfl⟩ (λy hy=>?_) ⟨.bool _,σ,rfl,H,by rw [<-Qy6,h2];exact h⟩
 refine smG λH_ k_=>?_
 obtain ⟨g1,g2⟩:=h1 y (by simpa using hy)
 refine k_ ?_
 clear k_ H_
 exact (he _ g2).at H g1 ha _
theorem Qtg {a:Addr}{ns:List Int}{i:Int}{Q:MV->St->Prop}(hh:Has σ a (.list (ns.map MV.int)))(h:Q (.bool (decide (i∈ns))) σ):Cmp C .In (.int i) (.ref a) σ Q:=by
 refine Qv3 (λy=>match y with | .int j=>decide (j=i) | _=>false) hh (λy hy=>?_) ?_
 . obtain ⟨j,hj,rfl⟩:=Qc6.mp hy;exact .int j i
 . have e:(ns.map MV.int).any (λy=>match y with | .int j=>decide (j=i) | _=>false)=decide (i∈ns):=by
     rw [List.any_map];rw [Bool.eq_iff_iff];simp
   rw [e];exact h
theorem Qhr {a:Addr}{ns:List Int}{i:Int}{Q:MV->St->Prop}(hh:Has σ a (.list (ns.map MV.int)))(h:Q (.bool (!decide (i∈ns))) σ):Cmp C .NotIn (.int i) (.ref a) σ Q:=by
 refine Qns (λy=>match y with | .int j=>decide (j=i) | _=>false) hh (λy hy=>?_) ?_
 . obtain ⟨j,hj,rfl⟩:=Qc6.mp hy;exact .int j i
 . have e:(ns.map MV.int).any (λy=>match y with | .int j=>decide (j=i) | _=>false)=decide (i∈ns):=by
     rw [List.any_map];rw [Bool.eq_iff_iff];simp
   rw [e];exact h
theorem Holds.newIn {s s':Shared}{mo:MO}(H:Holds C σ s)(e:∀b o,s.heap.get? b=some o->s'.heap.get? b=some o)(hg:s'.gens=s.gens)(hos:s'.os=s.os)(ho:OR s'.heap s.heap.objs.size mo) :
   Holds C { σ with own:=(s.heap.objs.size,mo)::σ.own } s':=(H.ext e hg hos).addO (Qb4 H) ho
theorem Holds.thaw {s:Shared}{a:Addr}{o:MO}(OK:C.Ok hb)(H:Holds C σ s)(ha:σ.B a=some o)(h0:C.B0 a=none)(hK:∀o',¬C.kp a o'):Holds C ⟨σ.loc,λb=>if b=a then none else σ.B b,(a,o)::σ.own⟩ s:=by
 have hno:a∉σ.own.map (·.1)++C.fr:=λhm=>by rw [H.apartB a hm] at ha;cases ha
 have hal:¬C.al a:=by
   rcases H.Bnew a o ha with h | h
   . rw [h0] at h;cases h
   . exact h
 have hsub:∀b o',(if b=a then none else σ.B b)=some o'->σ.B b=some o':=λb o' hb'=>by
   split at hb'
   . cases hb'
   . exact hb'
 exact {
   kp:=H.kp,names:=H.names,ns:=H.ns,cells:=H.cells,alive:=H.alive,gens:=H.gens,os:=H.os,al:=H.al
   B:=λb o' hb'=>H.B b o' (hsub b o' hb')
   own:=λp hp=>by
     rcases Qch.mp hp with rfl | hp
     . exact H.B a o ha
     . exact H.own p hp
   nodup:=Qnn.mpr ⟨hno,H.nodup⟩
   apartB:=λb hb'=>by
     show (if b=a then none else σ.B b)=none
     rcases Qch.mp hb' with rfl | hb'
     . exact if_pos rfl
     . split
       . rfl
       . exact H.apartB b hb'
   apartK:=λb hb' o' hk=>by
     rcases Qch.mp hb' with rfl | hb'
     . exact hK o' hk
     . exact H.apartK b hb' o' hk
   B0:=λb o' hb'=>by
     show (if b=a then none else σ.B b)=some o'
     rw [if_neg (λe=>by subst e;rw [h0] at hb';cases hb')];exact H.B0 b o' hb'
   Bnew:=λb o' hb'=>H.Bnew b o' (hsub b o' hb')
   ownNew:=λp hp=>by
     rcases Qch.mp hp with rfl | hp
     . exact .inl hal
     . exact H.ownNew p hp
   noB:=λb hb'=>by
     show (if b=a then none else σ.B b)=none
     split
     . rfl
     . exact H.noB b hb' }
end
end
section
open PySem
noncomputable def unB (B:MH)(a:Addr):MH:=λb=>if b=a then none else B b
theorem Qgb {B:MH}{a b:Addr}(h:b≠a):unB B a b=B b:=by simp [unB,h]
section
variable {C:Cx} {hb:Heap} {prog:Program} {w:World} {sc cs:Scope} {n:Nat} {md:List Addr} {fl:Bool} {x:Str} {σ:St}
theorem Qko {b:Bool}{Q:MV->St->Prop}(h:Q (.int (if b then 1 else 0)) σ):Qb0 C (.type "int") [.bool b] σ Q:=λvs hvs s H=>by
 refine smG λH_ k_=>?_
 obtain ⟨v,rfl,hv⟩:=hvs.one
 refine k_ ?_
 clear k_ H_
 obtain rfl:v=.bool b:=hv
 exact call_int_bool ⟨.int _,σ,⟨_,rfl⟩,H.toks _,h⟩
theorem Qfp {a:Addr}{ts:List Addr}{kvs:KV}{Q:MV->St->Prop}(F:Fx C hb prog w sc n md fl)(hl:hb.NoLimit)(hh:Has σ a (.list (ts.map MV.ref)))(hlen:ts.length=kvs.length)(hnd:(kvs.map (·.1)).Nodup)
   (ht:∀(i:Nat) (t:Addr) (p:Option Int×MV),ts[i]? = some t->kvs[i]? = some p->Has σ t (.tup [Qau p.1,p.2])) (h:∀d,Fsh md σ d->Q (.ref d) { σ with own:=(d,.dict kvs)::σ.own }) :
   Qb0 C (.type "dict") [.ref a] σ Q:=λvs hvs s H=>by
 refine smG λH_ k_=>?_
 obtain ⟨v,rfl,hv⟩:=hvs.one
 refine k_ ?_
 clear k_ H_
 obtain rfl:v=.ref a:=hv
 refine smG λH_ k_=>?_
 obtain ⟨us,nn,hob,hr,hlim⟩:=H.has hh
 refine k_ ?_
 clear k_ H_
 have hex:∀(i:Nat),i<kvs.length->∃(t:Addr) (k:Option Int) (m:MV) (key val:Value) (o:Obj) (n':Nat),kvs[i]? = some (k,m)/\us[i]? = some (.ref t)/\s.heap.get? t=some o/\o.cls=.type "tuple"/\o.data=.seq #[key,val] n'/\Qg4 k key=true/\VR m val:=by
   intro i hi
   obtain ⟨t,et⟩:∃t,ts[i]? = some t:=⟨ts[i]'(hlen ▸ hi),by simp [hlen,hi]⟩
   obtain ⟨⟨k,m⟩,ep⟩:∃p,kvs[i]? = some p:=⟨kvs[i],by simp [hi]⟩
   refine smG λH_ k_=>?_
   obtain ⟨ws,n',ho,hr',u_⟩:=H.has (ht i t (k,m) et ep)
   refine k_ ?_
   clear k_ H_
   refine smG λH_ k_=>?_
   obtain ⟨u,hu,hur⟩:=hr.get (i:=i) (m:=.ref t) (by simp [et])
   refine k_ ?_
   clear k_ H_
   obtain rfl:u=.ref t:=hur
   obtain ⟨ws⟩:=ws
   cases hr' with
   | cons g1 g2=>cases g2 with
     | cons g3 g4=>cases g4 with
       | nil=>exact ⟨t,k,m,_,_,_,_,ep,by rw [<-Qpy];exact hu,ho,rfl,rfl,Qdl g1,g3⟩
 have hvk:∀(j:Nat),j<=kvs.length->∃vk:List (Option Int×Value),KVR (kvs.take j) vk/\∀(i:Nat) (k:Option Int) (v:Value),vk[i]? = some (k,v)->∃(t:Addr) (o:Obj) (key:Value) (n':Nat),us[i]? = some (.ref t)/\s.heap.get? t=some o/\o.cls=.type "tuple"/\o.data=.seq #[key,v] n'/\Qg4 k key=true:=by
   intro j
   induction j with
   | zero=>intro _;exact ⟨[],by simpa using KVR.nil,λi k v e=>by simp at e⟩
   | succ j ih =>
     intro hj
     refine smG λH_ k_=>?_
     obtain ⟨vk,h1,h2⟩:=ih (Qy2 hj)
     refine k_ ?_
     clear k_ H_
     refine smG λH_ k_=>?_
     obtain ⟨t,k,m,key,val,o,n',e1,e2,e3,e4,e5,e6,e7⟩:=hex j hj
     refine k_ ?_
     clear k_ H_
     have hl1:vk.length=j:=by rw [<-h1.length,Qww];exact Qw1 (Qy2 hj)
     have et:kvs.take (j+1)=kvs.take j++[(k,m)]:=by rw [List.take_succ,e1];rfl
     refine ⟨vk++[(k,val)],⟨?_,?_⟩,λi k' v' e=>?_⟩
     . rw [et,Qd1,Qd1,h1.k];rfl
     . rw [et,Qd1,Qd1];exact h1.v.append (.cons e7 .nil)
     . by_cases hi:i<j
       . rw [Qhn (by rw [hl1];exact hi)] at e;exact h2 i k' v' e
       . have:i=j:=by
           have:=(Qck.mp e).1
           simp at this;exact om654 ‹_› ‹_› ‹_›
         subst this
         rw [Qlv (by exact om655 ‹_›),hl1] at e
         simp at e
         refine smG λH_ k_=>?_
         obtain ⟨rfl,rfl⟩:=e
         refine k_ ?_
         clear k_ H_
         exact ⟨t,o,key,n',e2,e3,e4,e5,e6⟩
 refine smG λH_ k_=>?_
 obtain ⟨vk,hkv,hP⟩:=hvk kvs.length (Qwb _)
 refine k_ ?_
 clear k_ H_
 rw [Qhi] at hkv
 have hk:kvs.length=vk.length:=hkv.length
 have hul:us.size=vk.length:=by have:=hr.length;simp at this;omega
 refine Qhx (knd:=Qbj C.prog C.w) (kvs:=vk) F.ok.handled hob (by have:lim=1000000:=rfl;simp at hlim;omega) hul (λj k v hj=>hP j k v hj) λh' tk hkeep hd=>?_
 have hnv:(vk.map (·.1)).Nodup:=hkv.k ▸ hnd
 rw [merged_append_of_fresh [] vk (by simpa using hnv)] at hd
 have H':Holds C σ { s with heap:=h',toks:=tk }:=H.ext hkeep rfl rfl
 have H2:=H.newIn (s':={ s with heap:=h',toks:=tk }) (mo:=.dict kvs) hkeep rfl rfl ⟨H.noModules F.ok hl,vk,⟨_,_,by simpa using hd⟩,hkv,by simp at hlim;exact om658 ‹_› ‹_› ‹_› ‹_›⟩
 exact ⟨.ref _,_,rfl,H2,h _ (F.emod ▸ H.fsh F.ok)⟩
theorem Tr.borrow {α β:Type}{t:Sem α}{R:β->α->Prop}{l:Loc}{B:MH}{a:Addr}{o:MO}{own:Own}{Q:β->St->Prop}(F:Fx C hb prog w sc n md fl)(ha:a∉md)
   (h:Tr C t R ⟨l,setB B a o,own⟩ (λr σ'=>σ'.B a=some o/\Q r ⟨σ'.loc,unB σ'.B a,(a,o)::σ'.own⟩)):Tr C t R ⟨l,B,(a,o)::own⟩ Q:=λs H=>by
 have H1:=H.frz F.ok (by rw [F.emod];exact ha)
 have hB0:C.B0 a=none:=by
   cases e:C.B0 a with
   | none=>rfl
   | some o' =>
     have h1:=H.B0 a o' e
     have h2:=H.apartB a (Qaq _ Qwm)
     rw [h2] at h1;cases h1
 refine wpAny_mono (h s H1) (λv s' ⟨b,σ',hr,H',hba,hq⟩=>⟨b,_,hr,?_,hq⟩) λu_ u_ x=>x
 exact H'.thaw F.ok hba hB0 (H.apartK a (Qaq _ Qwm))
theorem Tr.facts {α β:Type}{t:Sem α}{R:β->α->Prop}{Q:β->St->Prop}(h:(∀a∈σ.own.map (·.1),σ.B a=none)->(σ.own.map (·.1)).Nodup->Tr C t R σ Q):Tr C t R σ Q:=λs H =>
 h (λa ha=>H.apartB a (Qaq _ ha)) (Qdi.mp H.nodup).1 s H
theorem Qcr {b:List Stmt}{Q:MF->St->Prop}(h:(∀a∈σ.own.map (·.1),σ.B a=none)->(σ.own.map (·.1)).Nodup->Sts C b σ Q):Sts C b σ Q:=Tr.facts h
theorem Qps {b:Stmt}{Q:MF->St->Prop}(h:(∀a∈σ.own.map (·.1),σ.B a=none)->(σ.own.map (·.1)).Nodup->Stm C b σ Q):Stm C b σ Q:=Tr.facts h
theorem Qmq {b:Expr}{Q:MV->St->Prop}(h:(∀a∈σ.own.map (·.1),σ.B a=none)->(σ.own.map (·.1)).Nodup->Ex C b σ Q):Ex C b σ Q:=Tr.facts h
theorem Qmm {b:Expr}{Q:Bool->St->Prop}(h:(∀a∈σ.own.map (·.1),σ.B a=none)->(σ.own.map (·.1)).Nodup->Ts C b σ Q):Ts C b σ Q:=Tr.facts h
end
end
section
open PySem
noncomputable def tks (l:List Int):KV:=l.map λk=>(some k,MV.bool true)
theorem Qcl (l:List Int):(tks l).length=l.length:=by simp [tks]
theorem Qa0 (l:List Int)(b:Int):(dget (tks l) (some b)).isSome=decide (b∈l):=by
 induction l with
 | nil=>simp [tks,dget]
 | cons a l ih =>
   have:dget (tks (a::l)) (some b)=if (some a:Option Int)=some b then some (.bool true) else dget (tks l) (some b):=rfl
   rw [this]
   by_cases e:a=b
   . subst e;simp
   . rw [if_neg (by simpa using e),ih];simp [Ne.symm e]
theorem Qi3 (l:List Int):dget (tks l) none=none:=by
 induction l with
 | nil=>rfl
 | cons a l ih =>
   have:dget (tks (a::l)) none=if (some a:Option Int)=none then some (.bool true) else dget (tks l) none:=rfl
   rw [this,if_neg (by simp),ih]
theorem Qfh {l:List Int}{b:Int}(h:b∉l):dput (tks l) (some b) (.bool true)=tks (l++[b]):=by
 induction l with
 | nil=>rfl
 | cons a l ih =>
   have e:dput (tks (a::l)) (some b) (.bool true)=if (some a:Option Int)=some b then (some a,.bool true)::tks l else (some a,.bool true)::dput (tks l) (some b) (.bool true):=rfl
   simp only [Qch,not_or] at h
   rw [e,if_neg (by simpa using Ne.symm h.1),ih h.2]
   rfl
theorem Qj1 {l:List Int}{b:Int}(h:b∈l):dput (tks l) (some b) (.bool true)=tks l:=by
 induction l with
 | nil=>simp at h
 | cons a l ih =>
   have e:dput (tks (a::l)) (some b) (.bool true)=if (some a:Option Int)=some b then (some a,.bool true)::tks l else (some a,.bool true)::dput (tks l) (some b) (.bool true):=rfl
   rw [e]
   set_option tactic.hygienic true in split
   . rfl
   . rename_i hne
     rw [ih (by rcases Qch.mp h with h | h
                . exact absurd (by rw [h]) hne
                . exact h)]
     rfl
theorem Qry (l:List Int):(tks l).map (·.1)=l.map some:=by simp [tks]
theorem Qbf {l:List Int}(h:l.Nodup):(l.map (some:Int->Option Int)).Nodup:=by
 induction l with
 | nil=>exact .nil
 | cons a l ih =>
   simp only [Qnn,Qwk] at h ⊢
   exact ⟨by simpa using h.1,ih h.2⟩
theorem Qfe {α:Type}{l:List α}{e:Int}(h0:0<=e)(h1:e<l.length):∃x,l[e.toNat]? = some x:=⟨_,Qws ((Int.toNat_lt h0).mpr h1)⟩
theorem dfs1:∀{f k n w:Nat},f+k=n+(w+1)->f<=n->f+(k-1)=n+w/\k-1<k
 | f,0,n,w,h,hf=>absurd h (Qw5 (Qxa hf (Nat.lt_add_of_pos_right (Qyg w))))
 | f,k+1,n,w,h,_=>⟨Nat.succ.inj h,Qxc k⟩
theorem dfs2 {f k n w:Nat}(h:f+k=n+w):f+1+k=n+(w+1):=(Nat.add_right_comm f 1 k).trans (congrArg Nat.succ h)
theorem Qb9 {a n:Nat}(h:a<=n)(hn:n<=1000):a+1<=lim:=Qdg (Qx4 (Qdg h hn)) (by unfold lim;decide)
theorem dfs3 {f k n w:Nat}(h:f+k=n+w)(hf:f<=n)(hk:k<=n)(hn:n<=1000):w+1<=lim:=Qb9 (Nat.le_of_add_le_add_left (h ▸ Nat.add_le_add hf hk)) hn
theorem Qot {α:Type}{g:α->MV}{l:List α}(h:l.length+1<=lim):(l.map g).length+1<=lim:=by rw [Qab];exact h
inductive Rch (E:Int->Int->Prop)(ok:Int->Prop)(s:Int):Int->Prop
 | refl:Rch E ok s s
 | step {a b:Int}:Rch E ok s a->E a b->ok b->Rch E ok s b
theorem Rch.trans {E:Int->Int->Prop}{ok:Int->Prop}{a b c:Int}(h:Rch E ok a b)(h':Rch E ok b c):Rch E ok a c:=by
 induction h' with
 | refl=>exact h
 | step _ e o ih=>exact .step ih e o
theorem Rch.mono {E E':Int->Int->Prop}{ok ok':Int->Prop}(hE:∀a b,E a b->ok b->E' a b/\ok' b){a b:Int}(h:Rch E ok a b):Rch E' ok' a b:=by
 induction h with
 | refl=>exact .refl
 | step _ e o ih=>exact .step ih (hE _ _ e o).1 (hE _ _ e o).2
theorem Qaf:∀(n:Nat) (l:List Int),l.Nodup->(∀a∈l,0<=a/\a<n)->l.length<=n
 | 0,l,_,h=>by
   cases l with
   | nil=>simp
   | cons a l=>have:=h a Qwm;exact (om659 ‹_›).elim
 | n+1,l,hn,h=>by
   have h1:(l.erase n).length<=n:=Qaf n (l.erase n) (hn.erase _) λa ha=>by
     have h2:=h a (List.mem_of_mem_erase ha)
     have h3:a≠n:=((List.Nodup.mem_erase_iff hn).mp ha).1
     exact om660 ‹_› ‹_›
   have h2:l.length<=(l.erase n).length+1:=by
     rw [List.length_erase];split <;> (first | exact om661 | exact Qup)
   exact om662 ‹_› ‹_›
structure DInv (E:Int->Int->Prop)(ok:Int->Prop)(s:Int)(n:Nat)(found W:List Int)(c:Int)(rest:List (Option Int)):Prop where
 start:s∈found
 sound:∀a∈found,Rch E ok s a
 rng:∀a∈found,0<=a/\a<n
 nd:found.Nodup
 sub:∀a∈W,a∈found
 clo:∀a∈found,∀b,E a b->ok b->b∈found\/a∈W\/(a=c/\some b∈rest)
 cf:c∈found
 cE:∀b,some b∈rest->E c b
section
variable {E:Int->Int->Prop} {ok:Int->Prop} {s:Int} {n:Nat} {found W:List Int} {c:Int} {rest:List (Option Int)}
theorem DInv.init (h0:0<=s)(h1:s<n):DInv E ok s n [s] [s] s [] where
 start:=by simp
 sound:=λa ha=>by simp at ha;subst ha;exact .refl
 rng:=λa ha=>by simp at ha;subst ha;exact ⟨h0,h1⟩
 nd:=by simp
 sub:=λa ha=>ha
 clo:=λa ha b u_ u_=>.inr (.inl ha)
 cf:=by simp
 cE:=λb hb=>by simp at hb
theorem DInv.pop {d:Int}{succ:List (Option Int)}(D:DInv E ok s n found (W++[d]) c [])(hs:∀b,E d b↔some b∈succ):DInv E ok s n found W d succ where
 start:=D.start
 sound:=D.sound
 rng:=D.rng
 nd:=D.nd
 sub:=λa ha=>D.sub a (Qaq _ ha)
 clo:=λa ha b e o=>by
   rcases D.clo a ha b e o with h | h | h
   . exact .inl h
   . rcases Qaz.mp h with h | h
     . exact .inr (.inl h)
     . simp at h;subst h;exact .inr (.inr ⟨rfl,(hs b).mp e⟩)
   . simp at h
 cf:=D.sub d (by simp)
 cE:=λb hb=>(hs b).mpr hb
theorem DInv.skip {o:Option Int}(D:DInv E ok s n found W c (o::rest))(h:∀b,o=some b->ok b->b∈found):DInv E ok s n found W c rest where
 start:=D.start
 sound:=D.sound
 rng:=D.rng
 nd:=D.nd
 sub:=D.sub
 clo:=λa ha b e o'=>by
   rcases D.clo a ha b e o' with h' | h' | ⟨h',h''⟩
   . exact .inl h'
   . exact .inr (.inl h')
   . rcases Qch.mp h'' with h3 | h3
     . exact .inl (h b h3.symm o')
     . exact .inr (.inr ⟨h',h3⟩)
 cf:=D.cf
 cE:=λb hb=>D.cE b (Qdx _ hb)
theorem DInv.add {b:Int}(D:DInv E ok s n found W c (some b::rest))(ho:ok b)(hb:b∉found)(h0:0<=b)(h1:b<n):DInv E ok s n (found++[b]) (W++[b]) c rest where
 start:=Qaq _ D.start
 sound:=λa ha=>by
   rcases Qaz.mp ha with h | h
   . exact D.sound a h
   . simp at h;subst h;exact .step (D.sound c D.cf) (D.cE a Qwm) ho
 rng:=λa ha=>by
   rcases Qaz.mp ha with h | h
   . exact D.rng a h
   . simp at h;subst h;exact ⟨h0,h1⟩
 nd:=Qdi.mpr ⟨D.nd,by simp,λx hx y hy e=>by simp at hy;subst hy;subst e;exact hb hx⟩
 sub:=λa ha=>by
   rcases Qaz.mp ha with h | h
   . exact Qaq _ (D.sub a h)
   . exact Qbv _ h
 clo:=λa ha b' e o=>by
   rcases Qaz.mp ha with h | h
   . rcases D.clo a h b' e o with h' | h' | ⟨h',h''⟩
     . exact .inl (Qaq _ h')
     . exact .inr (.inl (Qaq _ h'))
     . rcases Qch.mp h'' with h3 | h3
       . cases h3;exact .inl (by simp)
       . exact .inr (.inr ⟨h',h3⟩)
   . exact .inr (.inl (Qbv _ h))
 cf:=Qaq _ D.cf
 cE:=λb hb=>D.cE b (Qdx _ hb)
theorem DInv.done (D:DInv E ok s n found [] c [])(a:Int):a∈found↔Rch E ok s a:=by
 refine ⟨D.sound a,λh=>?_⟩
 induction h with
 | refl=>exact D.start
 | step _ e o ih =>
   rcases D.clo _ ih _ e o with h | h | h
   . exact h
   . simp at h
   . simp at h
theorem DInv.len (D:DInv E ok s n found W c rest):found.length<=n:=Qaf n found D.nd D.rng
end
open PySem
theorem if_b {c:Bool}{A B:Prop}(h1:c=true->A)(h2:c=false->B):if c=true then A else B:=by
 cases c with
 | true=>exact h1 rfl
 | false=>exact h2 rfl
end
section
open PySem
theorem Qis (l:Loc)(x:Str)(m:MV):look (put l x m) x=some m:=by rw [Qe8];simp
noncomputable def GlD (hb:Heap):Prop:=Gl hb "dict" (.oth (.type "dict"))
noncomputable def Qat (n:Nat):List Int:=(List.range n).map λ(i:Nat)=>(i:Int)
theorem mem_nums0 {n:Nat}{a:Int}:a∈Qat n↔0<=a/\a<n:=by
 unfold Qat
 rw [Qc6]
 constructor
 . rintro ⟨i,hi,rfl⟩;simp at hi;exact Quz ‹_›
 . rintro ⟨h0,h1⟩;exact ⟨a.toNat,by simp;exact om50 ‹_› ‹_›,by exact om54 ‹_›⟩
theorem Qa8 (n:Nat):(Qat n).Nodup:=by
 unfold Qat
 refine List.Pairwise.map _ ?_ List.nodup_range
 intro a b h e;exact h (by exact om663 ‹_›)
theorem Qai (n:Nat):(Qat n).length=n:=by simp [Qat]
theorem Qav (n:Nat):(List.range n).map (λ(i:Nat)=>MV.int (i:Int))=(Qat n).map MV.int:=by simp [Qat]
theorem Qdb {n i:Nat}{z:Int}(h:(Qat n)[i]? = some z):i<n/\z=i:=by
 unfold Qat at h
 rw [Qaa] at h
 obtain ⟨j,hj,rfl⟩:=Qad.mp h
 obtain ⟨h1,h2⟩:=Qck.mp hj
 simp at h1 h2
 exact ⟨h1,by exact om664 ‹_›⟩
section
variable {C:Cx} {hb:Heap} {prog:Program} {w:World} {sc cs:Scope} {n:Nat} {md:List Addr} {fl:Bool} {x:Str} {σ:St}
noncomputable def PairsIn (B:MH)(ts:List Addr)(l:List Int):Prop:=ts.length=l.length/\∀(i:Nat) (t:Addr) (k:Int),ts[i]? = some t->l[i]? = some k->B t=some (.tup [.int k,.bool true])
theorem PairsIn.mono {B B':MH}{ts:List Addr}{l:List Int}(h:PairsIn B ts l)(s:Sub0 B B'):PairsIn B' ts l:=⟨h.1,λi t k h1 h2=>s _ _ (h.2 i t k h1 h2)⟩
theorem PairsIn.snoc {B:MH}{ts:List Addr}{l:List Int}{t:Addr}{k:Int}(h:PairsIn B ts l)(hc:B t=some (.tup [.int k,.bool true])):PairsIn B (ts++[t]) (l++[k]):=by
 refine ⟨by simp [h.1],λi t' k' h1 h2=>?_⟩
 by_cases hi:i<ts.length
 . rw [Qhn hi] at h1
   rw [Qhn (by rw [<-h.1];exact hi)] at h2
   exact h.2 i t' k' h1 h2
 . rw [Qlv (by exact om13 ‹_›)] at h1
   rw [Qlv (by rw [<-h.1];exact om13 ‹_›),<-h.1] at h2
   have e:i-ts.length=0:=by
     have:=(Qck.mp h1).1
     simp at this;exact om14 ‹_›
   rw [e] at h1 h2
   simp at h1 h2
   subst h1;subst h2;exact hc
theorem Exs_cv {pos:Pos}{es:List Expr}{σ':St}{Q:List MV->St->Prop}(F:Fx C hb prog w sc n md fl)(c:Cv md σ σ')(h:Exs C pos es σ' Q):Exs C pos es σ Q:=Tr.cv F c h
theorem Qco {elt:Expr}{gens:List Comprehension}{y:Str}{py pos:Pos}{ln:Nat}(F:Fx C hb prog w sc n md fl)(hk:sc.names.lookup y=some .local)(hl:(py.line == pos.line)=true)(hn:(cs.names.any λp=>p.1 == y && (p.2 == .local || p.2 == .cell))=false) :
   swapsWith (.ListComp elt gens cs pos) (some (.Name y py)) ln C.env=pure true:=by
 have hb:(C.env.blockKind == ScopeKind.function)=true:=by unfold Env.blockKind;rw [F.ok.kind];rfl
 have hv:(C.env.kindOf y == some NameKind.local)=true:=by rw [F.kind hk];rfl
 show (pure (C.env.blockKind == .function && C.env.kindOf y == some .local && py.line == pos.line && !(cs.names.any λp=>p.1 == y && (p.2 == .local || p.2 == .cell))):Sem Bool)=pure true
 rw [hb,hv,hl,hn];rfl
theorem Qmn {e:Stmt}{Q Q':MF->St->Prop}(h:Stm C e σ Q)(h':∀b σ',Q b σ'->Q' b σ'):Stm C e σ Q':=Tr.mono h h'
theorem Qk8 {c:Prop}[Decidable c]{b1 b2:List Stmt}{K:MF->St->Prop}(J:St->Prop)(h1:c->Sts C b1 σ (λf σ'=>f=.next/\J σ'))(h2:¬c->Sts C b2 σ (λf σ'=>f=.next/\J σ'))(h:∀σ',J σ'->K .next σ') :
   if decide c=true then Sts C b1 σ K else Sts C b2 σ K:=by
 have key:∀b:List Stmt,Sts C b σ (λf σ'=>f=.next/\J σ')->Sts C b σ K:=λb hb'=>Tr.mono hb' λf σ' ⟨e,hj⟩=>e ▸ h σ' hj
 by_cases hc:c
 . rw [if_pos (by simpa using hc)];exact key _ (h1 hc)
 . rw [if_neg (by simpa using hc)];exact key _ (h2 hc)
theorem Qvu {B:MH}{a:Addr}{o:MO}(h:B a=none):Sub0 B (setB B a o):=λb o' hb'=>by
 rw [Qbp (λe=>by subst e;rw [h] at hb';cases hb')];exact hb'
theorem Sub0t {B B' B'':MH}(h:Sub0 B B')(h':Sub0 B' B''):Sub0 B B'':=λa o x=>h' a o (h a o x)
theorem Qct {iter:Expr}{k kk:Nat}{p1 p2 p3 p4 p5 p6 p7:Pos}{Q:MV->St->Prop}(F:Fx C hb prog w sc n md fl)(hlim:hb.NoLimit)(gd:GlD hb)(hk:sc.names.lookup (Qa "dict")=some .globalImplicit)
   (K:Qbx cs sc x) (hs:∀v,foldedSetIterable iter C.env v=pure v) (hx:Qgz x=true)
   (h:Ex C iter σ (λv σ₁=>∃l:List Int,Itr σ₁ v (l.map MV.int)/\l.Nodup/\l.length<=lim/\∀B' d,Sub0 σ₁.B B'->B' d=none->d∉md->d∉σ₁.own.map (·.1)->Q (.ref d) ⟨σ₁.loc,B',(d,.dict (tks l))::σ₁.own⟩)) :
   Ex C (.Call (.Name "dict" p1) [.ListComp (.Tuple [.Name x p2,.Constant (.bool true) k p3] kk p4) [⟨.Name x p5,iter,[],0⟩] cs p6] [] p7) σ Q:=by
 refine Tr.post F ?_
 refine Qfn F.ok gd (F.kind hk) rfl rfl ?_
 refine Qdt rfl ?_
 refine Qa9 F K hs (Tr.mono h λv σ₁ hpat=>?_)
 obtain ⟨l,it,hnd,hl,hq⟩:=hpat
 refine ⟨l.map MV.int,λi ys B' own'=>own'=σ₁.own/\Sub0 σ₁.B B'/\∃ts,ys=ts.map MV.ref/\PairsIn B' ts (l.take i),it,by simpa using hl,⟨rfl,Sub0.rfl' _,[],rfl,rfl,by simp⟩,?_,?_⟩
 . rintro C' F' i ys B' own' m ⟨rfl,hs',ts,rfl,hp⟩ hm
   rw [Qaa] at hm
   obtain ⟨z,hz,rfl⟩:=Qad.mp hm
   refine Qap ?_
   dsimp only
   refine Qbz ?_
   refine Qkj F' ?_
   refine Qdt rfl ?_
   refine Qtx F' (Qis _ _ _) hx ?_
   refine Qdt rfl ?_
   refine Qrg ?_
   refine Qlu ⟨by simp [lim],λa ha=>?_⟩
   refine ⟨_,.frz ha.md,rfl,Sub0t hs' (Qvu ha.B),ts++[a],by simp,?_⟩
   have et:l.take (i+1)=l.take i++[z]:=by rw [Qwy,hz];rfl
   rw [et]
   exact (hp.mono (Qvu ha.B)).snoc setB_self
 . rintro ys B' own' ⟨rfl,hs',ts,rfl,hp⟩ la hla
   rw [Qab,Qhi] at hp
   refine Qlu ?_
   refine Qfp F hlim (.inl (.head _)) (ts:=ts) (kvs:=tks l) (by rw [hp.1,Qcl]) (by rw [Qry];exact Qbf hnd) (λi t p h1 h2=>?_) λd hd=>?_
   . unfold tks at h2
     rw [Qaa] at h2
     obtain ⟨z,hz,rfl⟩:=Qad.mp h2
     exact .inr (hp.2 i t z h1 hz)
   . refine ⟨_,.own (List.Sublist.cons_cons _ (Qxe ..)),hq B' d hs' hd.B hd.md λhm=>hd.own (by simp at hm ⊢;exact .inr hm)⟩
end
end
open PySem
theorem Qrk {C:Cx}{hb:Heap}{σ:St}{prog:Program}{w:World}{sc:Scope}{n:Nat}{md:List Addr}{fl:Bool}{f:Str}{p pos:Pos}{e:Expr}{rest:List Expr}{T:String}{Q:MV->St->Prop}(F:Fx C hb prog w sc n md fl)(g:Gl hb f (.oth (.builtin T)))(hk:sc.names.lookup f=some .globalImplicit)
   (he:starEach (e::rest) C.env=(false,eval e C.env)::starEach rest C.env) (hplain:(backTo pos (starEach rest C.env)).any (·.1)=false)
   (h:Exs C pos (e::rest) σ (Qrt C (.builtin T) Q)):Ex C (.Call (.Name f p) (e::rest) [] pos) σ Q:=Qtf F.ok g (F.kind hk) he hplain h
theorem Qri {C:Cx}{hb:Heap}{σ:St}{prog:Program}{w:World}{sc:Scope}{n:Nat}{md:List Addr}{fl:Bool}{f:Str}{p pos:Pos}{e:Expr}{rest:List Expr}{T:String}{Q:MV->St->Prop}(F:Fx C hb prog w sc n md fl)(g:Gl hb f (.oth (.type T)))(hk:sc.names.lookup f=some .globalImplicit)
   (he:starEach (e::rest) C.env=(false,eval e C.env)::starEach rest C.env) (hplain:(backTo pos (starEach (e::rest) C.env)).any (·.1)=false)
   (h:Exs C pos (e::rest) σ (Qrt C (.type T) Q)):Ex C (.Call (.Name f p) (e::rest) [] pos) σ Q:=Qfn F.ok g (F.kind hk) he hplain h
theorem Qrp {C:Cx}{hb:Heap}{σ:St}{prog:Program}{w:World}{sc:Scope}{n:Nat}{md:List Addr}{fl:Bool}{a b:Int}{Q:MV->St->Prop}(F:Fx C hb prog w sc n md fl)(h:Q (.int (max a b)) σ):Qb0 C (.builtin "max") [.int a,.int b] σ Q:=Qtk F.ok h
theorem Qro {C:Cx}{hb:Heap}{σ:St}{prog:Program}{w:World}{sc:Scope}{n:Nat}{md:List Addr}{fl:Bool}{a b:Int}{Q:MV->St->Prop}(F:Fx C hb prog w sc n md fl)(h:Q (.int (min a b)) σ):Qb0 C (.builtin "min") [.int a,.int b] σ Q:=Qtj F.ok h
local macro_rules | `(tactic| walk_at "m ne") => `(tactic| exact Qbk (by decide))
local macro_rules | `(tactic| walk_at "m look") => `(tactic| exact rfl)
local macro_rules | `(tactic| walk_at "m put") => `(tactic| first | with_reducible exact Qug | with_reducible exact put_hd | (refine' put_tl ?a ?b; (case a => walk_at "m ne"); (case b => walk_at "m put")))
local macro_rules | `(tactic| walk_at "m capt") => `(tactic| first | with_reducible exact Qsw | (refine' Qpg ?a ?b; (case a => rfl); (case b => walk_at "m capt")) | (refine' Qpf ?a ?b; (case a => decide); (case b => walk_at "m capt")))
local macro_rules | `(tactic| walk_at "m cex") => `(tactic| ((first | with_reducible refine' Ex_le ?a ?_ | with_reducible refine' Ts_le ?a ?_); (case a => refine' Qr4 ?a ?b; (case a => walk_at "m capt"); (case b => walk_at "m put"))))
local macro_rules | `(tactic| walk_at "m compok") => `(tactic| exact ⟨rfl, by decide, by decide, by decide, rfl⟩)
local macro_rules | `(tactic| walk_at "m mem") => `(tactic| first | with_reducible exact mem_hd | ((with_reducible refine mem_tl ?_); walk_at "m mem"))
local macro_rules | `(tactic| walk_at "m upd") => `(tactic| first | with_reducible exact Upd.head | ((with_reducible refine' Upd.tail ?a); (case a => walk_at "m upd")))
local macro_rules | `(tactic| walk_at "m has") => `(tactic| first | with_reducible assumption | (refine Or.inr ?_; with_reducible assumption) | (refine Or.inl ?_; (try dsimp only); walk_at "m mem") | fail "x")
local macro_rules | `(tactic| walk_at "s") => `(tactic| first
  | with_reducible assumption
  | (guard_target=look _ _=_;walk_at "m look")
  | (guard_target=put _ _ _=_;walk_at "m put")
  | (guard_target=Has _ _ _;walk_at "m has")
  | (guard_target=Upd _ _ _ _ _;(try dsimp only);walk_at "m upd")
  | rfl
  | exact Qfw ‹_›
  | decide
  | omega
  | (refine Qh5 ?_;omega)
  | decide +kernel
  | exact IntMulOk.of_right (by decide +kernel) | exact IntMulOk.of_left (by decide +kernel) | exact Qor (by omega)
  | (simp only [Qab,Qey,Qwo,List.length_nil,lim];omega)
  | fail "s")
local macro_rules | `(tactic| walk_at "m set") => `(tactic| ((with_reducible refine' Qkf ?a ?b ?c ?d ?_); (case a | b | c => walk_at "s"); (case d => first | assumption | (simp; first | done | omega) | omega)))
local macro_rules | `(tactic| walk_at "m stm") => `(tactic| first
  | ((with_reducible first | refine' Qf7 ?a ?_ | refine' Qs0 ?a ?_);case a=>walk_at "s")
  | ((with_reducible refine' Qs3 ?a ?b ?_);case a | b=>walk_at "s")
  | (with_reducible first | refine Stm_If ?_ | refine Qnl ?_ | fail "x")
  | fail "x")
local macro_rules | `(tactic| walk_at "m ex") => `(tactic| first
  | ((with_reducible refine' Qtx ?a ?b ?c ?_);case a | b | c=>walk_at "s")
  | ((with_reducible refine' Qte ?a ?b ?c ?d ?e ?_);case a | b | c | d | e=>walk_at "s")
  | ((with_reducible refine' Qtd ?a ?b ?c ?d ?e ?_);case a | b | c | d | e=>walk_at "s")
  | ((with_reducible refine' Qrk ?a ?b ?c ?d ?e ?_);case a | b | c | d | e=>walk_at "s")
  | ((with_reducible refine' Qri ?a ?b ?c ?d ?e ?_);case a | b | c | d | e=>walk_at "s")
  | ((with_reducible refine' Ex_glb ?a ?b ?c ?_);case a | b | c=>walk_at "s")
  | ((with_reducible first | refine' Qkk ?a ?_ | refine' Qnq ?a ?_ | refine' Qta ?a ?_ | refine' Qkj ?a ?_ | refine' Qrf ?a ?_);case a=>walk_at "s")
  | ((with_reducible refine' Qvz ?a ?b ?c ?d ?_);case a | b | c | d=>walk_at "s")
  | (with_reducible first | refine Ex_int ?_ | refine Ex_str ?_ | refine Qmt ?_ | refine Qvy ?_ | refine Qrg ?_ | refine Qv1 ?_ | refine Qnp ?_ | refine Qtb ?_ | fail "x")
  | fail "x")
local macro_rules | `(tactic| walk_at "m ts") => `(tactic| first
  | ((with_reducible first | refine' Qni ?a ?_ | refine' Qpo ?a ?_ | refine' Ts_val ?a ?_);case a=>walk_at "s")
  | (with_reducible first | refine Ts_Not ?_ | refine Ts_And ?_ | refine Qnj ?_ | refine Ts_Or ?_ | refine Qpp ?_ | fail "x")
  | fail "x")
local macro_rules | `(tactic| walk_at "m bin") => `(tactic| first
  | ((with_reducible first | refine' Qv8 ?a ?b ?_ | refine' Qv9 ?a ?b ?_);case a | b=>walk_at "s")
  | ((with_reducible refine' Qv6 ?a ?b ?c ?_);case a | b | c=>walk_at "s")
  | ((with_reducible refine' Qv7 ?a ?_);case a=>walk_at "s")
  | (with_reducible first | refine Qwa ?_ | refine Qv5 ?_ | fail "x")
  | fail "x")
local macro_rules | `(tactic| walk_at "m cmp") => `(tactic| first
  | ((with_reducible first | refine' Qnw ?a ?_ | refine' Qjh ?a ?_ | refine' Qti ?a ?_ | refine' Qlx ?a ?_ | refine' Qth ?a ?_ | refine' Cmp_notInDn ?a ?_);case a=>walk_at "s")
  | ((with_reducible first | refine' Qtg ?a ?_ | refine' Qhr ?a ?_);case a=>walk_at "s")
  | (with_reducible first | refine Cmp_lt ?_ | refine Cmp_eq ?_ | refine Cmp_le ?_ | refine Cmp_gt ?_ | refine Cmp_ge ?_ | refine Cmp_ne ?_ | refine Qrn ?_ | fail "x")
  | fail "x")
local macro_rules | `(tactic| walk_at "m store") => `(tactic| first
  | ((with_reducible refine' Qpq ?a ?b ?c ?_);case a | b | c=>walk_at "s")
  | ((with_reducible refine' Qpr ?a ?b ?c ?_);case a | b | c=>walk_at "s")
  | fail "x")
local macro_rules | `(tactic| walk_at "m call") => `(tactic| first
  | ((with_reducible first | refine' Qji ?a ?_ | refine' Qit ?a ?_ | refine' Qrp ?a ?_ | refine' Qro ?a ?_);case a=>walk_at "s")
  | ((with_reducible first | refine' Qkn ?a ?_ | refine' Qk9 ?a ?_);case a=>walk_at "s")
  | ((with_reducible refine' Qnz ?a ?b ?_);case a | b=>walk_at "s")
  | ((with_reducible refine' Qlz ?a ?_);case a=>walk_at "s")
  | (with_reducible first | refine Qlb ?_ | refine Qjx ?_ | refine Qko ?_ | fail "x")
  | fail "x")
local macro_rules | `(tactic| walk_at "m ite") => `(tactic| first
  | ((with_reducible refine' Qvr ?a ?_);(case a=>exact Qye rfl))
  | (with_reducible first | refine Qbz ?_ | refine if_ff ?_ | refine if_ntt ?_ | fail "x")
  | fail "x")
local macro_rules | `(tactic| walk_at "m1") => `(tactic| first
  | (guard_target=Ex _ _ _ _;walk_at "m ex")
  | (guard_target=Exs _ _ _ _ _;first | ((with_reducible refine' Qdt ?a ?_);(case a=>rfl)) | with_reducible refine Qlu ?_)
  | (guard_target=Sts _ _ _ _;(with_reducible first | refine Qag ?_ | refine Qf6 ?_ | fail "x"))
  | (guard_target=Stm _ _ _ _;walk_at "m stm")
  | (guard_target=Ts _ _ _ _;walk_at "m ts")
  | (guard_target=Bin _ _ _ _ _ _;walk_at "m bin")
  | (guard_target=Cmp _ _ _ _ _ _;walk_at "m cmp")
  | (guard_target=Trt _ _ _ _;(with_reducible first | refine Qsy ?_ | fail "x"))
  | (guard_target=Qb6 _ _ _ _ _;walk_at "m store")
  | (guard_target=Qb0 _ _ _ _ _;walk_at "m call")
  | (guard_target=SubG _ _ _ _ _;first | ((with_reducible refine' Qja ?a ?b ?c ?_);(case a=>walk_at "m has");(case b=>decide);(case c=>rfl)) | ((with_reducible refine' Qae ?a ?b ?c ?_);(case a=>walk_at "m has");(case b=>decide);(case c=>rfl)))
  | (guard_target=Una _ _ _ _ _;(with_reducible first | refine Qvs ?_ | fail "x"))
  | ((with_reducible refine' AppG_i ?a ?_);case a=>walk_at "s")
  | ((with_reducible refine' Qid ?a ?b ?_);case a | b=>walk_at "s")
  | walk_at "m ite" | fail "x")
local macro_rules | `(tactic| walk_at "m") => `(tactic| repeat' (walk_at "m1"; (try dsimp only [SpK2, SpO2, Qld, Qwx])))
section
open PySem PySem.SeqAt
section
variable {C:Cx} {hb:Heap} {prog:Program} {w:World} {sc cs:Scope} {n:Nat} {md:List Addr} {fl:Bool} {x:Str} {σ:St}
theorem Holds.newAt {s s':Shared}{a:Addr}{mo:MO}(H:Holds C σ s)(ha:s.heap.objs.size<=a)(e:∀b o,s.heap.get? b=some o->s'.heap.get? b=some o)(hg:s'.gens=s.gens)(hos:s'.os=s.os)(ho:OR s'.heap a mo) :
   Holds C { σ with own:=(a,mo)::σ.own } s':=(H.ext e hg hos).addO (H.far ha) ho
theorem Qnu {a b:Addr}{xs ys:List MV}{e:Nat->Bool}{Q:MV->St->Prop}(OK:C.Ok hb)(ha:Has σ a (.list xs))(hb':Has σ b (.list ys))(hlen:xs.length=ys.length)
   (he:∀i m m',xs[i]? = some m->ys[i]? = some m'->EqM σ m m' (e i)) (h:Q (.bool (!(List.range xs.length).all e)) σ):Cmp C .NotEq (.ref a) (.ref b) σ Q:=λva vb hva hvb s H=>by
 obtain rfl:va=_:=hva
 obtain rfl:vb=_:=hvb
 obtain ⟨vs,nn,hob,hr,hlim⟩:=H.has ha
 obtain ⟨us,nn',hob',hr',hlim'⟩:=H.has hb'
 have hsz:vs.size=xs.length:=by have:=hr.length;simp at this;exact this.symm
 have hsz':us.size=ys.length:=by have:=hr'.length;simp at this;exact this.symm
 refine PySem.W.cmp_ofNotEq (RcNeAt.lists (items:=vs) (items2:=us) (e:=e) ⟨_,hob,rfl,nn,rfl⟩ ⟨_,hob',rfl,nn',rfl⟩ (by omega) (by have:=OK.units;omega) (λj h1 h2=>?_) _ _ _ _ ?_)
 . obtain ⟨m,hm,hmr⟩:=hr.getv (i:=j) (v:=vs[j]) (by simp [h1])
   obtain ⟨m',hm',hmr'⟩:=hr'.getv (i:=j) (v:=us[j]) (by simp [h2])
   exact (he j m m' hm hm').at H hmr hmr' _
 . rw [hsz];exact ⟨.bool _,σ,rfl,H,h⟩
theorem Qib {a b:Addr}{xs:List MV}{Q:MV->St->Prop}(OK:C.Ok hb)(ha:Has σ a (.list xs))(hb':Has σ b (.list xs))(hx:∀m∈xs,(∃i,m=.int i)\/∃c,m=.ref c)(h:Q (.bool false) σ):Cmp C .NotEq (.ref a) (.ref b) σ Q:=by
 refine Qnu OK ha hb' (e:=λu_=>true) rfl (λi m m' h1 h2=>?_) (by rw [show (List.range xs.length).all (λu_=>true)=true from by simp];exact h)
 rw [h1] at h2;cases h2
 rcases hx m (Qcs h1) with ⟨j,rfl⟩ | ⟨c,rfl⟩
 . simpa using EqM.int (σ:=σ) j j
 . exact .same c
theorem Qnx {a b:Addr}{xs:List MV}{Q:MV->St->Prop}(OK:C.Ok hb)(ha:Has σ a (.list xs))(hb':Has σ b (.list xs))(hx:∀m∈xs,(∃i,m=.int i)\/∃c,m=.ref c)(h:Q (.bool true) σ):Cmp C .Eq (.ref a) (.ref b) σ Q:=by
 refine Qny OK ha hb' (e:=λu_=>true) rfl (λi m m' h1 h2=>?_) (by rw [show (List.range xs.length).all (λu_=>true)=true from by simp];exact h)
 rw [h1] at h2;cases h2
 rcases hx m (Qcs h1) with ⟨j,rfl⟩ | ⟨c,rfl⟩
 . simpa using EqM.int (σ:=σ) j j
 . exact .same c
theorem Qu4 (l:List Int):∀m∈l.map MV.int,(∃i,m=.int i)\/∃c,m=.ref c:=λm hm=>by obtain ⟨j,u_,rfl⟩:=Qc6.mp hm;exact .inl ⟨j,rfl⟩
theorem Qu3 (l:List Addr):∀m∈l.map MV.ref,(∃i,m=.int i)\/∃c,m=.ref c:=λm hm=>by obtain ⟨j,u_,rfl⟩:=Qc6.mp hm;exact .inr ⟨j,rfl⟩
theorem Qh6 {ns:List Int}{vs:List Value}(h:VsR (ns.map MV.int) vs):PyProof.Rows.IntsAre vs ns:=by
 induction ns generalizing vs with
 | nil=>cases h;exact .nil
 | cons a ns ih =>
   cases h with
   | cons h1 h2=>obtain ⟨t,rfl⟩:=h1;exact .cons a t (ih h2)
theorem Qm4 {ns:List Int}{vs:List Value}(h:PyProof.Rows.IntsAre vs ns):VsR (ns.map MV.int) vs:=by
 induction h with
 | nil=>exact .nil
 | cons n t _ ih=>exact .cons ⟨t,rfl⟩ ih
theorem vr_key {k:Option Int}{v:Value}(h:Qg4 k v=true):VR (Qau k) v:=by
 cases k with
 | none=>cases v <;> simp [Qg4] at h <;> rfl
 | some i=>cases v <;> simp [Qg4,Value.isInt] at h;subst h;exact ⟨_,rfl⟩
theorem Qtm (ms:List MV):∀(vs:List Value),vs.length=ms.length->(∀(i:Nat) (v:Value),vs[i]? = some v->∃m,ms[i]? = some m/\VR m v)->VsR ms vs:=by
 induction ms with
 | nil =>
   intro vs hl h
   cases vs with
   | nil=>exact .nil
   | cons v vs=>exact absurd hl (Qx5 _)
 | cons m ms ih =>
   intro vs hl h
   cases vs with
   | nil=>exact absurd hl.symm (Qx5 _)
   | cons v vs =>
     refine .cons ?_ (ih vs (Nat.succ.inj hl) λi u hu=>h (i+1) u hu)
     obtain ⟨m',e,hv⟩:=h 0 v rfl
     cases e
     exact hv
theorem Qby {d:Addr}{kvs:KV}{Q:MV->St->Prop}(F:Fx C hb prog w sc n md fl)(hh:Has σ d (.dict kvs))
   (h:∀b,Fsh md σ b->Q (.ref b) { σ with own:=(b,.list (kvs.map λp=>Qau p.1))::σ.own }):Qb0 C (.type "list") [.ref d] σ Q:=λvs hvs s H=>by
 obtain ⟨v,rfl,hv⟩:=hvs.one
 obtain rfl:v=.ref d:=hv
 obtain ⟨hms,vk,⟨p0,w0,hdo⟩,hkv,hlim⟩:=H.has hh
 obtain ⟨ep,hd⟩:∃ep,s.heap.DictAt (Qbj C.prog C.w) d vk ep:=(Qaw (p':=C.prog) (w':=C.w) hdo).dictAt
 refine PySem.W.kdl_call (PySem.W.kdl_dict (knd:=Qbj C.prog C.w) (kvs:=vk) (ep:=ep) hms) F.ok.handled hd (by rw [<-hkv.length];exact Qdg hlim Qdv) λh' tk acc c' hk hD hacc=>?_
 refine ⟨.ref _,_,rfl,H.newAt (a:=s.heap.objs.size) (s':={ s with heap:=h',toks:=tk }) (mo:=.list (kvs.map λp=>Qau p.1)) (Qwb _) hk rfl rfl ⟨acc,c',hD,Qtm _ _ ?_ λi v hv=>?_,by simpa using hlim⟩,h _ (F.emod ▸ H.fshAt F.ok (Qwb _))⟩
 . rw [Qw3,hacc.1,Qab,<-hkv.length]
 . obtain ⟨k,u,hku,hkk⟩:=hacc.2 i v (by rw [<-Qpy];exact hv)
   have e1:(kvs.map (·.1))[i]? = some k:=by rw [hkv.k,Qaa,hku];rfl
   rw [Qaa] at e1
   obtain ⟨q,hq,e2⟩:=Qad.mp e1
   exact ⟨Qau q.1,by rw [Qaa,hq];rfl,by rw [e2];exact vr_key hkk⟩
end
end
section
open PySem
section
inductive Wk (E:Int->Int->Prop)(ok:Int->Prop)(st:Prop)(s:Int):Nat->Int->Prop
 | zero:st->Wk E ok st s 0 s
 | succ {k:Nat} {a b:Int}:Wk E ok st s k a->E a b->ok b->Wk E ok st s (k+1) b
variable {E:Int->Int->Prop} {ok:Int->Prop} {st:Prop} {s:Int} {n:Nat}
abbrev BL:=List (Int×Option Int×Nat)
structure BInv (E:Int->Int->Prop)(ok:Int->Prop)(s:Int)(n:Nat)(L:BL)(pr:Nat)(rest:List (Option Int)):Prop where
 hd:L[0]? = some (s,none,1)
 nd:(L.map (·.1)).Nodup
 rng:∀x:Int,x∈L.map (·.1)->0<=x/\x<n
 par:∀(j:Nat) (x p:Int) (l:Nat),L[j]? = some (x,some p,l)->∃(i:Nat) (q:Option Int) (l':Nat),i<j/\i<pr/\L[i]? = some (p,q,l')/\l=l'+1/\E p x/\ok x
 root:∀(j:Nat) (x:Int) (l:Nat),L[j]? = some (x,none,l)->j=0
 mono:∀(i j:Nat) (t u:Int×Option Int×Nat),i<=j->L[i]? = some t->L[j]? = some u->t.2.2<=u.2.2
 top:∀(i j:Nat) (t u:Int×Option Int×Nat),i+1=pr->L[i]? = some t->L[j]? = some u->u.2.2<=t.2.2+1
 fst:pr=0->L.length=1
 ple:pr<=L.length
 clo:∀(i:Nat) (t:Int×Option Int×Nat),i<pr->L[i]? = some t->∀b,E t.1 b->ok b->(∃(j:Nat) (u:Int×Option Int×Nat),L[j]? = some u/\u.1=b/\u.2.2<=t.2.2+1)\/(i+1=pr/\some b∈rest)
variable {L:BL} {pr:Nat} {rest:List (Option Int)}
structure Back (E:Int->Int->Prop)(ok:Int->Prop)(g:Int)(found:List Int):Prop where
 hd:∀x,found[0]? = some x->x=g
 lk:∀(i:Nat) (a b:Int),found[i]? = some a->found[i+1]? = some b->E b a/\ok a
structure RInv (E:Int->Int->Prop)(ok:Int->Prop)(st:Prop)(s:Int)(n t:Nat)(K:List (Int×Nat)):Prop where
 nd:(K.map (·.1)).Nodup
 rng:∀x:Int,x∈K.map (·.1)->0<=x/\x<n
 sound:∀x v,(x,v)∈K->∃k,v=k+1/\k<=t/\Wk E ok st s k x/\∀j,Wk E ok st s j x->k<=j
 full:∀k x,Wk E ok st s k x->k<=t->x∈K.map (·.1)
 size:(∀a∈K.map (·.1),∀b,E a b->ok b->b∈K.map (·.1))\/t+1<=K.length
structure FInv (E:Int->Int->Prop)(ok:Int->Prop)(st:Prop)(s:Int)(n t:Nat)(K:List (Int×Nat))(fr:List Int)(pr:Nat)(rest:List Int):Prop where
 nd:fr.Nodup
 new:∀x∈fr,x∉K.map (·.1)/\0<=x/\x<n/\Wk E ok st s (t+1) x/\∃a∈K.map (·.1),E a x/\ok x
 clo:∀(i:Nat) (a:Int×Nat),i<pr->K[i]? = some a->∀b,E a.1 b->ok b->b∈K.map (·.1)\/b∈fr\/(i+1=pr/\b∈rest)
variable {t:Nat} {K:List (Int×Nat)} {fr:List Int} {rs:List Int}
end
end
section
open PySem
section
variable {C:Cx} {hb:Heap} {prog:Program} {w:World} {sc cs:Scope} {n:Nat} {md:List Addr} {fl:Bool} {x:Str} {σ:St}
theorem Ql1 {a b:Addr}{xs ys:List MV}{Q:MV->St->Prop}(F:Fx C hb prog w sc n md fl)(ha:Has σ a (.list xs))(hb':Has σ b (.list ys))(hl:xs.length+ys.length<=lim)
   (h:∀c,Fsh md σ c->Q (.ref c) { σ with own:=(c,.list (xs++ys))::σ.own }):Bin C .Add (.ref a) (.ref b) σ Q:=λva vb hva hvb s H=>by
 obtain rfl:va=_:=hva
 obtain rfl:vb=_:=hvb
 refine smG λH_ k_=>?_
 obtain ⟨vs,nn,hob,hr,hlim⟩:=H.has ha
 refine k_ ?_
 clear k_ H_
 refine smG λH_ k_=>?_
 obtain ⟨us,nn',hob',hr',hlim'⟩:=H.has hb'
 refine k_ ?_
 clear k_ H_
 have hsz:vs.size=xs.length:=by have:=hr.length;simp at this;exact this.symm
 have hsz':us.size=ys.length:=by have:=hr'.length;simp at this;exact this.symm
 refine PySem.P.add_list (items:=vs) (items2:=us) hob hob' ⟨.ref _,_,rfl,H.new (mo:=.list (xs++ys)) ⟨_,_,Heap.get?_push_size _ rfl,?_,by simpa using hl⟩,h _ (F.emod ▸ H.fsh F.ok)⟩ (by have:=Qdv;exact om266 ‹_› ‹_› ‹_› ‹_›)
 rw [Qwj];exact hr.append hr'
end
end
section
open PySem PySem.SeqAt
section
variable {C:Cx} {hb:Heap} {prog:Program} {w:World} {sc cs:Scope} {n:Nat} {md:List Addr} {fl:Bool} {x:Str} {σ:St}
theorem Qba {a:Addr}{ns:List Int}{Q:MV->St->Prop}(F:Fx C hb prog w sc n md fl)(hh:Has σ a (.list (ns.map MV.int)))
   (h:∀(ns':List Int) (b:Addr),ns'.Perm ns->ns'.Pairwise (·<=·)->Fsh md σ b->Q (.ref b) { σ with own:=(b,.list (ns'.map MV.int))::σ.own }):Qb0 C (.builtin "sorted") [.ref a] σ Q:=λvs hvs s H=>by
 obtain ⟨v,rfl,hv⟩:=hvs.one
 obtain rfl:v=.ref a:=hv
 obtain ⟨⟨vs⟩,nn,hob,hr,hlim⟩:=H.has hh
 have hI:=Qh6 hr
 have hl:vs.length=ns.length:=by have:=hr.length;simp at this;exact Qux ‹_›
 simp only [Qab] at hlim
 refine Qkx (vs:=vs) (ns:=ns) ⟨_,hob,rfl,nn,rfl⟩ hI (by rw [hl];exact Qdg hlim Qdv) λout ns' h1 h2 h3=>?_
 obtain ⟨e,he⟩:=PyProof.Rows.sortedAll_at s.heap vs out
 refine ⟨.ref _,_,rfl,H.newAt (a:=s.heap.objs.size+1) (s':={ s with heap:=PyProof.Rows.sortedAll s.heap vs out }) (mo:=.list (ns'.map MV.int)) (Qyt _) (λb o hb'=>PyProof.Rows.sortedAll_old hb') rfl rfl ⟨out,e,he,Qm4 h1,?_⟩,h ns' _ h2 h3 (F.emod ▸ H.fshAt F.ok (Qyt _))⟩
 simp only [Qab]
 rw [h2.length_eq];exact hlim
end
end
section
open PySem PySem.SeqAt
section
variable {C:Cx} {hb:Heap} {prog:Program} {w:World} {sc cs:Scope} {n:Nat} {md:List Addr} {fl:Bool} {x:Str} {σ:St}
theorem Qrl {a b:Str}{Q:MV->St->Prop}(h:Q (.bool (!decide (a=b))) σ):Cmp C .NotEq (.str a) (.str b) σ Q:=λva vb ha hb s H=>by
 obtain ⟨t,rfl⟩:=ha;obtain ⟨u,rfl⟩:=hb
 refine P.ne_str ⟨.bool (!decide (a=b)),σ,?_,H,h⟩
 show Value.bool _=_
 congr 1
 by_cases hab:a=b
 . subst hab;simp
 . have:a.cps.toList≠b.cps.toList:=λe=>hab (by cases a;cases b;simp at e;simp [e])
   simp [hab,this]
theorem Qic {a b:Addr}{xs ys:List MV}{Q:MV->St->Prop}(F:Fx C hb prog w sc n md fl)(ha:Has σ a (.tup xs))(hb':Has σ b (.tup ys))(hl:xs.length+ys.length<=lim)
   (h0:xs=[]->Q (.ref b) σ) (h1:xs≠[]->ys=[]->Q (.ref a) σ) (h2:xs≠[]->ys≠[]->∀c,Fsh md σ c->Q (.ref c) { σ with own:=(c,.tup (xs++ys))::σ.own }):Bin C .Add (.ref a) (.ref b) σ Q:=λva vb hva hvb s H=>by
 obtain rfl:va=_:=hva
 obtain rfl:vb=_:=hvb
 refine smG λH_ k_=>?_
 obtain ⟨vs,nn,hob,hr,hlim⟩:=H.has ha
 refine k_ ?_
 clear k_ H_
 refine smG λH_ k_=>?_
 obtain ⟨us,nn',hob',hr',hlim'⟩:=H.has hb'
 refine k_ ?_
 clear k_ H_
 have hsz:vs.size=xs.length:=by have:=hr.length;simp at this;exact this.symm
 have hsz':us.size=ys.length:=by have:=hr'.length;simp at this;exact this.symm
 by_cases hx:xs=[]
 . subst hx
   exact concat_meets ⟨_,hob,rfl⟩ ⟨_,hob',rfl⟩ noFill_tuple_add seq_tuple_add PySem.F.slot_tuple_add PySem.F.entry_tuple_add (PySem.F.args_tuple_add_2 _ _) (AutoSeq1.tuple___add___tuple_tuple_0 a vs nn b us nn' (by simpa [Qxi] using hsz)) ⟨hob,hob',.ref b,σ,rfl,H,h0 rfl⟩
 have hx':¬vs.isEmpty=true:=by rw [Qxi,hsz];simpa using hx
 by_cases hy:ys=[]
 . subst hy
   exact concat_meets ⟨_,hob,rfl⟩ ⟨_,hob',rfl⟩ noFill_tuple_add seq_tuple_add PySem.F.slot_tuple_add PySem.F.entry_tuple_add (PySem.F.args_tuple_add_2 _ _) (AutoSeq1.tuple___add___tuple_tuple_1 a vs nn b us nn' hx' (by simpa [Qxi] using hsz')) ⟨hob,hob',.ref a,σ,rfl,H,h1 hx rfl⟩
 have hy':¬us.isEmpty=true:=by rw [Qxi,hsz'];simpa using hy
 refine PySem.P.add_tuple (items:=vs) (items2:=us) hob hob' hx' hy' ⟨.ref _,_,rfl,H.new (mo:=.tup (xs++ys)) ⟨_,_,Heap.get?_push_size _ rfl,?_,by simpa using hl⟩,h2 hx hy _ (F.emod ▸ H.fsh F.ok)⟩ (by have:=Qdv;exact om266 ‹_› ‹_› ‹_› ‹_›)
 rw [Qwj];exact hr.append hr'
end
end
section
open PySem
noncomputable def Qoj (B:MH):Own->MH
 | []=>B
 | (a,o)::r=>Qoj (setB B a o) r
theorem Cv.frzs {md:List Addr}{l:Loc}:∀{new rest:Own} {B:MH},(∀p∈new,p.1∉md)->Cv md ⟨l,B,new++rest⟩ ⟨l,Qoj B new,rest⟩
 | [],rest,B,_=>.refl _
 | (a,o)::r,rest,B,h=>.trans (.frz (h (a,o) Qwm)) (Cv.frzs λp hp=>h p (Qdx _ hp))
theorem Qgk:∀{new:Own} {B:MH},(∀a∈new.map (·.1),B a=none)->(new.map (·.1)).Nodup->Sub0 B (Qoj B new)/\∀p∈new,Qoj B new p.1=some p.2
 | [],B,_,_=>⟨Sub0.rfl' _,λp hp=>nomatch hp⟩
 | (a,o)::r,B,h,hn=>by
   have hn':=Qnn.mp hn
   have s1:Sub0 B (setB B a o):=Qvu (h a Qwm)
   obtain ⟨s2,g⟩:=Qgk (new:=r) (B:=setB B a o) (λb hb'=>(Qbp λe=>by subst e;exact hn'.1 hb').trans (h b (Qdx _ hb'))) hn'.2
   refine ⟨Sub0t s1 s2,λp hp=>?_⟩
   rcases Qch.mp hp with rfl | hp
   . exact s2 _ _ setB_self
   . exact g p hp
section
variable {C:Cx} {hb:Heap} {prog:Program} {w:World} {sc cs:Scope} {n:Nat} {md:List Addr} {fl:Bool} {x:Str} {σ:St} {l:Loc} {B:MH}
theorem Tr.frzs {α β:Type}{t:Sem α}{R:β->α->Prop}{Q:β->St->Prop}(F:Fx C hb prog w sc n md fl)(new rest:Own)(hm:∀p∈new,p.1∉md)
   (h:∀B',Sub0 B B'->(∀p∈new,B' p.1=some p.2)->Tr C t R ⟨l,B',rest⟩ Q):Tr C t R ⟨l,B,new++rest⟩ Q :=
 Tr.facts λh1 h2=>by
   rw [Qd1] at h1 h2
   obtain ⟨s,g⟩:=Qgk (λa ha=>h1 a (Qaq _ ha)) (Qdi.mp h2).1
   exact Tr.cv F (.frzs hm) (h _ s g)
theorem Tr.postN {α β:Type}{t:Sem α}{R:β->α->Prop}{Q:β->St->Prop}(F:Fx C hb prog w sc n md fl)
   (h:Tr C t R σ (λb σ'=>∃new rest:Own,σ'.own=new++rest/\(∀p∈new,p.1∉md)/\∀B',Sub0 σ'.B B'->(∀p∈new,B' p.1=some p.2)->Q b ⟨σ'.loc,B',rest⟩)):Tr C t R σ Q:=λs H =>
 wpAny_mono (h s H) (λa s' hp=>by
   obtain ⟨b,⟨l',B',own'⟩,hr,H',new,rest,e,hm,hq⟩:=hp
   dsimp only at e hq
   subst e
   have h1:=H'.apartB
   have h2:=(Qdi.mp H'.nodup).1
   dsimp only at h1 h2
   rw [Qd1] at h1 h2
   obtain ⟨s1,g⟩:=Qgk (λa ha=>h1 a (Qaq _ (Qaq _ ha))) (Qdi.mp h2).1
   exact ⟨b,_,hr,(Cv.frzs hm).holds F.ok F.emod H',hq _ s1 g⟩) λu_ u_ x=>x
theorem Qmp {e:Expr}{Q:MV->St->Prop}(F:Fx C hb prog w sc n md fl)
   (h:Ex C e σ (λb σ'=>∃new rest:Own,σ'.own=new++rest/\(∀p∈new,p.1∉md)/\∀B',Sub0 σ'.B B'->(∀p∈new,B' p.1=some p.2)->Q b ⟨σ'.loc,B',rest⟩)):Ex C e σ Q:=Tr.postN F h
theorem Qa2 {y:Str}{m:MV}{Q:St->Prop}(F:Fx C hb prog w sc n md fl)(new rest:Own)(hm:∀p∈new,p.1∉md)(h:∀B',Sub0 B B'->(∀p∈new,B' p.1=some p.2)->Qb6 C y m ⟨l,B',rest⟩ Q):Qb6 C y m ⟨l,B,new++rest⟩ Q:=λv hv=>Tr.frzs F new rest hm λB' s g=>h B' s g v hv
theorem Qfm {pos:Pos}{es:List Expr}{Q:List MV->St->Prop}(F:Fx C hb prog w sc n md fl)(new rest:Own)(hm:∀p∈new,p.1∉md)(h:∀B',Sub0 B B'->(∀p∈new,B' p.1=some p.2)->Exs C pos es ⟨l,B',rest⟩ Q):Exs C pos es ⟨l,B,new++rest⟩ Q:=Tr.frzs F new rest hm h
end
noncomputable def Frs (B:MH):Own->Prop
 | []=>True
 | (a,_)::r=>B a=none/\a∉r.map (·.1)/\Frs B r
theorem Frs.cons {md:List Addr}{σ:St}{a:Addr}{o:MO}(h:Fsh md σ a)(hr:Frs σ.B σ.own):Frs σ.B ((a,o)::σ.own):=⟨h.B,h.own,hr⟩
theorem Frs.ok {B:MH}:∀{own:Own},Frs B own->(∀a∈own.map (·.1),B a=none)/\(own.map (·.1)).Nodup
 | [],_=>⟨λu_ h=>(nomatch h),.nil⟩
 | (a,_)::r,⟨h1,h2,h3⟩=>by
   refine ⟨λb hb'=>?_,Qnn.mpr ⟨h2,h3.ok.2⟩⟩
   rcases Qch.mp hb' with rfl | hb'
   . exact h1
   . exact h3.ok.1 b hb'
theorem Qv2 {Q:MV->MH->Own->Prop}{r:MV}{l:Loc}{B:MH}{own:Own}(h:Frs B own)(hq:∀B',Sub0 B B'->(∀p∈own,B' p.1=some p.2)->Q r B' []):End [] Q r ⟨l,B,own⟩:=by
 obtain ⟨s,g⟩:=Qgk h.ok.1 h.ok.2
 have c:Cv [] ⟨l,B,own++[]⟩ ⟨l,Qoj B own,[]⟩:=.frzs λu_ u_ h=>nomatch h
 rw [Qxv] at c
 exact ⟨_,c,hq _ s g⟩
end
section
open PySem
section
variable {C:Cx} {hb:Heap} {prog:Program} {w:World} {sc cs:Scope} {n:Nat} {md:List Addr} {fl:Bool} {σ:St}
theorem Qfl {f:Str}{p pos:Pos}{e:Expr}{rest:List Expr}{T:String}{Q:Value->Shared->Prop}(OK:C.Ok hb)(g:Gl hb f (.oth (.type T)))(hk:C.env.kindOf f=some .globalImplicit)
   (he:starEach (e::rest) C.env=(false,eval e C.env)::starEach rest C.env) (hplain:(backTo pos (starEach (e::rest) C.env)).any (·.1)=false)
   {R:List MV->St->Prop} (h:Exs C pos (e::rest) σ R) (h2:∀ms σ₁ vs s,R ms σ₁->VsR ms vs->Holds C σ₁ s->wpAny (model C.prog C.w) C.A (call (.type T) vs) Q (λu_ u_=>False) s) {s:Shared} (H:Holds C σ s) :
   wpAny (model C.prog C.w) C.A (eval (.Call (.Name f p) (e::rest) [] pos) C.env) Q (λu_ u_=>False) s:=by
 refine PyProof.Rows.Call_ (wpAny_mono (Qec (Q:=λv σ'=>v=.oth (.type T)/\σ'=σ) OK g hk ⟨rfl,rfl⟩ s H) (λvf s₁ hpat=>?_) λu_ u_ x=>x)
 refine smG λH_ k_=>?_
 obtain ⟨u_,u_,hv,H₁,e1,e2⟩:=hpat
 refine k_ ?_
 clear k_ H_
 subst e1 e2
 obtain rfl:vf=.type T:=hv
 refine callWith_type hplain ?_
 have hx:backTo pos (starEach (e::rest) C.env)=(false,eval e C.env)::backTo pos (starEach rest C.env):=by rw [he];rfl
 rw [hx]
 refine Calls.evalArgs_plain ?_
 rw [<-hx]
 exact wpAny_mono (h s₁ H₁) (λvs s₂ ⟨ms,σ₂,hms,H₂,h₂⟩=>h2 ms σ₂ vs s₂ h₂ hms H₂) λu_ u_ x=>x
inductive FE (C:Cx)(N:Nat)(J:Nat->Mine.St->Prop)(I It a:Addr)(vs:Array Value)(k:Nat)(s:Shared):Prop
 | mk (i:Nat) (σ':Mine.St) (hk:k=N+1-i) (hi:i<=N) (hJ:J i σ') (H:Holds C σ' s) (st:(∃old,IsEnum s.heap I It (i:Nat) old)/\s.heap.IsListIter It a i/\s.heap.IsList a vs) (ap:∀b∈[I,It,a],b∉σ'.own.map (·.1)++C.fr) (nb:∀b∈[I,It],σ'.B b=none):FE C N J I It a vs k s
theorem Qs2 {xi xv:Str}{pi pv pt pf pos pos':Pos}{x1}{e:Expr}{body orelse:List Stmt}{Q:MF->St->Prop}(F:Fx C hb prog w sc n md fl)(g:Gl hb "enumerate" (.oth (.type "enumerate")))(hk:C.env.kindOf (Qa "enumerate")=some .globalImplicit)
   (he:starEach [e] C.env=(false,eval e C.env)::starEach [] C.env) (hplain:(backTo pos' (starEach [e] C.env)).any (·.1)=false) (hs:∀v,foldedSetIterable (.Call (.Name (Qa "enumerate") pf) [e] [] pos') C.env v=pure v)
   (h:Exs C pos' [e] σ (λvs σ₁=>∃(a:Addr) (items:List MV) (J:Nat->St->Prop),vs=[.ref a]/\σ₁.B a=some (.list items)/\J 0 σ₁ /\
     (∀C',Fx C' hb prog w sc n md fl->∀(i:Nat) σ' m,J i σ'->items[i]? = some m->Qb6 C' xi (.int i) σ' (λσ₂=>Qb6 C' xv m σ₂ (λσ₃=>Sts C' body σ₃ (λf σ₄=>match f with | .next=>J (i+1) σ₄ | .ret v=>Q (.ret v) σ₄)))) /\
     (∀C',Fx C' hb prog w sc n md fl->∀σ',J items.length σ'->Sts C' orelse σ' Q))):Stm C (.For (.Tuple [.Name xi pi,.Name xv pv] x1 pt) (.Call (.Name (Qa "enumerate") pf) [e] [] pos') body orelse pos) σ Q:=λs H=>by
 refine wpAny_For (hs:=hs) ?_
 refine Qfl F.ok g hk he hplain h (λms σ₁ vs s₁ hR hvs H₁=>?_) H
 refine smG λH_ k_=>?_
 obtain ⟨a,items,J,rfl,hB,J0,turn,fin⟩:=hR
 refine k_ ?_
 clear k_ H_
 refine smG λH_ k_=>?_
 obtain ⟨va,rfl,hva⟩:=hvs.one
 refine k_ ?_
 clear k_ H_
 obtain rfl:va=.ref a:=hva
 refine smG λH_ k_=>?_
 obtain ⟨vs,nn,ho,hr,hlim⟩:=H₁.B a _ hB
 refine k_ ?_
 clear k_ H_
 have hl:s₁.heap.IsList a vs:=⟨_,ho,rfl,nn,rfl⟩
 have alt:a<s₁.heap.objs.size:=Heap.lt_size ho
 have hsz:vs.size=items.length:=by have:=hr.length;simp at this;exact Qux ‹_›
 refine call_enumerate_list hl λh₂ hE hit hz hk₂=>?_
 refine smG λH_ k_=>?_
 obtain ⟨f1,f2,f3,f4⟩:=H₁.far (Qwb _)
 refine k_ ?_
 clear k_ H_
 refine smG λH_ k_=>?_
 obtain ⟨g1,g2,g3,g4⟩:=H₁.far (show s₁.heap.objs.size<=s₁.heap.objs.size+1 from Qyt _)
 refine k_ ?_
 clear k_ H_
 have W:=WalksT.enumerate (prog:=C.prog) (w:=C.w) F.ok.handled (s₁.heap.objs.size+1) s₁.heap.objs.size a (Nat.succ_ne_self _) (Qw5 (Qw4 alt)) (Qw5 alt) vs
 have H₂:Holds C σ₁ { s₁ with heap:=h₂ }:=H₁.hidden (wr:=[]) F.ok (λb o u_ e=>hk₂ b o e) rfl rfl (λu_ h=>nomatch h) (λu_ h=>nomatch h) (λu_ h=>nomatch h) (λu_ h=>nomatch h)
 refine wpAny_pyIter_enum hE ?_
 generalize hI:s₁.heap.objs.size+1=I at *
 generalize hIt:s₁.heap.objs.size=It at *
 have ap0:∀b∈[I,It,a],b∉σ₁.own.map (·.1)++C.fr:=by
   refine all3 ?_ ?_ ?_
   . exact g1
   . exact f1
   . exact λhm=>by rw [H₁.apartB _ hm] at hB;cases hB
 have wrs:∀{P:Addr->Prop},P I->P It->∀b∈[I,It],P b:=λp1 p2=>all2 p1 p2
 have noK:∀b∈[I,It],∀o,¬C.kp b o:=wrs (P:=λb=>∀o,¬C.kp b o) g3 f3
 have noAl:∀b∈[I,It],¬C.al b:=wrs (P:=λb=>¬C.al b) g4 f4
 refine codeAny_forLoop_any (FE C items.length J I It a vs)
   (λk s hpat=>?_) (items.length+1) ⟨0,σ₁,rfl,Qwv _,J0,H₂,⟨⟨_,hE⟩,hit,hl.at λo e=>hk₂ _ o e⟩,ap0,wrs (P:=λb=>σ₁.B b=none) g2 f2⟩
 refine smG λH_ k_=>?_
 obtain ⟨i,σ',hkk,hi,hJ,H',hst,hap,hnb⟩:=hpat
 refine k_ ?_
 clear k_ H_
 have apw:∀b∈[I,It],b∉σ'.own.map (·.1)++C.fr:=λb hb'=>hap b (W.sub b hb')
 by_cases hlt:i<items.length
 . refine W.item i s _ _ (by exact om283 ‹_› ‹_›) hst λT vals h' tk hP hT ht hmid hk'=>?_
   refine smG λH_ k_=>?_
   obtain ⟨t,x,hx,rfl⟩:=hP
   refine k_ ?_
   clear k_ H_
   refine W.go _ _ _ i T _ _ _ hmid λh'' hst'' hk''=>?_
   have hTw:=W.apart i T h' hmid
   have ht'':h''.IsTuple T #[.int i t,x]:=ht.at λo e=>hk'' T o hTw e
   refine wpAny_assign_Tuple F.ok.handled ht'' rfl rfl λh₃ hx₃=>?_
   have old₃:∀b o,h''.get? b=some o->h₃.get? b=some o:=λb o e=>hx₃ b o (Qw5 (Heap.lt_size e)) e
   have hst₃:=W.frame _ _ h₃ hst'' λb u_ o e=>old₃ b o e
   have H₃:Holds C σ' { s with heap:=h₃,toks:=tk }:=H'.hidden F.ok (λb o hb' e=>old₃ b o (hk'' b o hb' (hk' b o hb' e))) rfl rfl apw hnb noK noAl
   have hal':∀b∈[I,It,a],∃o,h₃.get? b=some o:=by
     obtain ⟨⟨u_,q1⟩,⟨u_,q2,u_⟩,⟨u_,q3,u_⟩⟩:=hst₃
     exact all3 ⟨_,q1⟩ ⟨_,q2⟩ ⟨_,q3⟩
   obtain ⟨m,hm,hrm⟩:=hr.getv (i:=i) (v:=x) (by rw [Qpy];exact hx)
   have H₄:=H₃.hide (X:=[I,It,a]) (wr:=[I,It]) hap hnb
   have F':Fx (C.hide h₃ [I,It,a] [I,It]) hb prog w sc n md fl:=F.hide (λb hb' hf=>hap b hb' (Qbv _ hf)) λb hb'=>⟨W.sub b hb',hal' b (W.sub b hb')⟩
   show wpAny _ C.A (do holding [x] (assign (.Name xi pi) C.env (.int i t));do holding [] (assign (.Name xv pv) C.env x);pure ()) _ _ _
   refine wpAny_bind (wpAny_holding (wpAny_assign_Name (wpAny_mono (turn _ F' i σ' m hJ hm (.int i t) ⟨t,rfl⟩ _ H₄) (λu_ s₅ hpat=>?_) λu_ u_ x=>x.elim)))
   refine smG λH_ k_=>?_
   obtain ⟨u_,σ₅,u_,H₅,h₅⟩:=hpat
   refine k_ ?_
   clear k_ H_
   refine wpAny_bind (wpAny_holding (wpAny_assign_Name (wpAny_mono (h₅ x hrm s₅ H₅) (λu_ s₆ hpat=>wpAny_pure ?_) λu_ u_ x=>x.elim)))
   refine smG λH_ k_=>?_
   obtain ⟨u_,σ₆,u_,H₆,h₆⟩:=hpat
   refine k_ ?_
   clear k_ H_
   refine wpAny_mono (h₆ s₆ H₆) (λf s₇ hpat=>?_) λu_ u_ x=>x.elim
   refine smG λH_ k_=>?_
   obtain ⟨mf,σ₇,hf,H₇,h₇⟩:=hpat
   refine k_ ?_
   clear k_ H_
   cases mf with
   | next =>
     obtain rfl:f=.next:=hf
     have kept:∀b∈[I,It,a],∀o,h₃.get? b=some o->s₇.heap.get? b=some o:=λb hb' o ho=>H₇.kp b o (.inr ⟨hb',ho⟩)
     refine ⟨items.length+1-(i+1),by rw [hkk];exact Qxh (Qw4 hlt) (Qxc i),i+1,σ₇,rfl,hlt,h₇,H₇.unhide,W.frame _ _ _ hst₃ kept,λb hb' hm'=>?_,λb hb'=>H₇.noB b (.inr hb')⟩
     obtain ⟨o,ho⟩:=hal' b hb';exact H₇.apartK b hm' o (.inr ⟨hb',ho⟩)
   | ret v =>
     refine smG λH_ k_=>?_
     obtain ⟨vv,rfl,hv'⟩:=hf
     refine k_ ?_
     clear k_ H_
     exact ⟨.ret v,σ₇,⟨vv,rfl,hv'⟩,H₇.unhide,h₇⟩
 . have hin:i=items.length:=Qxn hi (Qyb.mp hlt)
   subst hin
   refine W.done s _ _ (by rw [hsz];exact hst) λh' tk hk'=>?_
   have H₂:Holds C σ' { s with heap:=h',toks:=tk }:=H'.hidden F.ok hk' rfl rfl apw hnb noK noAl
   exact wpAny_mono (fin C F σ' hJ _ H₂) (λf s₃ ⟨mf,σ₃,hf,H₃,h₃⟩=>⟨mf,σ₃,hf,H₃,h₃⟩) λu_ u_ x=>x.elim
end
end
section
open PySem
section
variable {C:Cx} {hb:Heap} {prog:Program} {w:World} {sc cs:Scope} {n:Nat} {md:List Addr} {fl:Bool} {x xi:Str} {σ:St}
theorem Qln {prog:Program}{w:World}{A:Around}{R:Result->Shared->Prop}{s:Shared}{elt target iter:Expr}{ifs:List Expr}{scope:Scope}{pos:Pos}{it acc:Value}{env:Env}(I:Nat->Shared->Prop)
   (turn:∀n s,I n s->wpAny (model prog w) A (pyNext it) (λr s₁=>match r with
     | none=>R (.ok .next) s₁
     | some v=>wpAny (model prog w) A (letOwnedTupleGo target it v) (λu_ s₁'=>wpAny (model prog w) A (assign target env v) (λu_ s₂ =>
         wpAny (model prog w) A (forIn ifs true λc r=>if r=true then do let ok <-isTrue c env (eval c env);pure (ForInStep.yield ok) else pure (ForInStep.yield r)) (λok s₃ =>
           if ok=true then wpAny (model prog w) A (eval elt env) (λx s₄ =>
             wpAny (model prog w) A (call (.builtin "list.append") [acc,x]) (λu_ s₅=>∃m,m<n/\I m s₅) (notedBy (model prog w) A env λe s'=>R (.error e) s') s₄) (notedBy (model prog w) A env λe s'=>R (.error e) s') s₃
           else ∃m,m<n/\I m s₃) (notedBy (model prog w) A env λe s'=>R (.error e) s') s₂) (notedBy (model prog w) A env λe s'=>R (.error e) s') s₁') (notedBy (model prog w) A env λe s'=>R (.error e) s') s₁) (notedBy (model prog w) A env λe s'=>R (.error e) s') s)
   (n:Nat) (h:I n s):codeAny (model prog w) A (.compLoop (.ListComp elt [⟨target,iter,ifs,0⟩] scope pos) 0 it acc env) R s:=by
 refine codeAny_loop rfl I (λn s hI=>?_) n h
 show wpAny _ A ((compTurn (.ListComp elt [⟨target,iter,ifs,0⟩] scope pos) 0 it acc env).onRaise (λx=>do noteFrame x env;theTreesLotGoes x)) _ _ s
 refine wpAny_noted ?_
 rw [compTurn_list]
 refine wpAny_bind (wpAny_standAt (wpAny_bind (wpAny_mono (turn n s hI) (λr s₁ h₁=>?_) λu_ u_ h'=>h')))
 cases r with
 | none=>exact wpAny_pure h₁
 | some v =>
   refine wpAny_bind (wpAny_mono h₁ (λu_ s₁' h₁'=>?_) λu_ u_ h'=>h')
   refine wpAny_bind (wpAny_mono h₁' (λu_ s₂ h₂=>wpAny_bind (wpAny_mono h₂ (λok s₃ h₃=>?_) λu_ u_ h'=>h')) λu_ u_ h'=>h')
   cases ok with
   | false=>exact wpAny_pure ⟨rfl,h₃⟩
   | true =>
     exact wpAny_bind (wpAny_bind (wpAny_mono h₃ (λx s₄ h₄=>wpAny_bind (wpAny_mono h₄ (λu_ s₅ h₅=>wpAny_pure (wpAny_pure ⟨rfl,h₅⟩)) λu_ u_ h'=>h')) λu_ u_ h'=>h'))
theorem Holds.name {s:Shared}{y:Str}{m:MV}{u:Value}{mm:Str->Option Value}(H:Holds C σ s)(hk:C.env.kindOf y=some .local)(hns:s.heap.Ns C.env.locals mm)(hm:mm y=some u)(hr:VR m u):Holds C { σ with loc:=put σ.loc y m } s where
 kp:=H.kp
 names:=λz v hz=>by
   rw [Qe8] at hz
   by_cases hzy:z=y
   . subst hzy;rw [if_pos rfl] at hz;cases hz
     exact .inl ⟨hk,mm,u,hns,hm,hr⟩
   . rw [if_neg hzy] at hz;exact H.names z v hz
 ns:=H.ns
 cells:=H.cells
 alive:=H.alive
 B:=H.B
 own:=H.own
 nodup:=H.nodup
 apartB:=H.apartB
 apartK:=H.apartK
 gens:=H.gens
 os:=H.os
 al:=H.al
 B0:=H.B0
 Bnew:=H.Bnew
 ownNew:=H.ownNew
 noB:=H.noB
structure WalkedT (C:Cx)(σ:St)(items:List MV)(I:Addr)(fp wr:List Addr)(Pt:Nat->Array Value->Prop)(St:Nat->Heap->Prop)(Mid:Nat->Addr->Heap->Prop)(s:Shared):Prop where
 walks:WalksT C.prog C.w C.A I fp wr items.length Pt St Mid
 st:St 0 s.heap
 item:∀i vals,Pt i vals->∃t x m,vals = #[.int (i:Nat) t,x]/\items[i]? = some m/\VR m x
 holds:Holds C σ s
 apart:∀a∈fp,a∉σ.own.map (·.1)++C.fr
 alive:∀i h,St i h->∀a∈fp,∃o,h.get? a=some o
 noB:∀a∈wr,σ.B a=none
 noK:∀a∈wr,∀o,¬C.kp a o
 noAl:∀a∈wr,¬C.al a
theorem WalkedT.of {a:Addr}{items:List MV}{s:Shared}(OK:C.Ok hb)(H:Holds C σ s)(hB:σ.B a=some (.list items)){Q:Value->Shared->Prop}{E:Value->Shared->Prop}(h:∀I fp wr Pt St Mid s₂,WalkedT C σ items I fp wr Pt St Mid s₂->Q (.ref I) s₂) :
   wpAny (model C.prog C.w) C.A (call (.type "enumerate") [.ref a]) Q E s:=by
 obtain ⟨vs,nn,ho,hr,hlim⟩:=H.B a _ hB
 have hl:s.heap.IsList a vs:=⟨_,ho,rfl,nn,rfl⟩
 have alt:a<s.heap.objs.size:=Heap.lt_size ho
 have hsz:vs.size=items.length:=by have:=hr.length;simp at this;exact Qux ‹_›
 refine call_enumerate_list hl λh₂ hE hit hz hk₂=>?_
 obtain ⟨f1,f2,f3,f4⟩:=H.far (Qwb _)
 obtain ⟨g1,g2,g3,g4⟩:=H.far (show s.heap.objs.size<=s.heap.objs.size+1 from Qyt _)
 have W:=WalksT.enumerate (prog:=C.prog) (w:=C.w) OK.handled (s.heap.objs.size+1) s.heap.objs.size a (Nat.succ_ne_self _) (Qw5 (Qw4 alt)) (Qw5 alt) vs
 rw [hsz] at W
 have H₂:Holds C σ { s with heap:=h₂ }:=H.hidden (wr:=[]) OK (λb o u_ e=>hk₂ b o e) rfl rfl (λu_ h=>nomatch h) (λu_ h=>nomatch h) (λu_ h=>nomatch h) (λu_ h=>nomatch h)
 have wrs:∀{P:Addr->Prop},P (s.heap.objs.size+1)->P s.heap.objs.size->∀b∈[s.heap.objs.size+1,s.heap.objs.size],P b:=λp1 p2=>all2 p1 p2
 have fps:∀{P:Addr->Prop},P (s.heap.objs.size+1)->P s.heap.objs.size->P a->∀b∈[s.heap.objs.size+1,s.heap.objs.size,a],P b:=λp1 p2 p3=>all3 p1 p2 p3
 exact h _ _ _ _ _ _ _ ⟨W,⟨⟨_,hE⟩,hit,hl.at λo e=>hk₂ _ o e⟩,λi vals ⟨t,x,hx,e⟩=>let ⟨m,h1,h2⟩:=hr.getv (by rw [Qpy];exact hx);⟨t,x,m,e,h1,h2⟩,H₂,
   fps (P:=λb=>b∉σ.own.map (·.1)++C.fr) g1 f1 (λhm=>by rw [H.apartB _ hm] at hB;cases hB),
   λi h' ⟨⟨_,q1⟩,⟨_,q2,_⟩,⟨_,q3,_⟩⟩=>fps (P:=λb=>∃o,h'.get? b=some o) ⟨_,q1⟩ ⟨_,q2⟩ ⟨_,q3⟩,
   wrs (P:=λb=>σ.B b=none) g2 f2,wrs (P:=λb=>∀o,¬C.kp b o) g3 f3,wrs (P:=λb=>¬C.al b) g4 f4⟩
end
end
section
open PySem
section
variable {C:Cx} {hb:Heap} {prog:Program} {w:World} {sc cs:Scope} {n:Nat} {md:List Addr} {fl:Bool} {x xi:Str} {σ:St}
theorem Qh8 {elt iter:Expr}{pi px pt pos:Pos}{kt:Nat}{ifs:List Expr}(F:Fx C hb prog w sc n md fl)(Ki:Qbx cs sc xi)(K:Qbx cs sc x)(hne:xi≠x){s₂:Shared}{items:List MV}{I:Addr}{fp wr:List Addr}{Pt:Nat->Array Value->Prop}{St:Nat->Heap->Prop}{Mid:Nat->Addr->Heap->Prop}(W:WalkedT C σ items I fp wr Pt St Mid s₂)(hlen:items.length<=lim)
   (J:Nat->List MV->Mine.St->Prop) (J0:J 0 [] σ)
   (turn:∀C',Fx C' hb prog w (Qgv cs sc) n md false->∀(i:Nat) ys σ' m,J i ys σ'->items[i]? = some m ->
     CTs C' ifs { σ' with loc:=put (put (capt cs σ'.loc) xi (.int i)) x m } (λok σ₁=>if ok then Ex C' elt σ₁ (λy σ₂=>J (i+1) (ys++[y]) { σ₂ with loc:=σ'.loc }) else J (i+1) ys { σ₁ with loc:=σ'.loc }))
   {RR:Value->Addr->Result->Shared->Prop} {E:Value->Shared->Prop}
   (fin:∀D L ys σ' s',J items.length ys σ'->Holds C { σ' with own:=(D,.list ys)::σ'.own } s'->Fsh C.mod σ' D->(∃m,s'.heap.Ns L m)->L∉D::σ'.own.map (·.1)++C.fr->σ'.B L=none->(∀o,¬C.kp L o)->¬C.al L->RR (.ref D) L (.ok .next) s') :
   wpAny (model C.prog C.w) C.A (pyIter (.ref I)) (λitv s₂=>wpAny (model C.prog C.w) C.A (newList []) (λacc s₃ =>
     wpAny (model C.prog C.w) C.A (newFunctionEnv cs C.env.globals (Qcb C.env.cells cs.names []) [] C.env.qual none .none (some C.env)) (λcenv s₄ =>
       codeAny (model C.prog C.w) C.A (.compStart (.ListComp elt [⟨.Tuple [.Name xi pi,.Name x px] kt pt,iter,ifs,0⟩] cs pos) 0 itv acc { cenv with scope:=relabel cs C.env }) (RR acc cenv.locals) s₄) E s₃) E s₂) E s₂:=by
 refine W.walks.self 0 _ _ _ W.st ?_
 have wsub:=W.walks.sub
 refine wpAny_newObj_type (wpAny_newFunctionEnv K.noCell (by intro y hy;simp at hy) (λh₁ hns₁ hsb₁=>?_) K.kind)
 have HD:=W.holds.new (o:={ cls:=.type "list",data:=.seq ([]:List Value).toArray }) (mo:=.list []) ⟨_,_,Heap.get?_push_size _ rfl,.nil,Qwv _⟩
 have hDm:s₂.heap.objs.size∉C.mod:=W.holds.freshMod F.ok
 generalize hD:s₂.heap.objs.size=D at HD hDm hns₁ hsb₁ ⊢
 generalize hH2:s₂.heap.push { cls:=.type "list",data:=.seq ([]:List Value).toArray }=H2 at HD hns₁ hsb₁ ⊢
 refine smG λH_ k_=>?_
 obtain ⟨g1,g2,g3,g4⟩:=Qb4 HD
 refine k_ ?_
 clear k_ H_
 dsimp only at g1 g2 g3 g4 hns₁ hsb₁
 generalize hL:H2.objs.size=L at g1 g2 g3 g4 hns₁ hsb₁ ⊢
 have keep1:∀b o,H2.get? b=some o->h₁.get? b=some o:=λb o e=>hsb₁.extBut b o (Qbc e hL) (Heap.get?_push_of_some _ e)
 have keep2:∀b o,s₂.heap.get? b=some o->H2.get? b=some o:=λb o e=>hH2 ▸ Heap.get?_push_of_some _ e
 have Hs:Holds C { σ with own:=(D,.list [])::σ.own } { s₂ with heap:=h₁,toks:=s₂.toks+0 }:=HD.ext keep1 rfl rfl
 have hfpD:∀a∈fp,a≠D/\a≠L:=λa ha=>by
   refine smG λH_ k_=>?_
   obtain ⟨o,ho⟩:=W.alive _ _ W.st a ha
   refine k_ ?_
   clear k_ H_
   exact ⟨Qbc ho hD,Qbc (keep2 a o ho) hL⟩
 have loop:∀s₅:Shared,s₅={ s₂ with heap:=h₁,toks:=s₂.toks+0 } ->
     codeAny (model C.prog C.w) C.A (.compLoop (.ListComp elt [⟨.Tuple [.Name xi pi,.Name x px] kt pt,iter,ifs,0⟩] cs pos) 0 (.ref I) (.ref D) (compEnvC cs (Qcb C.env.cells cs.names []) L C.env)) (RR (.ref D) L) s₅:=by
   rintro s₅ rfl
   refine Qln (CI C items.length J D L fp wr St) ?_ (items.length+1)
     ⟨0,[],σ,rfl,Qwv _,J0,Qwv _,Hs,W.walks.frame _ _ _ W.st λb u_ o e=>keep1 b o (keep2 b o e),⟨_,hns₁⟩,λa ha hm=>?_,λa ha=>let ⟨o,ho⟩:=W.alive _ _ W.st a ha;⟨o,keep1 _ _ (keep2 _ _ ho)⟩,W.noB,g1,g2⟩
   . intro k s' hJ_
     refine smG λH_ k_=>?_
     obtain ⟨i,ys,σ',hk,hi,hJ,hyl,H',hst,⟨mL,hnsL⟩,hap,hal,hnb,hLo,hLB⟩:=hJ_
     refine k_ ?_
     clear k_ H_
     have hap':∀a∈wr,a∉(({ σ' with own:=(D,.list ys)::σ'.own }:Mine.St).own.map (·.1))++C.fr:=λa ha=>hap a (wsub a ha)
     by_cases hlt:i<items.length
     . refine W.walks.item i s' _ _ hlt hst λT vals h0 tk hP hT ht hmid hk0=>?_
       refine smG λH_ k_=>?_
       obtain ⟨t,u,m,rfl,hm,hr⟩:=W.item i vals hP
       refine k_ ?_
       clear k_ H_
       refine W.walks.go _ _ _ i T _ _ _ hmid λh0' hst0 hk0'=>?_
       have ht':h0'.IsTuple T #[.int i t,u]:=ht.at λo e=>hk0' T o (W.walks.apart i T h0 hmid) e
       refine wpAny_assign_Tuple F.ok.handled ht' rfl rfl λh' hx'=>?_
       have old':∀b o,h0'.get? b=some o->h'.get? b=some o:=λb o e=>hx' b o (Qw5 (Heap.lt_size e)) e
       have hst':St (i+1) h':=W.walks.frame _ _ h' hst0 λb u_ o e=>old' b o e
       have hk':∀b o,b∉wr->s'.heap.get? b=some o->h'.get? b=some o:=λb o hb' e=>old' b o (hk0' b o hb' (hk0 b o hb' e))
       have H₂:Holds C { σ' with own:=(D,.list ys)::σ'.own } { s' with heap:=h',toks:=tk }:=H'.hidden F.ok hk' rfl rfl hap' hnb W.noK W.noAl
       have hLf:L∉fp:=λhm=>(hfpD L hm).2 rfl
       have hns':h'.Ns L mL:=hnsL.at' λo e=>hk' _ o (λhm=>hLf (wsub _ hm)) e
       have hkx:(compEnvC cs (Qcb C.env.cells cs.names []) L C.env).kindOf x=some .local:=by
         show (relabel cs C.env).names.lookup x=_
         rw [Qcm F.esc,Qbn,K.x];rfl
       have hki:(compEnvC cs (Qcb C.env.cells cs.names []) L C.env).kindOf xi=some .local:=by
         show (relabel cs C.env).names.lookup xi=_
         rw [Qcm F.esc,Qbn,Ki.x];rfl
       show wpAny _ C.A (do holding [u] (assign (.Name xi pi) (compEnvC cs (Qcb C.env.cells cs.names []) L C.env) (.int i t));do holding [] (assign (.Name x px) (compEnvC cs (Qcb C.env.cells cs.names []) L C.env) u);pure ()) _ _ _
       refine wpAny_bind (wpAny_holding (wpAny_assign_Name (wpAny_storeName_local hki hns' (λh1 hn1 hs1=>?_) (by simp [compEnvC,relabel,K.kind]))))
       have hn1:h1.Ns L (λy=>if y=xi then some (.int i t) else mL y):=hn1
       have hs1:Heap.SameBut L h' h1:=hs1
       refine wpAny_bind (wpAny_holding (wpAny_assign_Name (wpAny_storeName_local hkx hn1 (λh₂ hn₂ hs₂=>wpAny_pure ?_) (by simp [compEnvC,relabel,K.kind]))))
       have hn₂:h₂.Ns L (λy=>if y=x then some u else if y=xi then some (.int i t) else mL y):=hn₂
       have hs₂:Heap.SameBut L h' h₂:=⟨hs₂.1.trans hs1.1,λb hb'=>(hs₂.2 b hb').trans (hs1.2 b hb')⟩
       have H₃:Holds C { σ' with own:=(D,.list ys)::σ'.own } { s' with heap:=h₂,toks:=tk+1+1 } :=
         H₂.hidden (wr:=[L]) F.ok (λb o hb' e=>hs₂.extBut b o (λe'=>hb' (by simp [e'])) e) rfl rfl (sing hLo) (sing hLB) (sing (P:=λa=>∀o,¬C.kp a o) g3) (sing (P:=λa=>¬C.al a) g4)
       have hal₂:∀a∈fp,∃o,h₂.get? a=some o:=λa ha=>by
         have:∃o,h'.get? a=some o:=W.alive _ _ hst' a ha
         refine smG λH_ k_=>?_
         obtain ⟨o,ho⟩:=this
         refine k_ ?_
         clear k_ H_
         exact ⟨o,hs₂.extBut a o (hfpD a ha).2 ho⟩
       have hst₂:St (i+1) h₂:=W.walks.frame _ _ _ hst' λb hb' o e=>hs₂.extBut b o (hfpD b hb').2 e
       have HC0:=Holds.toComp F Ki H₃ (m:=.int i) hn₂ (by simp [hne]) (⟨t,rfl⟩:VR (.int i) (.int i t)) hap hnb hLo hLf hLB g3
       have HC:=HC0.name (m:=m) hkx hn₂ (by simp) hr
       have hYX:∀a∈D::wr++C.fr,a∈D::fp++C.fr/\∃o,h₂.get? a=some o:=λa ha=>by
         rcases Qaz.mp ha with ha | ha
         . rcases Qch.mp ha with rfl | ha
           . exact ⟨.head _,(H₃.own (_,.list ys) (.head _)).alive⟩
           . exact ⟨Qaq _ (.tail _ (wsub a ha)),hal₂ a (wsub a ha)⟩
         . exact ⟨Qbv _ ha,H₃.alive a ha⟩
       have hLX:L∉D::fp++C.fr:=λhm=>by
         rcases Qaz.mp hm with hm | hm
         . rcases Qch.mp hm with e | hm
           . exact hLo (e ▸ .head _)
           . exact hLf hm
         . exact hLo (.tail _ (Qbv _ hm))
       have FC:=F.comp K H₃ (L:=L) (X:=D::fp++C.fr) (Y:=D::wr++C.fr) (λa ha=>Qbv _ ha) hLX g3 (λhm=>hLo (.tail _ (Qbv _ hm))) hYX
       have back:∀(σ₃:Mine.St) (s₃:Shared),Holds (C.comp (compEnvC cs (Qcb C.env.cells cs.names []) L C.env) h₂ (D::fp++C.fr) (D::wr++C.fr)) σ₃ s₃ ->
           CB C σ'.loc ys D L fp wr (St (i+1)) σ₃ s₃:=λσ₃ s₃ H₄=>by
         have H₅:=Holds.fromComp F.ok H₃ (L:=L) H₄
         have kept:∀a∈fp,∀o,h₂.get? a=some o->s₃.heap.get? a=some o:=λa ha o ho=>H₄.kp a o (.inr ⟨Qaq _ (.tail _ ha),ho⟩)
         refine ⟨H₅,W.walks.frame _ _ _ hst₂ kept,H₄.ns,λa ha hm=>?_,λa ha=>?_,λa ha=>H₄.noB a (.inr (Qaq _ (.tail _ ha))),λhm=>?_,H₄.apartB L (Qbv _ (.head _))⟩
         . refine smG λH_ k_=>?_
           obtain ⟨o,ho⟩:=hal₂ a ha
           refine k_ ?_
           clear k_ H_
           rcases Qaz.mp hm with hm | hm
           . rcases Qch.mp hm with e | hm
             . exact (hfpD a ha).1 e
             . exact H₄.apartK a (Qaq _ hm) o (.inr ⟨Qaq _ (.tail _ ha),ho⟩)
           . exact hap a ha (Qbv _ hm)
         . obtain ⟨o,ho⟩:=hal₂ a ha;exact ⟨o,kept a ha o ho⟩
         . rcases Qaz.mp hm with hm | hm
           . rcases Qch.mp hm with e | hm
             . exact hLo (e ▸ .head _)
             . exact (Qdi.mp H₄.nodup).2.2 L hm L (.head _) rfl
           . exact hLo (.tail _ (Qbv _ hm))
       refine wpAny_mono (Ql0 ifs (turn _ FC i ys σ' m hJ hm) _ HC) (λok s₃ hpat=>?_) λu_ u_ x=>x.elim
       refine smG λH_ k_=>?_
       obtain ⟨ok',σ₃,e,H₄,h₄⟩:=hpat
       refine k_ ?_
       clear k_ H_
       subst e
       cases ok' with
       | false =>
         simp only [Bool.false_eq_true,if_false] at h₄ ⊢
         refine smG λH_ k_=>?_
         obtain ⟨b1,b2,b3,b4,b5,b6,b7,b8⟩:=back σ₃ s₃ H₄
         refine k_ ?_
         clear k_ H_
         exact ⟨items.length+1-(i+1),by rw [hk];exact Qxh (Qw4 hlt) (Qxc i),i+1,ys,{ σ₃ with loc:=σ'.loc },rfl,hlt,h₄,Qz0 hyl,b1,b2,b3,b4,b5,b6,b7,b8⟩
       | true =>
         simp only [if_true] at h₄ ⊢
         refine wpAny_mono (h₄ s₃ H₄) (λyv s₄ hpat=>?_) λu_ u_ x=>x.elim
         refine smG λH_ k_=>?_
         obtain ⟨y,σ₄,hy,H₅,h₅⟩:=hpat
         refine k_ ?_
         clear k_ H_
         refine smG λH_ k_=>?_
         obtain ⟨b1,b2,b3,b4,b5,b6,b7,b8⟩:=back σ₄ s₄ H₅
         refine k_ ?_
         clear k_ H_
         refine Qcf (b1.own (D,.list ys) (.head _)) hy (Qdg (Qx4 hyl) (Qdg hlt hlen)) λh₆ ho₆ hk₆=>?_
         have H₆:Holds C ⟨σ'.loc,σ₄.B,(D,.list (ys++[y]))::σ₄.own⟩ { s₄ with heap:=h₆ }:=b1.upd (s':={ s₄ with heap:=h₆ }) F.ok .head hk₆ ho₆ rfl rfl
         have hfD:∀a∈fp,a≠D:=λa ha=>(hfpD a ha).1
         have hLD:L≠D:=λe=>b7 (e ▸ .head _)
         refine ⟨items.length+1-(i+1),by rw [hk];exact Qxh (Qw4 hlt) (Qxc i),i+1,ys++[y],{ σ₄ with loc:=σ'.loc },rfl,hlt,h₅,by rw [Qey];exact Qx4 hyl,H₆,W.walks.frame _ _ _ b2 λa ha o ho=>hk₆ a o (hfD a ha) ho,?_,b4,λa ha=>?_,b6,b7,b8⟩
         . obtain ⟨m',o,es,ep,h1,h2⟩:=b3;exact ⟨m',o,es,ep,hk₆ _ _ hLD h1,h2⟩
         . obtain ⟨o,ho⟩:=b5 a ha;exact ⟨o,hk₆ a o (hfD a ha) ho⟩
     . have hin:i=items.length:=Qxn hi (Qyb.mp hlt)
       subst hin
       refine W.walks.done s' _ _ hst λh' tk hk'=>?_
       have H₂:Holds C { σ' with own:=(D,.list ys)::σ'.own } { s' with heap:=h',toks:=tk }:=H'.hidden F.ok hk' rfl rfl hap' hnb W.noK W.noAl
       exact fin D L ys σ' _ hJ H₂ ⟨hDm,H₂.apartB D (.head _),λhm=>(Qnn.mp H₂.nodup).1 (Qaq _ hm)⟩ ⟨mL,hnsL.at' λo e=>hk' _ o (λhm=>(hfpD L (wsub _ hm)).2 rfl) e⟩ hLo hLB g3 g4
   . rcases Qaz.mp hm with hm | hm
     . rcases Qch.mp hm with e | hm
       . exact (hfpD a ha).1 e
       . exact W.apart a ha (Qaq _ hm)
     . exact W.apart a ha (Qbv _ hm)
 exact codeAny_compStart_list (loop _ rfl) (W.walks.self 0 _ _ _ (W.walks.frame _ _ _ W.st λb u_ o e=>keep1 b o (keep2 b o e)) (loop _ rfl))
end
end
section
open PySem
section
variable {C:Cx} {hb:Heap} {prog:Program} {w:World} {sc cs:Scope} {n:Nat} {md:List Addr} {fl:Bool} {x xi:Str} {σ:St}
noncomputable def Qga (hb:Heap)(prog:Program)(w:World)(sc cs:Scope)(n:Nat)(md:List Addr)(xi x:Str)(ifs:List Expr)(elt:Expr)(items:List MV)(J:Nat->List MV->St->Prop):Prop :=
 ∀C',Fx C' hb prog w (Qgv cs sc) n md false->∀(i:Nat) ys σ' m,J i ys σ'->items[i]? = some m ->
     CTs C' ifs { σ' with loc:=put (put (capt cs σ'.loc) xi (.int i)) x m } (λok σ₁=>if ok then Ex C' elt σ₁ (λy σ₂=>J (i+1) (ys++[y]) { σ₂ with loc:=σ'.loc }) else J (i+1) ys { σ₁ with loc:=σ'.loc })
theorem Qkl {elt e:Expr}{pi px pt pf pos pos':Pos}{kt:Nat}{ifs:List Expr}{Q:MV->St->Prop}(F:Fx C hb prog w sc n md fl)(Ki:Qbx cs sc xi)(K:Qbx cs sc x)(hne:xi≠x)
   (g:Gl hb "enumerate" (.oth (.type "enumerate"))) (hk:C.env.kindOf (Qa "enumerate")=some .globalImplicit)
   (he:starEach [e] C.env=(false,eval e C.env)::starEach [] C.env) (hplain:(backTo pos' (starEach [e] C.env)).any (·.1)=false) (hs:∀v,foldedSetIterable (.Call (.Name (Qa "enumerate") pf) [e] [] pos') C.env v=pure v)
   (h:Exs C pos' [e] σ (λvs σ₁=>∃(a:Addr) (items:List MV) (J:Nat->List MV->St->Prop),vs=[.ref a]/\σ₁.B a=some (.list items)/\items.length<=lim/\J 0 [] σ₁/\Qga hb prog w sc cs n md xi x ifs elt items J /\
     ∀ys σ',J items.length ys σ'->∀a,Fsh md σ' a->Q (.ref a) { σ' with own:=(a,.list ys)::σ'.own })) :
   Ex C (.ListComp elt [⟨.Tuple [.Name xi pi,.Name x px] kt pt,.Call (.Name (Qa "enumerate") pf) [e] [] pos',ifs,0⟩] cs pos) σ Q:=λs H=>by
 rw [eval_ListComp]
 show wpAny _ _ (comprehension _ cs C.env _ (newList []) false (eval (.Call (.Name (Qa "enumerate") pf) [e] [] pos') C.env) none) _ _ s
 refine wpAny_comprehension_free rfl hs (F.clo K) K.kind (λy hy hk=>by obtain ⟨y1,y2⟩:=y;dsimp only at hk;subst hk;exact Qc9 K.nd hy) ?_
 refine Qfl F.ok g hk he hplain h (λms σ₁ vs s₁ hR hvs H₁=>?_) H
 refine smG λH_ k_=>?_
 obtain ⟨a,items,J,rfl,hB,hlen,J0,turn,fin⟩:=hR
 refine k_ ?_
 clear k_ H_
 refine smG λH_ k_=>?_
 obtain ⟨va,rfl,hva⟩:=hvs.one
 refine k_ ?_
 clear k_ H_
 obtain rfl:va=.ref a:=hva
 refine WalkedT.of F.ok H₁ hB λI fp wr Pt St Mid s₂ W=>?_
 refine Qh8 F Ki K hne W hlen J J0 turn λD L ys σ' s' hJ H' hD hns hLo hLB hLk hLal=>?_
 refine smG λH_ k_=>?_
 obtain ⟨m,hns⟩:=hns
 refine k_ ?_
 clear k_ H_
 refine ⟨m,hns,λh' hs'=>⟨.ref D,_,rfl,?_,fin ys σ' hJ D (F.emod ▸ hD)⟩⟩
 exact H'.hidden (wr:=[L]) F.ok (λb o hb' e=>hs'.extBut b o (λe'=>hb' (by simp [e'])) e) rfl rfl (sing hLo) (sing hLB) (sing (P:=λa=>∀o,¬C.kp a o) hLk) (sing (P:=λa=>¬C.al a) hLal)
theorem Qhj {elt e:Expr}{y:Str}{py pi px pt pf pos pos' spos:Pos}{kt:Nat}{ifs:List Expr}{Q:MF->St->Prop}(F:Fx C hb prog w sc n md fl)(Ki:Qbx cs sc xi)(K:Qbx cs sc x)(hne:xi≠x)
   (g:Gl hb "enumerate" (.oth (.type "enumerate"))) (hk:C.env.kindOf (Qa "enumerate")=some .globalImplicit)
   (he:starEach [e] C.env=(false,eval e C.env)::starEach [] C.env) (hplain:(backTo pos' (starEach [e] C.env)).any (·.1)=false) (hs:∀v,foldedSetIterable (.Call (.Name (Qa "enumerate") pf) [e] [] pos') C.env v=pure v)
   (hsw:swapsWith (.ListComp elt [⟨.Tuple [.Name xi pi,.Name x px] kt pt,.Call (.Name (Qa "enumerate") pf) [e] [] pos',ifs,0⟩] cs pos) (some (.Name y py)) spos.line C.env=pure true)
   (h:Exs C pos' [e] σ (λvs σ₁=>∃(a:Addr) (items:List MV) (J:Nat->List MV->St->Prop),vs=[.ref a]/\σ₁.B a=some (.list items)/\items.length<=lim/\J 0 [] σ₁/\Qga hb prog w sc cs n md xi x ifs elt items J /\
     ∀C',Fx C' hb prog w sc n md fl->∀ys σ',J items.length ys σ'->∀a,Fsh md σ' a->Qb6 C' y (.ref a) { σ' with own:=(a,.list ys)::σ'.own } (λσ''=>Q .next σ''))) :
   Stm C (.Assign [.Name y py] (.ListComp elt [⟨.Tuple [.Name xi pi,.Name x px] kt pt,.Call (.Name (Qa "enumerate") pf) [e] [] pos',ifs,0⟩] cs pos) spos) σ Q:=λs H=>by
 show wpAny _ _ (exec _ C.env) _ _ s
 rw [exec_Assign_Name_used _ _ _ _ hsw]
 refine wpAny_bind (wpAny_standAt (wpAny_bind ?_))
 show wpAny _ _ (do let _ <-comprehension (.ListComp elt [⟨.Tuple [.Name xi pi,.Name x px] kt pt,.Call (.Name (Qa "enumerate") pf) [e] [] pos',ifs,0⟩] cs pos) cs C.env _ (newList []) false (eval (.Call (.Name (Qa "enumerate") pf) [e] [] pos') C.env) (some (assign (.Name y py) C.env))) _ _ s
 refine wpAny_bind (wpAny_mono (wpAny_comprehension_free (Q:=λu_ s'=>Out C FR Q .next s') rfl hs (F.clo K) K.kind (λy hy hk=>by obtain ⟨y1,y2⟩:=y;dsimp only at hk;subst hk;exact Qc9 K.nd hy) ?_)
   (λu_ s' hq=>wpAny_pure (wpAny_pure hq)) λu_ u_ e=>e)
 refine Qfl F.ok g hk he hplain h (λms σ₁ vs s₁ hR hvs H₁=>?_) H
 refine smG λH_ k_=>?_
 obtain ⟨a,items,J,rfl,hB,hlen,J0,turn,fin⟩:=hR
 refine k_ ?_
 clear k_ H_
 refine smG λH_ k_=>?_
 obtain ⟨va,rfl,hva⟩:=hvs.one
 refine k_ ?_
 clear k_ H_
 obtain rfl:va=.ref a:=hva
 refine WalkedT.of F.ok H₁ hB λI fp wr Pt St Mid s₂ W=>?_
 refine Qh8 F Ki K hne W hlen J J0 turn λD L ys σ' s' hJ H' hD hns hLo hLB hLk hLal=>?_
 refine smG λH_ k_=>?_
 obtain ⟨m,hns⟩:=hns
 refine k_ ?_
 clear k_ H_
 have hLfr:∀a∈[L],a∉C.fr:=sing (P:=λa=>a∉C.fr) λhm=>hLo (.tail _ (Qbv _ hm))
 have hLalive:∃o,s'.heap.get? L=some o:=let ⟨o,_,_,ho,_⟩:=hns;⟨o,ho⟩
 have H₂:=H'.hide (X:=[L]) (wr:=[L]) (sing (P:=λa=>a∉_) hLo) (sing (P:=λa=>σ'.B a=none) hLB)
 have F₂:Fx (C.hide s'.heap [L] [L]) hb prog w sc n md fl:=F.hide hLfr λa ha=>⟨ha,by rw [Qbq.mp ha];exact hLalive⟩
 refine wpAny_assign_Name (wpAny_mono (fin _ F₂ ys σ' hJ D (F.emod ▸ hD) (.ref D) rfl s' H₂) (λu_ s'' hpat=>?_) λu_ u_ x=>x)
 refine smG λH_ k_=>?_
 obtain ⟨u_,σ'',u_,H₃,hq⟩:=hpat
 refine k_ ?_
 clear k_ H_
 refine smG λH_ k_=>?_
 obtain ⟨oL,es,ep,ho,r⟩:=hns
 refine k_ ?_
 clear k_ H_
 have kL:=H₃.kp L oL (.inr ⟨.head _,ho⟩)
 refine ⟨m,⟨oL,es,ep,kL,r⟩,λh' hs'=>⟨.next,σ'',rfl,?_,hq⟩⟩
 exact H₃.unhide.hidden (wr:=[L]) F.ok (λb o hb' e=>hs'.extBut b o (λe'=>hb' (by simp [e'])) e) rfl rfl (sing (P:=λa=>a∉_) λhm=>H₃.apartK L hm oL (.inr ⟨.head _,ho⟩)) (sing (P:=λa=>σ''.B a=none) (H₃.noB L (.inr (.head _))))
   (sing (P:=λa=>∀o,¬C.kp a o) hLk) (sing (P:=λa=>¬C.al a) hLal)
end
end
section
open PySem
section
variable {C:Cx} {hb:Heap} {prog:Program} {w:World} {sc cs:Scope} {n:Nat} {md:List Addr} {fl:Bool} {x xi:Str} {σ:St}
theorem Qmr {o e1 e2:Expr}{apos pos:Pos}{Q:MV->St->Prop}(F:Fx C hb prog w sc n md fl)(hbase:attributeBase o "get" C.env (eval o C.env)=eval o C.env)(hline:(apos.endLine == pos.line)=true)
   (htrees:backTo pos (starEach [e1,e2] C.env)=[(false,eval e1 C.env),(false,eval e2 C.env)])
   (h:Ex C o σ (λov σ₁=>∃d kvs0,ov=.ref d/\Has σ₁ d (.dict kvs0)/\Ex C e1 σ₁ (λkv σ₂=>Ex C e2 σ₂ (λdv σ₃=>∃k kvs,kv=Qau k/\Has σ₃ d (.dict kvs)/\Q ((dget kvs k).getD dv) σ₃)))) :
   Ex C (.Call (.Attribute o "get" apos) [e1,e2] [] pos) σ Q:=λs H=>by
 refine wpAny_Call_method2_late hbase hline htrees (wpAny_mono (h s H) (λvo s₁ hpat=>?_) λu_ u_ x=>x)
 refine smG λH_ k_=>?_
 obtain ⟨ov,σ₁,ho,H₁,d,kvs0,e1,hh0,hq⟩:=hpat
 refine k_ ?_
 clear k_ H_
 subst e1
 obtain rfl:vo=.ref d:=ho
 refine smG λH_ k_=>?_
 obtain ⟨hms,vk0,⟨p0,w0,hdo⟩,hkv0,hlim0⟩:=H₁.has hh0
 refine k_ ?_
 clear k_ H_
 have hd0:=Qaw (p':=C.prog) (w':=C.w) hdo
 refine ⟨"dict","dict.get",PySem.F.plainAttrs_dict,PySem.F.slot_dict_get,PySem.F.type_dict_get,hd0.typeIs,hd0.mapOf.noDict,?_⟩
 refine wpAny_dict_get2 (knd:=Qbj C.prog C.w) hms (wpAny_mono (hq s₁ H₁) (λkv s₂ hpat=>?_) λu_ u_ x=>x)
 refine smG λH_ k_=>?_
 obtain ⟨km,σ₂,hkm,H₂,h₂⟩:=hpat
 refine k_ ?_
 clear k_ H_
 refine wpAny_mono (h₂ s₂ H₂) (λdv s₃ hpat=>?_) λu_ u_ x=>x
 refine smG λH_ k_=>?_
 obtain ⟨dm,σ₃,hdm,H₃,k,kvs,e2,hh,hQ⟩:=hpat
 refine k_ ?_
 clear k_ H_
 subst e2
 refine smG λH_ k_=>?_
 obtain ⟨hms',vk,⟨p1,w1,hdo'⟩,hkv,hlim⟩:=H₃.has hh
 refine k_ ?_
 clear k_ H_
 have hm:=(Qaw (p':=C.prog) (w':=C.w) hdo').mapOf
 refine ⟨k,_,Qdl hkm,hm,?_⟩
 cases hg:dget kvs k with
 | some m =>
   refine smG λH_ k_=>?_
   obtain ⟨v,hv,hr⟩:=hkv.some hg
   refine k_ ?_
   clear k_ H_
   rw [hg] at hQ
   exact ⟨m,σ₃,by rw [hv];exact hr,H₃.toks _,hQ⟩
 | none =>
   have:valueAt vk k=none:=by
     have:=hkv.isSome k
     rw [hg] at this
     simpa using this
   rw [hg] at hQ
   exact ⟨dm,σ₃,by rw [this];exact hdm,H₃.toks _,hQ⟩
end
end
section
open PySem
section
variable {C:Cx} {hb:Heap} {prog:Program} {w:World} {sc cs:Scope} {n:Nat} {md:List Addr} {fl:Bool} {x xi:Str} {σ:St}
abbrev St2K (C':Cx)(xv:Str)(m:MV)(K:St->Prop):St->Prop:=λσ₂=>Qb6 C' xv m σ₂ K
inductive ForPE (hb:Heap)(prog:Program)(w:World)(sc:Scope)(n:Nat)(md:List Addr)(fl:Bool)(xi xv:Str)(body orelse:List Stmt)(Q:MF->St->Prop)(vs:List MV)(σ₁:St):Prop
 | mk (a:Addr) (items:List MV) (J:Nat->St->Prop) (e1:vs=[.ref a]) (hB:σ₁.B a=some (.list items)) (h0:Tn md (J 0) σ₁) (turn:∀C',Fx C' hb prog w sc n md fl->∀(i:Nat) σ' m,J i σ'->items[i]? = some m->Qb6 C' xi (.int i) σ' (St2K C' xv m (Qv4 C' body (Qsx md (J (i+1)) Q)))) (fin:∀C',Fx C' hb prog w sc n md fl->∀σ',J items.length σ'->Sts C' orelse σ' Q):ForPE hb prog w sc n md fl xi xv body orelse Q vs σ₁
theorem Qpu {xv:Str}{pi pv pt pf pos pos':Pos}{x1}{e:Expr}{body orelse:List Stmt}{Q:MF->St->Prop}(F:Fx C hb prog w sc n md fl)(g:Gl hb "enumerate" (.oth (.type "enumerate")))(hk:sc.names.lookup (Qa "enumerate")=some .globalImplicit)
   (he:starEach [e] C.env=(false,eval e C.env)::starEach [] C.env) (hplain:(backTo pos' (starEach [e] C.env)).any (·.1)=false) (hs:∀v,foldedSetIterable (.Call (.Name (Qa "enumerate") pf) [e] [] pos') C.env v=pure v)
   (h:Exs C pos' [e] σ (ForPE hb prog w sc n md fl xi xv body orelse Q)):Stm C (.For (.Tuple [.Name xi pi,.Name xv pv] x1 pt) (.Call (.Name (Qa "enumerate") pf) [e] [] pos') body orelse pos) σ Q:=by
 refine Qs2 F g (F.kind hk) he hplain hs (Tr.mono h λvs σ₁ ⟨a,items,J,e1,hB,J0,turn,fin⟩=>⟨a,items,λi=>Tn md (J i),e1,hB,J0,?_,?_⟩)
 . intro C' F' i σ' m ⟨σ₀,c,hJ⟩ hm
   exact Qcx F' c (turn C' F' i σ₀ m hJ hm)
 . intro C' F' σ' ⟨σ₀,c,hJ⟩
   exact Qkd F' c (fin C' F' σ₀ hJ)
noncomputable def Qtu (hb:Heap)(prog:Program)(w:World)(sc cs:Scope)(n:Nat)(md:List Addr)(xi x:Str)(ifs:List Expr)(elt:Expr)(items:List MV)(l:Loc)(J:Nat->List MV->MH->Own->Prop):Prop :=
 ∀C',Fx C' hb prog w (Qgv cs sc) n md false->∀(i:Nat) ys B own m,J i ys B own->items[i]? = some m ->
     CTs C' ifs ⟨put (put (capt cs l) xi (.int i)) x m,B,own⟩ (CtK C' elt md (J (i+1)) ys)
theorem Qjm {ifs:List Expr}{elt:Expr}{items:List MV}{l:Loc}{J:Nat->List MV->MH->Own->Prop}(h:Qtu hb prog w sc cs n md xi x ifs elt items l J) :
   Qga hb prog w sc cs n md xi x ifs elt items (λi ys σ=>σ.loc=l/\J i ys σ.B σ.own):=by
 intro C' F' i ys σ' m ⟨hl,hJ⟩ hm
 have key:=h C' F' i ys σ'.B σ'.own m hJ hm
 subst hl
 have:∀(ifs:List Expr) (σ₁:St),CTs C' ifs σ₁ (CtK C' elt md (J (i+1)) ys) ->
     CTs C' ifs σ₁ (λok σ₁=>if ok then Ex C' elt σ₁ (λy σ₂=>σ'.loc=σ'.loc/\J (i+1) (ys++[y]) σ₂.B σ₂.own) else σ'.loc=σ'.loc/\J (i+1) ys σ₁.B σ₁.own):=by
   intro ifs
   induction ifs with
   | nil =>
     intro σ₁ h
     have h':Ex C' elt σ₁ (CtK2 md (J (i+1)) ys):=h
     have h2:Ex C' elt σ₁ (λy σ₂=>σ'.loc=σ'.loc/\J (i+1) (ys++[y]) σ₂.B σ₂.own):=Tr.post F' (Tr.mono h' λy σ₄ ⟨σ₃,c3,hj⟩=>⟨σ₃,c3,rfl,hj⟩)
     exact h2
   | cons t r ih =>
     intro σ₁ h
     refine Tr.post F' (Tr.mono (show Ts C' t σ₁ _ from h) λb σ₄ h₄=>?_)
     cases b with
     | true=>exact ⟨σ₄,.refl _,ih σ₄ h₄⟩
     | false=>obtain ⟨σ₃,c3,hj⟩:=(h₄:CvT md _ σ₄);exact ⟨σ₃,c3,rfl,hj⟩
 exact this ifs _ key
inductive Qhq (hb:Heap)(prog:Program)(w:World)(sc cs:Scope)(n:Nat)(md:List Addr)(xi x:Str)(ifs:List Expr)(elt:Expr)(R:List MV->MH->Own->Loc->Prop)(vs:List MV)(σ₁:St):Prop
 | mk (a:Addr) (items:List MV) (J:Nat->List MV->MH->Own->Prop) (e1:vs=[.ref a]) (hB:σ₁.B a=some (.list items)) (hl:items.length<=lim) (h0:J 0 [] σ₁.B σ₁.own) (turn:Qtu hb prog w sc cs n md xi x ifs elt items σ₁.loc J) (fin:∀ys B own,J items.length ys B own->R ys B own σ₁.loc):Qhq hb prog w sc cs n md xi x ifs elt R vs σ₁
theorem Qms {elt e:Expr}{pi px pt pf pos pos':Pos}{kt:Nat}{ifs:List Expr}{Q:MV->St->Prop}(F:Fx C hb prog w sc n md fl)(Ki:Qbx cs sc xi)(K:Qbx cs sc x)(hne:xi≠x)
   (g:Gl hb "enumerate" (.oth (.type "enumerate"))) (hk:sc.names.lookup (Qa "enumerate")=some .globalImplicit)
   (he:starEach [e] C.env=(false,eval e C.env)::starEach [] C.env) (hplain:(backTo pos' (starEach [e] C.env)).any (·.1)=false) (hs:∀v,foldedSetIterable (.Call (.Name (Qa "enumerate") pf) [e] [] pos') C.env v=pure v)
   (h:Exs C pos' [e] σ (Qhq hb prog w sc cs n md xi x ifs elt (RK1 md Q))) :
   Ex C (.ListComp elt [⟨.Tuple [.Name xi pi,.Name x px] kt pt,.Call (.Name (Qa "enumerate") pf) [e] [] pos',ifs,0⟩] cs pos) σ Q:=by
 refine Qkl F Ki K hne g (F.kind hk) he hplain hs (Tr.mono h λvs σ₁ ⟨a,items,J,e1,hB,hl,J0,turn,fin⟩=>⟨a,items,_,e1,hB,hl,⟨rfl,J0⟩,Qjm turn,?_⟩)
 rintro ys ⟨l,B,own⟩ ⟨hl',hJ⟩ a ha
 dsimp only at hl' hJ
 subst hl'
 exact fin ys B own hJ a ha
theorem Qpv {elt e:Expr}{y:Str}{py pi px pt pf pos pos' spos:Pos}{kt:Nat}{ifs:List Expr}{Q:MF->St->Prop}(F:Fx C hb prog w sc n md fl)(Ki:Qbx cs sc xi)(K:Qbx cs sc x)(hne:xi≠x)
   (g:Gl hb "enumerate" (.oth (.type "enumerate"))) (hk:sc.names.lookup (Qa "enumerate")=some .globalImplicit)
   (he:starEach [e] C.env=(false,eval e C.env)::starEach [] C.env) (hplain:(backTo pos' (starEach [e] C.env)).any (·.1)=false) (hs:∀v,foldedSetIterable (.Call (.Name (Qa "enumerate") pf) [e] [] pos') C.env v=pure v)
   (hsw:swapsWith (.ListComp elt [⟨.Tuple [.Name xi pi,.Name x px] kt pt,.Call (.Name (Qa "enumerate") pf) [e] [] pos',ifs,0⟩] cs pos) (some (.Name y py)) spos.line C.env=pure true)
   (h:Exs C pos' [e] σ (Qhq hb prog w sc cs n md xi x ifs elt (RK2 hb prog w sc n md fl y Q))) :
   Stm C (.Assign [.Name y py] (.ListComp elt [⟨.Tuple [.Name xi pi,.Name x px] kt pt,.Call (.Name (Qa "enumerate") pf) [e] [] pos',ifs,0⟩] cs pos) spos) σ Q:=by
 refine Qhj F Ki K hne g (F.kind hk) he hplain hs hsw (Tr.mono h λvs σ₁ ⟨a,items,J,e1,hB,hl,J0,turn,fin⟩=>⟨a,items,_,e1,hB,hl,⟨rfl,J0⟩,Qjm turn,?_⟩)
 rintro C' F' ys ⟨l,B,own⟩ ⟨hl',hJ⟩ a ha
 dsimp only at hl' hJ
 subst hl'
 exact fin ys B own hJ C' F' a ha
end
end
section
open PySem
theorem Qee {B:MH}{a:Addr}:unB B a a=none:=by simp [unB]
noncomputable def Qov (S:Spec):Spec:=λargs B own Q=>∃a o,own=[(a,o)]/\S args (setB B a o) [] (λv B' own'=>own'=[]/\Q v (unB B' a) [(a,o)])
theorem Contract.lend {prog:Program}{w:World}{hb:Heap}{f:Value}{n:Nat}{S:Spec}(K:Contract prog w hb f n S):Contract prog w hb f n (Qov S):=by
 intro A s args vals B own₁ Q h1 h2 h3 h4 h5 h6 h7 h8 h9 hJ_
 refine smG λH_ k_=>?_
 obtain ⟨a,o,rfl,hS⟩:=hJ_
 refine k_ ?_
 clear k_ H_
 have hBa:B a=none:=(h8 a (by simp)).1
 have hoa:=h6 (a,o) (by simp)
 refine wpAny_mono (K A s args vals (setB B a o) [] _ h1 h2 h3 h4 (λb ob hb'=>?_) (λu_ h=>nomatch h) Qzp (λu_ h=>nomatch h) h9 hS) (λv s' hpat=>?_) λu_ u_ x=>x
 . by_cases e:b=a
   . subst e;rw [setB_self] at hb';cases hb';exact hoa
   . rw [Qbp e] at hb';exact h5 b ob hb'
 . refine smG λH_ k_=>?_
   obtain ⟨m,B',own',k1,k2,k3,k4,k5,k6,k7,k8,k9,k10,k11,rfl,hQ⟩:=hpat
   refine k_ ?_
   clear k_ H_
   have hB'a:B' a=some o:=k6 a o setB_self
   refine ⟨m,unB B' a,[(a,o)],k1,λb ob u_ e=>k2 b ob (λh=>nomatch h) e,k3,k4,k5,λb ob e=>?_,λb ob e=>?_,λb ob e=>?_,λp hp=>?_,by simp,λb hb'=>?_,hQ⟩
   . have hne:b≠a:=λe'=>by subst e';rw [hBa] at e;cases e
     rw [Qgb hne];exact k6 b ob (by rw [Qbp hne];exact e)
   . have hne:b≠a:=λe'=>by subst e';rw [Qee] at e;cases e
     rw [Qgb hne] at e;exact k7 b ob e
   . have hne:b≠a:=λe'=>by subst e';rw [Qee] at e;cases e
     rw [Qgb hne] at e
     rcases k8 b ob e with g | g
     . rw [Qbp hne] at g;exact .inl g
     . exact .inr g
   . rw [Qbq.mp hp];exact k7 a o hB'a
   . obtain rfl:b=a:=by simpa using hb'
     exact ⟨Qee,.inr (by simp)⟩
theorem FnC.lend {prog:Program}{w:World}{hb:Heap}{f:Str}{n:Nat}{S:Spec}(h:FnC prog w hb f n S):FnO prog w hb f n (Qov S):=⟨⟨let ⟨fa,h1,h2,h3⟩:=h.ex;⟨fa,h1,h2,h3.lend⟩⟩⟩
end
section
open PySem
section
variable {C:Cx} {hb:Heap} {prog:Program} {w:World} {sc cs:Scope} {n:Nat} {md:List Addr} {fl:Bool} {x:Str} {σ:St}
theorem Qh0 {r:Addr}{k:Nat}{Q:MV->St->Prop}(F:Fx C hb prog w sc n md fl)(hh:Has σ r (.range k))
   (h:∀b,Fsh md σ b->Q (.ref b) { σ with own:=(b,.list ((Qat k).map MV.int))::σ.own }):Qb0 C (.type "list") [.ref r] σ Q:=λvs hvs s H=>by
 obtain ⟨v,rfl,hv⟩:=hvs.one
 obtain rfl:v=.ref r:=hv
 obtain ⟨t,u,vv,ho,hlim⟩:=H.has hh
 refine call_list_range F.ok.handled ho (Qgx hlim) (Qdj k) (Qdg hlim (by unfold lim;decide)) λh' tk acc c' hk hD hacc=>?_
 refine ⟨.ref _,_,rfl,H.newAt (a:=s.heap.objs.size) (s':={ s with heap:=h',toks:=tk }) (mo:=.list ((Qat k).map MV.int)) (Qwb _) hk rfl rfl ⟨acc,c',hD,Qtm _ _ ?_ λi v hv=>?_,by rw [Qab,Qai];exact hlim⟩,h _ (F.emod ▸ H.fshAt F.ok (Qwb _))⟩
 . rw [Qw3,hacc.1,Qab,Qai]
 . have hv':acc[i]? = some v:=by rw [<-Qpy];exact hv
   have hi:i<k:=by rw [<-hacc.1];exact (Array.getElem?_eq_some_iff.mp hv').1
   obtain ⟨t,e⟩:=hacc.2 i v hv'
   refine ⟨.int i,?_,t,by rw [e];simp⟩
   rw [<-Qav,Qaa,Qzr hi];rfl
end
end
section
open PySem
section
variable {prog:Program} {w:World} {A:Around} {E:Value->Shared->Prop} {s:Shared}
theorem Qpn (b n:Nat)(hb:b<=n):Builtin.Slice.sliceAdjust none (some (b:Int)) 1 (n:Int)=((0:Int),(b:Int)):=by
 unfold Builtin.Slice.sliceAdjust
 have h1:¬((1:Int)<0):=by exact om284
 have h2:¬((b:Int)<0):=by exact om286
 simp only [h1,h2,if_false]
 congr 1
 exact om287 ‹_›
theorem Qom (b:Nat):Builtin.Slice.slicePlaces (0:Int) (b:Int) 1=b:=by
 unfold Builtin.Slice.slicePlaces
 have h1:(1:Int) > 0:=by exact om285
 simp only [h1,if_true,Int.ediv_one]
 split <;> (first | exact om288 ‹_› | exact om289 ‹_›)
theorem Qgt {sl:Addr}{b n:Nat}{u:Tok}{Q:Int×Int×Nat->Shared->Prop}(hs:s.heap.IsSliceOf sl .none (.int b u) .none)(hb:b<=n)(h:Q ((0:Int),1,b) s) :
   wpAny (model prog w) A (Builtin.Slice.sliceApplied (.ref sl) (pure (n:Int))) Q E s:=by
 refine smG λH_ k_=>?_
 obtain ⟨os,hos,hcs,hds⟩:=id hs
 refine k_ ?_
 clear k_ H_
 unfold Builtin.Slice.sliceApplied Builtin.Slice.sliceFields
 refine wpAny_bind (wpAny_bind (wpAny_field hos hds (x:=.none) rfl (wpAny_bind (wpAny_field hos hds (x:=.int b u) rfl (wpAny_bind (wpAny_field hos hds (x:=.none) rfl (wpAny_pure ?_)))))))
 refine wpAny_bind (PyProof.Rows.slicePart_none ?_)
 show wpAny _ _ (if ((1:Int) == 0)=true then _ else _) _ _ s
 rw [if_neg (by decide)]
 refine wpAny_bind (PyProof.Rows.slicePart_none (wpAny_bind (PyProof.Rows.slicePart_int (wpAny_bind (wpAny_pure ?_)))))
 show wpAny _ _ (match Builtin.Slice.sliceAdjust none (some (b:Int)) 1 (n:Int) with | (lo,hi)=>pure (lo,(1:Int),Builtin.Slice.slicePlaces lo hi 1)) _ _ s
 rw [Qpn b n hb]
 show wpAny _ _ (pure ((0:Int),(1:Int),Builtin.Slice.slicePlaces (0:Int) (b:Int) 1)) _ _ s
 rw [Qom b]
 exact wpAny_pure h
theorem Quh (xs:Array Value)(b:Nat):((List.range b).filterMap λ(k:Nat)=>xs[((0:Int)+(k:Int)*1).toNat]?).toArray=(xs.toList.take b).toArray:=by
 have e:(λ(k:Nat)=>xs[((0:Int)+(k:Int)*1).toNat]?)=λk=>xs[0+k]?:=by
   funext k
   have:((0:Int)+(k:Int)*1).toNat=0+k:=by omega
   rw [this]
 rw [e]
 have:=pick_run xs 0 b
 rw [List.filterMap_map] at this
 have e2:((λx=>xs[x]?) ∘ λx=>0+x)=λk=>xs[0+k]?:=rfl
 rw [e2] at this
 rw [this,List.drop_zero]
theorem Qgh {t sl:Addr}{items:Array Value}{b:Nat}{u:Tok}{Q:Value->Shared->Prop}(ht:PyProof.Rows.IsTup s.heap t items)(hs:s.heap.IsSliceOf sl .none (.int b u) .none)(hb:b<items.size)
   (h:Q (.ref s.heap.objs.size) { s with heap:=s.heap.push { cls:=.type "tuple",data:=.seq (items.toList.take b).toArray } })
   (hsz:items.size<=sizeLine):wpAny (model prog w) A (getItem (.ref t) (.ref sl)) Q E s:=by
 have hdrop:sizeOk (.seq (items.toList.take b).toArray):=by
   show (items.toList.take b).toArray.size<=sizeLine
   rw [Qy4,Qww,Qw3]
   exact om290 ‹_› ‹_›
 refine smG λH_ k_=>?_
 obtain ⟨os,hos,hcs,hds⟩:=id hs
 refine k_ ?_
 clear k_ H_
 have hTs:s.TypeIs (.ref sl) "slice" := ⟨os,hos,hcs⟩
 unfold getItem
 try with_reducible refine wpAny_holding ?_
 first | refine wpAny_bind (wpAny_pure ?_) | skip
 refine wpAny_bind (wpAny_sequenceKey ht.typeIs (by decide) ?_)
 refine wpAny_bind (wpAny_callSpecial?_slot (name:=Qa "__getitem__") ht.typeIs PyProof.Rows.slot_tuple_getitem
   (wpAny_call_entry PyProof.Rows.slot_tuple_getitem ht.typeIs PyProof.Rows.entry_tuple_getitem ?_ (PyProof.Rows.args_tuple_getitem _ _)))
 show wpAny _ _ (Builtin.Tuple.tupleItemsOf (.ref t) >>= _) _ _ s
 refine wpAny_bind (PyProof.Rows.tupleItemsOf_ ht ?_)
 refine wpAny_bind (wpAny_typeOf hTs ?_)
 rw [if_pos (by decide)]
 refine wpAny_bind (Qgt hs (Qxb hb) ?_)
 have hno:¬(((0:Int) == 0 && (1:Int) == 1 && b == items.size)=true):=by
   have:(b == items.size)=false:=by rw [beq_eq_false_iff_ne];exact om292 ‹_›
   rw [this];simp
 show wpAny _ _ (if ((0:Int) == 0 && (1:Int) == 1 && b == items.size)=true then _ else _) _ _ s
 rw [if_neg hno,Quh items b]
 first
   | exact wpAny_bind (m:=Builtin.Tuple.tupleExact _) (wpAny_newObj_type (wpAny_pure ⟨_,rfl,wpAny_pure h⟩) hdrop)
   | exact wpAny_bind (m:=Builtin.Tuple.tupleExact _) (wpAny_newObj_type (wpAny_bind (wpAny_pure (wpAny_pure ⟨_,rfl,wpAny_pure h⟩))) hdrop)
   | exact wpAny_bind (wpAny_bind (m:=Builtin.Tuple.tupleExact _) (wpAny_newObj_type (wpAny_pure (wpAny_pure ⟨_,rfl,wpAny_pure h⟩)) hdrop))
   | exact wpAny_bind (wpAny_bind (m:=Builtin.Tuple.tupleExact _) (wpAny_newObj_type (wpAny_pure ⟨_,rfl,wpAny_pure h⟩) hdrop))
theorem Qc7 {env:Env}{value up:Expr}{p pos:Pos}{Q:Value->Shared->Prop}
   (h:wpAny (model prog w) A (eval value env) (λo s₁=>wpAny (model prog w) A (eval up env) (λvu s₂ =>
     ∃l items b u,o=.ref l/\vu=.int ((b:Nat):Int) u/\PyProof.Rows.IsTup s₂.heap l items/\items.size<=sizeLine/\b<items.size /\
       Q (.ref (s₂.heap.objs.size+1)) { s₂ with heap:=(s₂.heap.push { cls:=.type "slice",data:=.fields #[.none,vu,.none] }).push { cls:=.type "tuple",data:=.seq (items.toList.take b).toArray } }) E s₁) E s)
   (ht:∀o r,letTemporaryGo value o r=pure ()) :
   wpAny (model prog w) A (eval (.Subscript value (.Slice none (some up) none p) pos) env) Q E s:=by
 refine wpAny_Subscript_Slice (T := "tuple") PyProof.Rows.slot_tuple_getitem.lookup (wpAny_mono h (λo s₁ h₁=>wpAny_Slice ?_) λu_ u_ e=>e) ht
 rw [evalPart_none]
 refine wpAny_pure ?_
 refine wpAny_mono (t:=evalPart (some up) env) h₁ (λvu s₂ h₂=>?_) λu_ u_ e=>e
 refine smG λH_ k_=>?_
 obtain ⟨l,items,b,u,rfl,rfl,hl,hsz,hb,hQ⟩:=h₂
 refine k_ ?_
 clear k_ H_
 refine wpAny_pure ?_
 have hl':PyProof.Rows.IsTup (s₂.heap.push { cls:=.type "slice",data:=.fields #[.none,.int ((b:Nat):Int) u,.none] }) l items:=hl.keeps λu_ u_ e=>Heap.get?_push_of_some _ e
 refine ⟨hl'.typeIs,Qgh hl' (Heap.IsSliceOf.new ..) hb ?_ hsz⟩
 rw [Heap.size_push]
 exact hQ
end
end
section
open PySem PySem.SeqAt
section
variable {C:Cx} {hb:Heap} {prog:Program} {w:World} {sc cs:Scope} {n:Nat} {md:List Addr} {fl:Bool} {x:Str} {σ:St}
theorem Qnv {a b:Bool}{Q:MV->St->Prop}(h:Q (.bool (a != b)) σ):Cmp C .NotEq (.bool a) (.bool b) σ Q:=λva vb ha hb s H=>by
 obtain rfl:va=_:=ha;obtain rfl:vb=_:=hb
 exact PyProof.Rows.ne_bool ⟨.bool (a != b),σ,rfl,H,h⟩
theorem Qnr {a:Addr}{xs:List MV}{m:MV}(e:MV->Bool){Q:MV->St->Prop}(hh:Has σ a (.tup xs))(he:∀y∈xs,EqM σ y m (e y))(h:Q (.bool (!xs.any e)) σ):Cmp C .NotIn m (.ref a) σ Q:=λva vb ha hb' s H=>by
 obtain rfl:vb=.ref a:=hb'
 refine smG λH_ k_=>?_
 obtain ⟨vs,nn,hob,hr,hlim⟩:=H.has hh
 refine k_ ?_
 clear k_ H_
 refine smG λH_ k_=>?_
 obtain ⟨h1,h2⟩:=Qkv hr e λy hy=>(he y hy).noOth
 refine k_ ?_
 clear k_ H_
 refine notIn_tupleAt (λv=>e (mvOf v)) ⟨_,hob,rfl,nn,rfl⟩ (λy hy=>?_) ⟨.bool _,σ,rfl,H,by rw [<-Qy6,h2];exact h⟩
 refine smG λH_ k_=>?_
 obtain ⟨g1,g2⟩:=h1 y (by simpa using hy)
 refine k_ ?_
 clear k_ H_
 exact (he _ g2).at H g1 ha _
theorem Qlw {a:Addr}{p q y:Str}{Q:MV->St->Prop}(hh:Has σ a (.tup [.str p,.str q]))(h:Q (.bool (!(decide (p=y) || decide (q=y)))) σ):Cmp C .NotIn (.str y) (.ref a) σ Q:=by
 refine Qnr (λm=>match m with | .str z=>decide (z=y) | _=>false) hh (λm hm=>?_) ?_
 . simp only [Qch,List.not_mem_nil,or_false] at hm
   rcases hm with rfl | rfl
   . exact .str p y
   . exact .str q y
 . simpa using h
theorem Qla {i:Str}{Q:MV->St->Prop}(h:Q (.bool true) σ):Qb0 C (.builtin "isinstance") [.str i,.oth (.type "str")] σ Q :=
 Qfo (b:=true) (λs H v hv Q' hq=>by obtain ⟨t,rfl⟩:=hv;exact IsiPair.str_str (hq s.toks)) h
theorem Qml {bs:List Bool}{vs:List Value}(h:VsR (bs.map MV.bool) vs){i:Nat}{v:Value}(e:vs[i]? = some v):∃b,bs[i]? = some b/\v=.bool b:=by
 refine smG λH_ k_=>?_
 obtain ⟨m,hm,hv⟩:=h.getv e
 refine k_ ?_
 clear k_ H_
 rw [Qaa] at hm
 refine smG λH_ k_=>?_
 obtain ⟨b,hb,rfl⟩:=Qad.mp hm
 refine k_ ?_
 clear k_ H_
 exact ⟨b,hb,hv⟩
theorem Qrr {a:Addr}{bs:List Bool}{Q:MV->St->Prop}(F:Fx C hb prog w sc n md fl)(hh:Has σ a (.list (bs.map MV.bool)))(h:Q (.bool (bs.all id)) σ):Qb0 C (.builtin "all") [.ref a] σ Q:=λvs hvs s H=>by
 refine smG λH_ k_=>?_
 obtain ⟨v,rfl,hv⟩:=hvs.one
 refine k_ ?_
 clear k_ H_
 obtain rfl:v=.ref a:=hv
 refine smG λH_ k_=>?_
 obtain ⟨⟨vs⟩,nn,hob,hr,hlim⟩:=H.has hh
 refine k_ ?_
 clear k_ H_
 have hlt:a<s.heap.objs.size:=Heap.lt_size hob
 have hl:s.heap.IsList a vs.toArray:=⟨_,hob,rfl,nn,rfl⟩
 refine call_all_walk (wpAny_pyIter_list hl ?_)
 refine ⟨s.heap.objs.size,[s.heap.objs.size,a],[s.heap.objs.size],vs.toArray.size,_,_,λi=>(bs[i]?).getD true,rfl,Walks.list (A:=C.A.in1) F.ok.handled _ a (Qw5 hlt) vs.toArray,⟨⟨_,Heap.get?_push_size _ rfl,rfl,rfl⟩,hl.push _⟩,λi v s' Q' E' hP hQ=>?_,λh' tk hk=>?_⟩
 . refine smG λH_ k_=>?_
   obtain ⟨b,e,rfl⟩:=Qml hr (i:=i) (v:=v) (by simpa using hP)
   refine k_ ?_
   clear k_ H_
   simp only [e,Qxd] at hQ
   exact wpAny_truthy_bool hQ
 . have e:((List.range vs.toArray.size).all λi=>(bs[i]?).getD true)=bs.all id:=by
     have:=hr.length
     simp only [Qab] at this
     rw [Qy4,<-this];exact PyProof.Rows.LSm.range_all bs
   rw [e]
   exact ⟨.bool _,σ,rfl,H.ext (PyProof.Rows.LSm.kept_iter hk) rfl rfl,h⟩
theorem Qrq {a:Addr}{bs:List Bool}{Q:MV->St->Prop}(F:Fx C hb prog w sc n md fl)(hh:Has σ a (.list (bs.map MV.bool)))(h:Q (.bool (bs.any id)) σ):Qb0 C (.builtin "any") [.ref a] σ Q:=λvs hvs s H=>by
 refine smG λH_ k_=>?_
 obtain ⟨v,rfl,hv⟩:=hvs.one
 refine k_ ?_
 clear k_ H_
 obtain rfl:v=.ref a:=hv
 refine smG λH_ k_=>?_
 obtain ⟨⟨vs⟩,nn,hob,hr,hlim⟩:=H.has hh
 refine k_ ?_
 clear k_ H_
 have hlt:a<s.heap.objs.size:=Heap.lt_size hob
 have hl:s.heap.IsList a vs.toArray:=⟨_,hob,rfl,nn,rfl⟩
 refine call_any_walk (wpAny_pyIter_list hl ?_)
 refine ⟨s.heap.objs.size,[s.heap.objs.size,a],[s.heap.objs.size],vs.toArray.size,_,_,λi=>(bs[i]?).getD false,rfl,Walks.list (A:=C.A.in1) F.ok.handled _ a (Qw5 hlt) vs.toArray,⟨⟨_,Heap.get?_push_size _ rfl,rfl,rfl⟩,hl.push _⟩,λi v s' Q' E' hP hQ=>?_,λh' tk hk=>?_⟩
 . refine smG λH_ k_=>?_
   obtain ⟨b,e,rfl⟩:=Qml hr (i:=i) (v:=v) (by simpa using hP)
   refine k_ ?_
   clear k_ H_
   simp only [e,Qxd] at hQ
   exact wpAny_truthy_bool hQ
 . have e:((List.range vs.toArray.size).any λi=>(bs[i]?).getD false)=bs.any id:=by
     have:=hr.length
     simp only [Qab] at this
     rw [Qy4,<-this];exact PyProof.Rows.LSm.range_any bs
   rw [e]
   exact ⟨.bool _,σ,rfl,H.ext (PyProof.Rows.LSm.kept_iter hk) rfl rfl,h⟩
theorem Qs8 {o e:Expr}{apos pos:Pos}{Q:MV->St->Prop}(F:Fx C hb prog w sc n md fl)(hbase:attributeBase o "count" C.env (eval o C.env)=eval o C.env)(hline:(apos.endLine == pos.line)=true)
   (he:backTo pos (starEach [e] C.env)=[(false,eval e C.env)])
   (h:Ex C o σ (λov σ₁=>∃a xs,ov=.ref a/\Has σ₁ a (.list xs)/\Ex C e σ₁ (λv σ₂=>∃(k:Int) (ns:List Int),v=.int k/\Has σ₂ a (.list (ns.map MV.int))/\Q (.int (ns.count k:Nat)) σ₂))) :
   Ex C (.Call (.Attribute o "count" apos) [e] [] pos) σ Q:=λs H=>by
 refine wpAny_Call_method hbase (by rw [he];rfl) hline PySem.F.plainAttrs_list PySem.F.slot_list_count PySem.F.type_list_count (wpAny_mono (h s H) (λvo s₁ hpat=>?_) λu_ u_ x=>x)
 refine smG λH_ k_=>?_
 obtain ⟨ov,σ₁,ho,H₁,a,xs,e1,hh,h₁⟩:=hpat
 refine k_ ?_
 clear k_ H_
 subst e1
 obtain rfl:vo=.ref a:=ho
 refine smG λH_ k_=>?_
 obtain ⟨vs,nn,hob,hr,hlim⟩:=H₁.has hh
 refine k_ ?_
 clear k_ H_
 refine ⟨⟨_,hob,rfl⟩,λb e'=>by cases e';exact ⟨_,hob,rfl⟩,?_⟩
 rw [he]
 refine P.count_list (wpAny_mono (h₁ s₁ H₁) (λv s₂ hpat=>?_) λu_ u_ x=>x)
 refine smG λH_ k_=>?_
 obtain ⟨m,σ₂,hv,H₂,k,ns,rfl,hh2,hq⟩:=hpat
 refine k_ ?_
 clear k_ H_
 refine smG λH_ k_=>?_
 obtain ⟨t,rfl⟩:=hv
 refine k_ ?_
 clear k_ H_
 refine smG λH_ k_=>?_
 obtain ⟨⟨vs'⟩,n',hob',hr',hlim'⟩:=H₂.has hh2
 refine k_ ?_
 clear k_ H_
 have hI:=Qh6 hr'
 refine ⟨⟨vs'⟩,n',PyProof.Rows.isInt k,hob',λy hy=>PyProof.Rows.eq_isInt k t hI y (by simpa using hy),.int (ns.count k:Nat),σ₂,⟨s₂.toks,?_⟩,H₂.toks _,hq⟩
 . rw [show (Array.mk vs').toList=vs' from rfl,PyProof.Rows.countP_isInt k hI]
theorem Qno {value up:Expr}{p pos:Pos}{Q:MV->St->Prop}(F:Fx C hb prog w sc n md fl)(ht:∀o r,letTemporaryGo value o r=pure ())
   (h:Ex C value σ (λov σ₁=>Ex C up σ₁ (λvu σ₂=>∃(a:Addr) (ms:List MV) (b:Nat),ov=.ref a/\vu=.int b/\Has σ₂ a (.tup ms)/\b<ms.length/\∀d,Fsh md σ₂ d->Q (.ref d) { σ₂ with own:=(d,.tup (ms.take b))::σ₂.own }))):Ex C (.Subscript value (.Slice none (some up) none p) pos) σ Q:=λs H=>by
 refine Qc7 (wpAny_mono (h s H) (λvo s₁ hpat=>?_) λu_ u_ x=>x) ht
 refine smG λH_ k_=>?_
 obtain ⟨ov,σ₁,ho,H₁,h₁⟩:=hpat
 refine k_ ?_
 clear k_ H_
 refine wpAny_mono (h₁ s₁ H₁) (λvu s₂ hpat=>?_) λu_ u_ x=>x
 refine smG λH_ k_=>?_
 obtain ⟨vu',σ₂,hu,H₂,a,ms,b,e1,e2,hh,hb2,hq⟩:=hpat
 refine k_ ?_
 clear k_ H_
 subst e1 e2
 obtain rfl:vo=.ref a:=ho
 refine smG λH_ k_=>?_
 obtain ⟨t,rfl⟩:=hu
 refine k_ ?_
 clear k_ H_
 refine smG λH_ k_=>?_
 obtain ⟨vs,nn,hob,hr,hlim⟩:=H₂.has hh
 refine k_ ?_
 clear k_ H_
 have hsz:vs.size=ms.length:=by have:=hr.length;simp at this;exact this.symm
 refine ⟨a,vs,b,t,rfl,rfl,⟨_,hob,rfl,nn,rfl⟩,by rw [hsz];exact Qdg hlim Qdv,by exact om123 ‹_› ‹_›,.ref _,_,rfl,H₂.newAt (a:=s₂.heap.objs.size+1) (mo:=.tup (ms.take b)) (Qyt _) (λb o e=>Heap.get?_push_of_some _ (Heap.get?_push_of_some _ e)) rfl rfl ⟨(vs.toList.take b).toArray,0,?_,?_,?_⟩,hq _ (F.emod ▸ H₂.fshAt F.ok (Qyt _))⟩
 . have e1:=Heap.get?_push_size (s₂.heap.push { cls:=.type "slice",data:=.fields #[.none,.int b t,.none] }) (o:={ cls:=.type "tuple",data:=.seq (vs.toList.take b).toArray }) rfl
   rw [Heap.size_push] at e1
   exact e1
 . exact hr.take b
 . rw [Qww];exact om293 ‹_› ‹_› ‹_›
theorem Qly {a b:Addr}{kvs:KV}{Q:MV->St->Prop}(F:Fx C hb prog w sc n md fl)(ha:Has σ a (.dict kvs))(hb':Has σ b (.dict []))(h:Q (.bool (decide (kvs=[]))) σ):Cmp C .Eq (.ref a) (.ref b) σ Q:=λva vb hva hvb s H=>by
 obtain rfl:va=_:=hva
 obtain rfl:vb=_:=hvb
 refine smG λH_ k_=>?_
 obtain ⟨hms,vk,⟨p0,w0,hdo⟩,hkv,hlim⟩:=H.has ha
 refine k_ ?_
 clear k_ H_
 refine smG λH_ k_=>?_
 obtain ⟨hms',vk',⟨p0',w0',hdo'⟩,hkv',hlim'⟩:=H.has hb'
 refine k_ ?_
 clear k_ H_
 have e2:vk'=[]:=by have:=hkv'.length;cases vk' with | nil=>rfl | cons _ _=>simp at this
 subst e2
 have hl:=hkv.length
 refine PySem.W.keq_eq (knd:=Qbj C.prog C.w) (r:=true) hms hms' (Qaw (p':=C.prog) (w':=C.w) hdo) (Qaw (p':=C.prog) (w':=C.w) hdo') (by have:=F.ok.units;exact om294 ‹_›) (λe=>?_) ⟨.bool (decide (kvs=[])),σ,?_,H,h⟩
 . have:vk=[]:=by cases vk with | nil=>rfl | cons _ _=>simp at e
   subst this;exact .nil
 . show Value.bool _=_
   congr 1
   cases kvs with
   | nil=>cases vk with | nil=>rfl | cons _ _=>simp at hl
   | cons _ _=>cases vk with | nil=>simp at hl | cons _ _=>rfl
end
end
open PySem
section
variable {C:Cx} {hb:Heap} {prog:Program} {w:World} {sc cs:Scope} {n:Nat} {md:List Addr} {fl:Bool} {σ:St}
theorem Qol {l l₁ l₂ l₃:Loc}{xi x:Str}{i m:MV}(h1:capt cs l=l₁)(h2:put l₁ xi i=l₂)(h3:put l₂ x m=l₃):put (put (capt cs l) xi i) x m=l₃:=by rw [h1,h2];exact h3
theorem Qjj {a:Addr}{kvs:KV}{Q:MV->St->Prop}(hh:Has σ a (.dict kvs))(h:Q (.int kvs.length) σ):Qb0 C (.builtin "len") [.ref a] σ Q:=λvs hvs s H=>by
 refine smG λH_ k_=>?_
 obtain ⟨v,rfl,hv⟩:=hvs.one
 refine k_ ?_
 clear k_ H_
 obtain rfl:v=.ref a:=hv
 refine smG λH_ k_=>?_
 obtain ⟨hms,vk,⟨p0,w0,hdo⟩,hkv,hlim⟩:=H.has hh
 refine k_ ?_
 clear k_ H_
 have hl:=hkv.length
 refine call_len_dict (knd:=Qbj C.prog C.w) hms (Qaw (p':=C.prog) (w':=C.w) hdo) (by rw [<-hl];exact Qe9 hlim) ⟨.int kvs.length,σ,?_,H.toks _,h⟩
 rw [hl];exact ⟨_,rfl⟩
theorem Qk1 (OK:C.Ok hb){s:Shared}(H:Holds C σ s){a:Int}{k:Nat}(ha:0<=a/\a<=1000/\k<=1000){r:Addr}{t u v:Tok}(hr:IsRange s.heap r a (a+(k:Nat)) 1 t u v){Q:Value->Shared->Prop}{E:Value->Shared->Prop}
   (h:∀I fp wr P St s₂,Qtt C σ ((List.range k).map λ(i:Nat)=>MV.int (a+(i:Nat))) I fp wr P St s₂->Q (.ref I) s₂):wpAny (model C.prog C.w) C.A (pyIter (.ref r)) Q E s:=by
 refine smG λH_ k_=>?_
 obtain ⟨f1,f2,f3,f4⟩:=Qb4 H
 refine k_ ?_
 clear k_ H_
 refine wpAny_pyIter_range hr (small_one (by omega) (by omega) (by omega) (by omega)) (h s.heap.objs.size [s.heap.objs.size] [s.heap.objs.size] (λi v=>i<k/\∃t,v=.int (a+i*1) t) (λi h=>IsRangeIter h s.heap.objs.size (a+(i:Nat)*1) ((k:Int)-(i:Nat)) 1) _ ?_)
 have W:=Walks.range (prog:=C.prog) (w:=C.w) (A:=C.A) OK.handled s.heap.objs.size a 1 k
 refine { walks:=?_,st:=?_,item:=λi u hu=>?_,holds:=H.push _,apart:=?_,alive:=?_,noB:=?_,noK:=?_,noAl:=?_,stays:=?_ }
 . rw [Qab,Qxx]
   exact { sub:=W.sub,frame:=W.frame,done:=W.done,self:=W.self,item:=λi s Q E hi st hQ=>W.item i s Q E hi st λv h' tk hP hs hk=>hQ v h' tk ⟨hi,hP⟩ hs hk }
 . have e:Builtin.Range.rangeSize a (a+(k:Nat)) 1=(k:Int):=by rw [rangeSize_one];split <;> (first | exact om299 | exact om300 ‹_› ‹_›)
   rw [e];simp;exact Heap.get?_push_size _ rfl
 . refine smG λH_ k_=>?_
   obtain ⟨hi,t,rfl⟩:=hu
   refine k_ ?_
   clear k_ H_
   refine ⟨.int (a+i),?_,t,by simp⟩
   simp [hi]
 . refine all1 ?_
   exact f1
 . refine all1 ?_
   exact ⟨_,Heap.get?_push_size _ rfl⟩
 . refine all1 ?_
   exact f2
 . refine all1 ?_
   exact f3
 . refine all1 ?_
   exact f4
 . intro i h' st
   refine all1 ?_
   exact ⟨_,st⟩
inductive ForPR (hb:Heap)(prog:Program)(w:World)(sc:Scope)(n:Nat)(md:List Addr)(fl:Bool)(x:Str)(body orelse:List Stmt)(Q:MF->St->Prop)(vs:List MV)(σ₁:St):Prop
 | mk (a:Int) (k:Nat) (J:Nat->St->Prop) (e1:vs=[.int a,.int (a+(k:Nat))]) (hr:0<=a/\a<=1000/\k<=1000) (h0:Tn md (J 0) σ₁) (turn:∀C',Fx C' hb prog w sc n md fl->∀(i:Nat) σ',J i σ'->i<k->Qb6 C' x (.int (a+(i:Nat))) σ' (Qv4 C' body (Qsx md (J (i+1)) Q))) (fin:∀C',Fx C' hb prog w sc n md fl->∀σ',J k σ'->Sts C' orelse σ' Q):ForPR hb prog w sc n md fl x body orelse Q vs σ₁
theorem Qs1 {x:Str}{px pf pos pos':Pos}{ea eb:Expr}{body orelse:List Stmt}{Q:MF->St->Prop}(F:Fx C hb prog w sc n md fl)(g:Gl hb "range" (.oth (.type "range")))(hk:sc.names.lookup (Qa "range")=some .globalImplicit)
   (he:starEach [ea,eb] C.env=(false,eval ea C.env)::starEach [eb] C.env) (hplain:(backTo pos' (starEach [ea,eb] C.env)).any (·.1)=false) (hs:∀v,foldedSetIterable (.Call (.Name (Qa "range") pf) [ea,eb] [] pos') C.env v=pure v)
   (h:Exs C pos' [ea,eb] σ (ForPR hb prog w sc n md fl x body orelse Q)):Stm C (.For (.Name x px) (.Call (.Name (Qa "range") pf) [ea,eb] [] pos') body orelse pos) σ Q:=λs H=>by
 refine wpAny_For (hs:=hs) ?_
 refine Qfl F.ok g (F.kind hk) he hplain h (λms σ₁ vs s₁ hR hvs H₁=>?_) H
 refine smG λH_ k_=>?_
 obtain ⟨a,k,J,rfl,ha,J0,turn0,fin0⟩:=hR
 refine k_ ?_
 clear k_ H_
 refine smG λH_ k_=>?_
 obtain ⟨v1,v2,rfl,⟨t1,rfl⟩,⟨t2,rfl⟩⟩:=hvs.two
 refine k_ ?_
 clear k_ H_
 refine call_range_2 ?_
 have turn:∀C',Fx C' hb prog w sc n md fl->∀(i:Nat) σ',Tn md (J i) σ'->i<k->Qb6 C' x (.int (a+(i:Nat))) σ' (λσ₂=>Sts C' body σ₂ (λf σ₃=>match f with | .next=>Tn md (J (i+1)) σ₃ | .ret v=>Q (.ret v) σ₃)):=by
   intro C' F' i σ' ⟨σ₀,c,hJ⟩ hm
   exact Qcx F' c (turn0 C' F' i σ₀ hJ hm)
 have fin:∀C',Fx C' hb prog w sc n md fl->∀σ',Tn md (J k) σ'->Sts C' orelse σ' Q:=by
   intro C' F' σ' ⟨σ₀,c,hJ⟩
   exact Qkd F' c (fin0 C' F' σ₀ hJ)
 clear turn0 fin0
 generalize hJ':(λi=>Tn md (J i))=J' at *
 have hJe:∀i,Tn md (J i)=J' i:=λi=>by rw [<-hJ']
 simp only [hJe] at turn fin J0
 refine Qk1 F.ok ((H₁.push _).toks _) ha (r:=s₁.heap.objs.size) (IsRange.new ..) λI fp wr P St s₂ W=>?_
 have wsub:=W.walks.sub
 have hlen:((List.range k).map λ(i:Nat)=>MV.int (a+(i:Nat))).length=k:=by simp
 refine codeAny_forLoop (FI C k J' fp wr St)
   (λkk s hpat=>?_) (k+1) ⟨0,σ₁,rfl,Qwv _,J0,W.holds,W.st,W.apart,W.alive,W.noB⟩
 refine smG λH_ k_=>?_
 obtain ⟨i,σ',hkk,hi,hJ,H',hst,hap,hal,hnb⟩:=hpat
 refine k_ ?_
 clear k_ H_
 have apw:∀a∈wr,a∉σ'.own.map (·.1)++C.fr:=λa ha=>hap a (wsub a ha)
 by_cases hlt:i<k
 . refine W.walks.item i s _ _ (by rw [hlen];exact hlt) hst λu h' tk hP hst' hk'=>?_
   refine smG λH_ k_=>?_
   obtain ⟨m,hm,hr⟩:=W.item i u hP
   refine k_ ?_
   clear k_ H_
   obtain rfl:m=.int (a+(i:Nat)):=by
     rw [Qaa] at hm
     refine smG λH_ k_=>?_
     obtain ⟨j,hj,rfl⟩:=Qad.mp hm
     refine k_ ?_
     clear k_ H_
     refine smG λH_ k_=>?_
     obtain ⟨u_,e⟩:=Qck.mp hj
     refine k_ ?_
     clear k_ H_
     rw [Qzx] at e
     rw [e]
   have H₂:Holds C σ' { s with heap:=h',toks:=tk }:=H'.hidden F.ok hk' rfl rfl apw hnb W.noK W.noAl
   have hal':∀a∈fp,∃o,h'.get? a=some o:=λa ha=>by
     by_cases hw:a∈wr
     . exact W.stays _ _ hst' a hw
     . obtain ⟨o,ho⟩:=hal a ha;exact ⟨o,hk' a o hw ho⟩
   have H₃:=H₂.hide (X:=fp) (wr:=wr) hap hnb
   have F':Fx (C.hide h' fp wr) hb prog w sc n md fl:=F.hide (λa ha hf=>hap a ha (Qbv _ hf)) λa ha=>⟨wsub a ha,hal' a (wsub a ha)⟩
   refine wpAny_assign_Name (wpAny_mono (turn _ F' i σ' hJ hlt u hr _ H₃) (λu_ s₃ hpat=>?_) λu_ u_ x=>x.elim)
   refine smG λH_ k_=>?_
   obtain ⟨u_,σ₃,u_,H₃',h₃⟩:=hpat
   refine k_ ?_
   clear k_ H_
   refine wpAny_mono (h₃ s₃ H₃') (λf s₄ hpat=>?_) λu_ u_ x=>x.elim
   refine smG λH_ k_=>?_
   obtain ⟨mf,σ₄,hf,H₄,h₄⟩:=hpat
   refine k_ ?_
   clear k_ H_
   cases mf with
   | next =>
     obtain rfl:f=.next:=hf
     have kept:∀a∈fp,∀o,h'.get? a=some o->s₄.heap.get? a=some o:=λa ha o ho=>H₄.kp a o (.inr ⟨ha,ho⟩)
     refine ⟨k+1-(i+1),by rw [hkk];exact Qxh (Qw4 hlt) (Qxc i),i+1,σ₄,rfl,hlt,h₄,H₄.unhide,W.walks.frame _ _ _ hst' kept,λa ha hm'=>?_,λa ha=>?_,λa ha=>H₄.noB a (.inr ha)⟩
     . obtain ⟨o,ho⟩:=hal' a ha;exact H₄.apartK a hm' o (.inr ⟨ha,ho⟩)
     . obtain ⟨o,ho⟩:=hal' a ha;exact ⟨o,kept a ha o ho⟩
   | ret v =>
     refine smG λH_ k_=>?_
     obtain ⟨vv,rfl,hv'⟩:=hf
     refine k_ ?_
     clear k_ H_
     exact ⟨.ret v,σ₄,⟨vv,rfl,hv'⟩,H₄.unhide,h₄⟩
 . have hin:i=k:=Qxn hi (Qyb.mp hlt)
   subst hin
   refine W.walks.done s _ _ (by rw [hlen];exact hst) λh' tk hk'=>?_
   have H₂:Holds C σ' { s with heap:=h',toks:=tk }:=H'.hidden F.ok hk' rfl rfl apw hnb W.noK W.noAl
   exact wpAny_mono (fin C F σ' hJ _ H₂) (λf s₃ ⟨mf,σ₃,hf,H₃,h₃⟩=>⟨mf,σ₃,hf,H₃,h₃⟩) λu_ u_ x=>x.elim
end
local macro_rules | `(tactic| walk_at "m cexE") => `(tactic| ((first | with_reducible refine' Ex_le ?a ?_ | with_reducible refine' Ts_le ?a ?_); (case a => refine' Qol ?a ?b ?c; (case a => walk_at "m capt"); (case b => walk_at "m put"); (case c => walk_at "m put"))))
section
section
variable {G:Int->Int->Prop}
abbrev RS (G:Int->Int->Prop)(S:List Int)(a b:Int):Prop:=Rch G (·∈S) a b
abbrev Live (G:Int->Int->Prop)(x:Int):Prop:=Rch G (λu_=>True) 0 x
abbrev Rv (G:Int->Int->Prop)(S:List Int)(x:Int):Prop:=0∉S/\Rch G (·∉S) 0 x
noncomputable def mutS (G:Int->Int->Prop)(S:List Int)(a b:Int):Prop:=RS G S a b/\RS G S b a
theorem Rch.front {E:Int->Int->Prop}{ok:Int->Prop}{a b c:Int}(e:E a b)(o:ok b)(h:Rch E ok b c):Rch E ok a c:=(Rch.step .refl e o).trans h
theorem Rch.weak {E:Int->Int->Prop}{ok ok':Int->Prop}(h:∀b,ok b->ok' b){a b:Int}(r:Rch E ok a b):Rch E ok' a b:=r.mono λu_ b e o=>⟨e,h b o⟩
theorem Live.step {x y:Int}(h:Live G x)(e:G x y):Live G y:=Rch.step h e trivial
theorem Rch.live {ok:Int->Prop}{x y:Int}(hx:Live G x)(h:Rch G ok x y):Live G y:=hx.trans (h.weak λu_ u_=>trivial)
structure IsRing (G:Int->Int->Prop)(S R:List Int):Prop where
 one:∃a∈S,∀x,x∈R↔x∈S/\mutS G S a x
theorem IsRing.sub {S R:List Int}(h:IsRing G S R){x:Int}(hx:x∈R):x∈S:=let ⟨a,_,h'⟩:=h.one;((h' x).mp hx).1
theorem IsRing.mut {S R:List Int}(h:IsRing G S R){x y:Int}(hx:x∈R)(hy:y∈R):RS G S x y:=let ⟨a,_,h'⟩:=h.one;(((h' x).mp hx).2.2).trans ((h' y).mp hy).2.1
theorem IsRing.mem {S R:List Int}(h:IsRing G S R){x y:Int}(hx:x∈R)(hy:y∈S)(h1:RS G S x y)(h2:RS G S y x):y∈R:=by
 obtain ⟨a,u_,h'⟩:=h.one
 have:=(h' x).mp hx
 exact (h' y).mpr ⟨hy,this.2.1.trans h1,h2.trans this.2.2⟩
theorem IsRing.inside {S R:List Int}(h:IsRing G S R){x y:Int}(hx:x∈R)(hy:y∈R):Rch G (·∈R) x y:=by
 have:∀z,RS G S x z->RS G S z y->z∈S->Rch G (·∈R) x z:=by
   intro z hz
   induction hz with
   | refl=>intro _ _;exact .refl
   | @step a b hxa e o ih =>
     intro hby hbS
     have hb:b∈R:=h.mem hx hbS (.step hxa e o) (hby.trans (h.mut hy hx))
     by_cases ha:a∈S
     . exact .step (ih (hby.front e o) ha) e hb
     . cases hxa with
       | refl=>exact absurd (h.sub hx) ha
       | step _ _ o'=>exact absurd o' ha
 exact this y (h.mut hx hy) .refl (h.sub hy)
structure IsIns (G:Int->Int->Prop)(R ins:List Int):Prop where
 mem:∀x,x∈ins↔x∈R/\((∃y,Live G y/\y∉R/\G y x)\/x=0)
theorem Qmh {R ins:List Int}(I:IsIns G R ins){ok:Int->Prop}{y:Int}(h:Rch G ok 0 y):(0∉R/\Rch G (λb=>ok b/\b∉R) 0 y)\/∃z∈ins,(0∈R->0=z)/\Rch G (λb=>ok b/\(b∈R->b=z)) 0 z:=by
 induction h with
 | refl =>
   by_cases h0:(0:Int)∈R
   . exact .inr ⟨0,(I.mem 0).mpr ⟨h0,.inr rfl⟩,λu_=>rfl,.refl⟩
   . exact .inl ⟨h0,.refl⟩
 | @step a b _ e o ih =>
   rcases ih with ⟨h0,hr⟩ | h
   . by_cases hb:b∈R
     . right
       have ha:a∉R:=by
         cases hr with
         | refl=>exact h0
         | step _ _ o'=>exact o'.2
       refine ⟨b,(I.mem b).mpr ⟨hb,.inl ⟨a,(hr.weak λu_ u_=>trivial),ha,e⟩⟩,λh=>absurd h h0,.step (hr.weak λc hc=>⟨hc.1,λh=>absurd h hc.2⟩) e ⟨o,λu_=>rfl⟩⟩
     . exact .inl ⟨h0,.step hr e ⟨o,hb⟩⟩
   . exact .inr h
theorem IsIns.some {R ins:List Int}(I:IsIns G R ins){x:Int}(hx:x∈R)(hl:Live G x):∃z∈ins,(0∈R->0=z)/\Rch G (λb=>b∈R->b=z) 0 z:=by
 rcases Qmh I hl with ⟨h0,hr⟩ | ⟨z,h1,h2,h3⟩
 . cases hr with
   | refl=>exact absurd hx h0
   | step _ _ o=>exact absurd hx o.2
 . exact ⟨z,h1,h2,h3.weak λu_ h=>h.2⟩
theorem IsIns.one {R ins:List Int}(I:IsIns G R ins)(hl1:ins.length<=1){x:Int}(hx:x∈R)(hl:Live G x):∃e,ins=[e]:=by
 obtain ⟨z,hz,u_⟩:=I.some hx hl
 match ins,hl1,hz with
 | [e],_,_=>exact ⟨e,rfl⟩
 | [],_,hz=>simp at hz
noncomputable def Phi (G:Int->Int->Prop)(S:List Int):Prop:=∀x s,Live G x->x∉S->s∈S->G x s->Rv G S x
theorem Phi.next {R ins S':List Int}(I:IsIns G R ins)(hl1:ins.length<=1)(hl:∀x∈R,Live G x)(hS:∀x,x∈S'↔x∈R/\x∉ins):Phi G S':=by
 intro x s hx hn hs e
 obtain ⟨hsR,hsi⟩:=(hS s).mp hs
 obtain ⟨e',rfl⟩:=I.one hl1 hsR (hl s hsR)
 have hxR:x∈R:=by
   refine Classical.byContradiction λh=>hsi ((I.mem s).mpr ⟨hsR,.inl ⟨x,hx,h,e⟩⟩)
 have hxe:x=e':=by
   refine Classical.byContradiction λh=>hn ((hS x).mpr ⟨hxR,by simpa using h⟩)
 subst hxe
 obtain ⟨z,hz,h0,hr⟩:=I.some hxR hx
 simp at hz;subst hz
 refine ⟨λh=>?_,hr.weak λb hb h=>?_⟩
 . have:=(hS 0).mp h
   exact this.2 (by simp [h0 this.1])
 . have:=(hS b).mp h
   exact this.2 (by simp [hb this.1])
theorem way_in {S R ins:List Int}(P:Phi G S)(hS:∀x∈S,Live G x)(K:IsRing G S R)(I:IsIns G R ins){one:Int}(h1:one∈ins):(0∈R->0=one)/\Rch G (λb=>b∈R->b=one) 0 one:=by
 obtain ⟨hoR,h⟩:=(I.mem one).mp h1
 rcases h with ⟨y,hy,hyR,e⟩ | rfl
 . have key:Rv G R y:=by
     by_cases hyS:y∈S
     ·
       have last:∀z,Live G z->z∈S->∃s,s∈S/\(s=0\/∃u,u∉S/\Live G u/\G u s)/\RS G S s z:=by
         intro z hz
         induction hz with
         | refl=>intro h;exact ⟨0,h,.inl rfl,.refl⟩
         | @step a b ha e _ ih =>
           intro hb
           by_cases haS:a∈S
           . obtain ⟨s,hs,hs2,hs3⟩:=ih haS
             exact ⟨s,hs,hs2,.step hs3 e hb⟩
           . exact ⟨b,hb,.inr ⟨a,haS,ha,e⟩,.refl⟩
       obtain ⟨s,hs,hs2,hs3⟩:=last y hy hyS
       have out:∀z,z∈S->RS G S one z->RS G S z y->z∉R:=by
         intro z hz h1 h2 hzR
         refine hyR (K.mem hzR hyS h2 ?_)
         exact (Rch.front e (K.sub hoR) .refl:RS G S y one).trans (K.mut hoR hzR)
       have out':∀z,z∈S->RS G S z y->z∉R:=λz hz h2 hzR=>out z hz (K.mut hoR hzR) h2 hzR
       have walk:∀z,RS G S s z->z∈S->RS G S z y->Rv G R z:=by
         intro z hz
         induction hz with
         | refl =>
           intro u_ h
           have hsR:=out' s hs h
           rcases hs2 with rfl | ⟨u,hu,hul,eu⟩
           . exact ⟨hsR,.refl⟩
           . have:=P u s hul hu hs eu
             exact ⟨λh=>this.1 (K.sub h),.step (this.2.weak λb hb h=>hb (K.sub h)) eu hsR⟩
         | @step a b ha e o ih =>
           intro hb h
           have haS:a∈S:=by
             cases ha with
             | refl=>exact hs
             | step _ _ o'=>exact o'
           have hr:=ih haS (h.front e o)
           exact ⟨hr.1,.step hr.2 e (out' b hb h)⟩
       exact walk y hs3 hyS .refl
     . have:=P y one hy hyS (K.sub hoR) e
       exact ⟨λh=>this.1 (K.sub h),this.2.weak λb hb h=>hb (K.sub h)⟩
   exact ⟨λh=>absurd h key.1,.step (key.2.weak λb hb h=>absurd h hb) e λu_=>rfl⟩
 . exact ⟨λu_=>rfl,.refl⟩
noncomputable def fw (G:Int->Int->Prop)(u v:Int):Prop:=G u v/\Rv G [v] u
inductive Pl (G:Int->Int->Prop)(S:List Int)(a:Int):Int->Prop
 | one {b:Int}:fw G a b->b∈S->Pl G S a b
 | step {b c:Int}:Pl G S a b->fw G b c->c∈S->Pl G S a c
noncomputable def Cyc (G:Int->Int->Prop)(S:List Int):Prop:=∃x∈S,Pl G S x x
theorem Pl.rs {S:List Int}{a b:Int}(h:Pl G S a b):RS G S a b:=by
 induction h with
 | one e o=>exact .step .refl e.1 o
 | step _ e o ih=>exact .step ih e.1 o
theorem Qvd {u v:Int}(h:fw G u v):u≠v:=λe=>by
 subst e
 have:=h.2
 cases this.2 with
 | refl=>exact this.1 (by simp)
 | step _ _ o=>exact o (by simp)
theorem Cyc.ring {S:List Int}{rings:List (List Int)}(h:Cyc G S)(hr:∀a∈S,∀b∈S,a≠b->mutS G S a b->∃R∈rings,IsRing G S R/\a∈R):∃R∈rings,Cyc G R:=by
 obtain ⟨x,hx,hp⟩:=h
 have hnx:∃y,y∈S/\x≠y/\mutS G S x y:=by
   have:∀z,Pl G S x z->RS G S z x->∃y,y∈S/\x≠y/\mutS G S x y:=by
     intro z hz
     induction hz with
     | one e o=>intro h;exact ⟨_,o,Qvd e,.step .refl e.1 o,h⟩
     | step h e o ih=>intro h';exact ih (h'.front e.1 o)
   exact this x hp .refl
 obtain ⟨y,hy,hne,hm⟩:=hnx
 obtain ⟨R,hR,K,hxR⟩:=hr x hx y hy hne hm
 refine ⟨R,hR,x,hxR,?_⟩
 have:∀z,Pl G S x z->RS G S z x->Pl G R x z:=by
   intro z hz
   induction hz with
   | one e o=>intro h;exact .one e (K.mem hxR o (.step .refl e.1 o) h)
   | step h e o ih=>intro h';exact .step (ih (h'.front e.1 o)) e (K.mem hxR o (.step h.rs e.1 o) h')
 exact this x hp .refl
theorem Cyc.next {R ins S':List Int}(I:IsIns G R ins)(hl1:ins.length<=1)(hl:∀x∈R,Live G x)(hS:∀x,x∈S'↔x∈R/\x∉ins)(h:Cyc G R):Cyc G S':=by
 obtain ⟨x,hx,hp⟩:=h
 obtain ⟨e,rfl⟩:=I.one hl1 hx (hl x hx)
 have no:∀u,u∈R->¬fw G u e:=by
   intro u hu hf
   rcases Qmh I hf.2.2 with ⟨h0,hr⟩ | ⟨z,hz,h0,hr⟩
   . cases hr with
     | refl=>exact h0 hu
     | step _ _ o=>exact o.2 hu
   . simp at hz;subst hz
     cases hr with
     | refl=>exact hf.2.1 (by simp)
     | step _ _ o=>exact o.1 (by simp)
 have:∀z,Pl G R x z->Pl G S' x z:=by
   intro z hz
   induction hz with
   | one f o=>exact .one f ((hS _).mpr ⟨o,by simp;rintro rfl;exact no x hx f⟩)
   | @step b c h f o ih =>
     have hb:b∈R:=by cases h with | one _ o=>exact o | step _ _ o=>exact o
     exact .step ih f ((hS _).mpr ⟨o,by simp;rintro rfl;exact no b hb f⟩)
 have hp':=this x hp
 have hx':x∈S':=by cases hp' with | one _ o=>exact o | step _ _ o=>exact o
 exact ⟨x,hx',hp'⟩
end
theorem Qbs:∀(l S:List Int),l.Nodup->(∀x∈l,x∈S)->l.length<=S.length
 | [],_,_,_=>by simp
 | a::l,S,hn,h=>by
   have ha:=h a Qwm
   have hn':=Qnn.mp hn
   have:=Qbs l (S.erase a) hn'.2 λx hx=>by
     refine (List.mem_erase_of_ne ?_).mpr (h x (Qdx _ hx))
     rintro rfl;exact hn'.1 hx
   have h2:=List.length_erase_of_mem ha
   have h3:0<S.length:=Qya ha
   simp;exact om674 ‹_› ‹_› ‹_›
end
section
theorem Qt6 {l:List Int}{a b:Int}(ha:a∈l)(hb:b∈l)(h:a≠b):2<=l.length:=by
 match l,ha,hb with
 | [],ha,_=>simp at ha
 | [c],ha,hb=>simp at ha hb;exact absurd (ha.trans hb.symm) h
 | _::_::_,_,_=>simp
section
variable {G:Int->Int->Prop}
structure Rings (G:Int->Int->Prop)(S:List Int)(RL:List (List Int)):Prop where
 ring:∀R∈RL,IsRing G S R/\2<=R.length/\R.Nodup
 nd:RL.flatten.Nodup
 all:∀a∈S,∀b∈S,a≠b->mutS G S a b->∃R∈RL,IsRing G S R/\a∈R
structure RI (G:Int->Int->Prop)(S done:List Int)(RL:List (List Int))(kn:List Int):Prop where
 ring:∀R∈RL,IsRing G S R/\2<=R.length/\R.Nodup
 nd:RL.flatten.Nodup
 kn:∀x,x∈kn↔x∈RL.flatten
 all:∀a∈done,∀b∈S,a≠b->mutS G S a b->a∈RL.flatten
theorem RI.init {S:List Int}:RI G S [] [] []:=⟨by simp,by simp,by simp,by simp⟩
theorem RI.skip {S done kn:List Int}{RL:List (List Int)}(h:RI G S done RL kn){x:Int}(hx:x∈kn\/∀b∈S,x≠b->¬mutS G S x b):RI G S (done++[x]) RL kn:=by
 refine ⟨h.ring,h.nd,h.kn,λa ha b hb hne hm=>?_⟩
 rcases Qaz.mp ha with ha | ha
 . exact h.all a ha b hb hne hm
 . obtain rfl:=Qbq.mp ha
   rcases hx with hx | hx
   . exact (h.kn a).mp hx
   . exact absurd hm (hx b hb hne)
theorem RI.add {S done kn R:List Int}{RL:List (List Int)}(h:RI G S done RL kn){x:Int}(hxS:x∈S)(hx:x∉kn)(hR:∀y,y∈R↔y∈S/\mutS G S x y)(hn:R.Nodup)(h2:2<=R.length):RI G S (done++[x]) (RL++[R]) (kn++R):=by
 have hxR:x∈R:=(hR x).mpr ⟨hxS,.refl,.refl⟩
 refine ⟨λR' hR'=>?_,?_,λy=>?_,λa ha b hb hne hm=>?_⟩
 . rcases Qaz.mp hR' with h' | h'
   . exact h.ring R' h'
   . obtain rfl:=Qbq.mp h'
     exact ⟨⟨x,hxS,hR⟩,h2,hn⟩
 . rw [Qw7,Qxt]
   refine Qdi.mpr ⟨h.nd,hn,λa ha b hb e=>?_⟩
   subst e
   obtain ⟨R',hR',haR⟩:=Qwi.mp ha
   obtain ⟨haS,hm⟩:=(hR a).mp hb
   refine hx ((h.kn x).mpr (Qwi.mpr ⟨R',hR',(h.ring R' hR').1.mem haR hxS hm.2 hm.1⟩))
 . rw [Qw7,Qxt,Qaz,Qaz,h.kn y]
 . rw [Qw7,Qxt,Qaz]
   rcases Qaz.mp ha with ha | ha
   . exact .inl (h.all a ha b hb hne hm)
   . obtain rfl:=Qbq.mp ha
     exact .inr hxR
theorem RI.rings {S done kn:List Int}{RL:List (List Int)}(h:RI G S done RL kn)(hd:∀a∈S,a∈done):Rings G S RL :=
 ⟨h.ring,h.nd,λa ha b hb hne hm=>let ⟨R,h1,h2⟩:=Qwi.mp (h.all a (hd a ha) b hb hne hm);⟨R,h1,(h.ring R h1).1,h2⟩⟩
theorem Qg3:∀{RL:List (List Int)},(∀R∈RL,2<=R.length)->RL.length<=RL.flatten.length
 | [],_=>by simp
 | R::RL,h=>by
   have h1:=h R Qwm
   have h2:=Qg3 λR' hR'=>h R' (Qdx _ hR')
   simp only [Qwo,Qwz,Qey];exact om675 ‹_› ‹_›
theorem RI.len {S done kn:List Int}{RL:List (List Int)}(h:RI G S done RL kn):RL.length<=S.length :=
 Qdg (Qg3 λR hR=>(h.ring R hR).2.1) (Qbs _ _ h.nd λx hx=>let ⟨R,h1,h2⟩:=Qwi.mp hx;(h.ring R h1).1.sub h2)
theorem Rings.len {S:List Int}{RL:List (List Int)}(h:Rings G S RL):RL.flatten.length<=S.length :=
 Qbs _ _ h.nd λx hx=>let ⟨R,h1,h2⟩:=Qwi.mp hx;(h.ring R h1).1.sub h2
theorem RI.knlen {S done kn:List Int}{RL:List (List Int)}(h:RI G S done RL kn)(hn:kn.Nodup):kn.length<=S.length :=
 Qbs _ _ hn λx hx=>let ⟨R,h1,h2⟩:=Qwi.mp ((h.kn x).mp hx);(h.ring R h1).1.sub h2
end
end
section
section
variable {G G':Int->Int->Prop}
noncomputable def RvP (G:Int->Int->Prop)(A:Int->Prop)(x:Int):Prop:=¬A 0/\Rch G (λb=>¬A b) 0 x
theorem RvP.out {A:Int->Prop}{x:Int}(h:RvP G A x):¬A x:=by
 cases h.2 with
 | refl=>exact h.1
 | step _ _ o=>exact o
theorem RvP.live {A:Int->Prop}{x:Int}(h:RvP G A x):Live G x:=h.2.weak λu_ u_=>trivial
theorem RvP.weak {A A':Int->Prop}{x:Int}(h:RvP G A x)(hA:∀b,A' b->A b):RvP G A' x:=⟨λh0=>h.1 (hA _ h0),h.2.weak λb hb hb'=>hb (hA b hb')⟩
theorem RvP.step {A:Int->Prop}{x y:Int}(h:RvP G A x)(e:G x y)(hy:¬A y):RvP G A y:=⟨h.1,.step h.2 e hy⟩
noncomputable def Dom (G:Int->Int->Prop)(d c:Int):Prop:=¬RvP G (· = d) c
theorem Dom.self (d:Int):Dom G d d:=λh=>h.out rfl
structure Ctx (G:Int->Int->Prop)(W:List (List Int))(A:Int->Prop):Prop where
 into:(∀x,Live G x->A x)\/∃h,(∀x a,Live G x->¬A x->A a->G x a->x=h)/\RvP G A h/\∀T∈W,h∉T
 lam:∀T∈W,(∀x∈T,A x)\/∀x∈T,¬A x
structure Reg (G:Int->Int->Prop)(W:List (List Int))(T:List Int)(A:Int->Prop):Prop where
 sub:∀x∈T,A x
 conv:∀a∈T,∀b∈T,∀u,Rch G A a u->Rch G A u b->u∈T
 ctx:Ctx G W A
theorem Ctx.phi {W:List (List Int)}{A:Int->Prop}(c:Ctx G W A){x a:Int}(hx:Live G x)(hn:¬A x)(ha:A a)(e:G x a):RvP G A x:=by
 rcases c.into with h | ⟨h,h1,h2,-⟩
 . exact absurd (h x hx) hn
 . obtain rfl:=h1 x a hx hn ha e;exact h2
theorem Qva {A:Int->Prop}{z:Int}(hz:Live G z)(hA:A z):∃s,A s/\(s=0\/∃u,¬A u/\Live G u/\G u s)/\Rch G A s z:=by
 induction hz with
 | refl=>exact ⟨0,hA,.inl rfl,.refl⟩
 | @step a b ha e _ ih =>
   by_cases haA:A a
   . obtain ⟨s,h1,h2,h3⟩:=ih haA
     exact ⟨s,h1,h2,.step h3 e hA⟩
   . exact ⟨b,hA,.inr ⟨a,haA,ha,e⟩,.refl⟩
theorem Reg.phi {W:List (List Int)}{T:List Int}{A:Int->Prop}(r:Reg G W T A){x s:Int}(hx:Live G x)(hn:x∉T)(hs:s∈T)(e:G x s):RvP G (·∈T) x:=by
 by_cases hA:A x
 . obtain ⟨s0,h1,h2,h3⟩:=Qva hx hA
   have out:∀z,Rch G A z x->z∉T:=λz hz hzT=>hn (r.conv z hzT s hs x hz (.step .refl e (r.sub s hs)))
   have walk:∀z,Rch G A s0 z->Rch G A z x->RvP G (·∈T) z:=by
     intro z hz
     induction hz with
     | refl =>
       intro hzx
       rcases h2 with rfl | ⟨u,hu,hul,eu⟩
       . exact ⟨out _ hzx,.refl⟩
       . exact ((r.ctx.phi hul hu h1 eu).weak λb hb=>r.sub b hb).step eu (out _ hzx)
     | step _ e' o ih =>
       intro hzx
       exact (ih (Rch.front e' o hzx)).step e' (out _ hzx)
   exact walk x h3 .refl
 . exact (r.ctx.phi hx hA (r.sub s hs) e).weak λb hb=>r.sub b hb
structure SC (G:Int->Int->Prop)(C:List Int):Prop where
 ne:∃c,c∈C
 con:∀a∈C,∀b∈C,Rch G (·∈C) a b
noncomputable def Good (G:Int->Int->Prop)(C:List Int):Prop:=∃d∈C,∀c∈C,Dom G d c
structure PI (G:Int->Int->Prop)(W:List (List Int)):Prop where
 disj:W.flatten.Nodup
 reg:∀T∈W,∃A,Reg G W T A
 good:∀C,SC G C->(∀c∈C,Live G c)->Good G C\/∃T∈W,∀c∈C,c∈T
theorem Ctx.sub {W W':List (List Int)}{A:Int->Prop}(c:Ctx G W A)(h:∀T'∈W',∃T∈W,∀x∈T',x∈T):Ctx G W' A where
 into:=c.into.imp id λ⟨a,h1,h2,h3⟩=>⟨a,h1,h2,λT' hT' ha=>let ⟨T,k1,k2⟩:=h T' hT';h3 T k1 (k2 a ha)⟩
 lam:=λT' hT'=>let ⟨T,k1,k2⟩:=h T' hT';(c.lam T k1).imp (λg x hx=>g x (k2 x hx)) λg x hx=>g x (k2 x hx)
theorem Reg.sub' {W W':List (List Int)}{T:List Int}{A:Int->Prop}(c:Reg G W T A)(h:∀T'∈W',∃T∈W,∀x∈T',x∈T):Reg G W' T A:=⟨c.sub,c.conv,c.ctx.sub h⟩
theorem PI.perm {W W':List (List Int)}(h:PI G W)(p:W.Perm W'):PI G W' where
 disj:=(p.flatten).nodup_iff.mp h.disj
 reg:=λT hT=>let ⟨A,r⟩:=h.reg T (p.mem_iff.mpr hT);⟨A,r.sub' λT' hT'=>⟨T',p.mem_iff.mpr hT',λu_ h=>h⟩⟩
 good:=λC hC hl=>(h.good C hC hl).imp id λ⟨T,h1,h2⟩=>⟨T,p.mem_iff.mp h1,h2⟩
theorem PI.init {S:List Int}(hn:S.Nodup)(hS:∀x,Live G x->x∈S):PI G [S] where
 disj:=by simpa using hn
 reg:=λT hT=>by
   obtain rfl:=Qbq.mp hT
   refine ⟨(·∈T),λx h=>h,λa ha b hb u h1 h2=>?_,.inl hS,λT' hT'=>?_⟩
   . cases h1 with
     | refl=>exact ha
     | step _ _ o=>exact o
   . obtain rfl:=Qbq.mp hT'
     exact .inl λx h=>h
 good:=λC hC hl=>.inr ⟨S,by simp,λc hc=>hS c (hl c hc)⟩
theorem Qsj {W:List (List Int)}{T:List Int}{x:Int}(h:T∈W)(hx:x∈T):x∈W.flatten:=Qwi.mpr ⟨T,h,hx⟩
theorem PI.rings {W RL:List (List Int)}{S S':List Int}(h:PI G (S::W))(hS:∀x,x∈S'↔x∈S/\Live G x)(hR:Rings G S' RL):PI G (RL++W):=by
 have hd:=h.disj
 rw [Qwz] at hd
 obtain ⟨d1,d2,d3⟩:=Qdi.mp hd
 have hsub:∀T'∈RL++W,∃T∈S::W,∀x∈T',x∈T:=by
   intro T' hT'
   rcases Qaz.mp hT' with hT' | hT'
   . exact ⟨S,by simp,λx hx=>((hS x).mp ((hR.ring T' hT').1.sub hx)).1⟩
   . exact ⟨T',Qdx _ hT',λu_ h=>h⟩
 refine ⟨?_,λT hT=>?_,λC hC hl=>?_⟩
 . rw [Qw7]
   refine Qdi.mpr ⟨hR.nd,d2,λa ha b hb e=>?_⟩
   obtain ⟨R,h1,h2⟩:=Qwi.mp ha
   exact d3 a ((hS a).mp ((hR.ring R h1).1.sub h2)).1 b hb e
 . rcases Qaz.mp hT with hT | hT
   . obtain ⟨A,r⟩:=h.reg S (by simp)
     have K:=(hR.ring T hT).1
     have inS:∀x∈T,x∈S:=λx hx=>((hS x).mp (K.sub hx)).1
     refine ⟨A,λx hx=>r.sub x (inS x hx),λa ha b hb u h1 h2=>?_,r.ctx.sub hsub⟩
     have hal:Live G a:=((hS a).mp (K.sub ha)).2
     have f1:∀z,Rch G A a z->Rch G A z b->z∈S':=λz g1 g2=>(hS z).mpr ⟨r.conv a (inS a ha) b (inS b hb) z g1 g2,Rch.live hal g1⟩
     have w1:∀z,Rch G A a z->Rch G A z b->RS G S' a z:=by
       intro z hz
       induction hz with
       | refl=>intro _;exact .refl
       | step g e o ih=>intro g2;exact .step (ih (Rch.front e o g2)) e (f1 _ (.step g e o) g2)
     have w2:∀z,Rch G A u z->Rch G A z b->RS G S' u z:=by
       intro z hz
       induction hz with
       | refl=>intro _;exact .refl
       | step g e o ih=>intro g2;exact .step (ih (Rch.front e o g2)) e (f1 _ (h1.trans (.step g e o)) g2)
     exact K.mem ha (f1 u h1 h2) (w1 u h1 h2) ((w2 b h2 .refl).trans (K.mut hb ha))
   . obtain ⟨A,r⟩:=h.reg T (Qdx _ hT)
     exact ⟨A,r.sub' hsub⟩
 . rcases h.good C hC hl with hg | ⟨T,hT,hCT⟩
   . exact .inl hg
   . rcases Qch.mp hT with rfl | hT
     . obtain ⟨a,ha⟩:=hC.ne
       by_cases h1:∃b∈C,a≠b
       . obtain ⟨b,hb,hne⟩:=h1
         have inS:∀x∈C,x∈S':=λx hx=>(hS x).mpr ⟨hCT x hx,hl x hx⟩
         have con:∀x∈C,∀y∈C,RS G S' x y:=λx hx y hy=>(hC.con x hx y hy).weak inS
         obtain ⟨R,hR1,K,haR⟩:=hR.all a (inS a ha) b (inS b hb) hne ⟨con a ha b hb,con b hb a ha⟩
         exact .inr ⟨R,Qaq _ hR1,λc hc=>K.mem haR (inS c hc) (con a ha c hc) (con c hc a ha)⟩
       . refine .inl ⟨a,ha,λc hc=>?_⟩
         obtain rfl:a=c:=Classical.byContradiction λe=>h1 ⟨c,hc,e⟩
         exact Dom.self a
     . exact .inr ⟨T,Qbv _ hT,hCT⟩
theorem Qmg {A:Int->Prop}{ok:Int->Prop}{y:Int}(h:Rch G ok 0 y)(hy:A y):(A 0/\True)\/∃u v,RvP G A u/\Rch G ok 0 u/\G u v/\A v/\ok v:=by
 by_cases h0:A 0
 . exact .inl ⟨h0,trivial⟩
 right
 have key:∀z,Rch G ok 0 z->RvP G A z\/∃u v,RvP G A u/\Rch G ok 0 u/\G u v/\A v/\ok v:=by
   intro z hz
   induction hz with
   | refl=>exact .inl ⟨h0,.refl⟩
   | @step a b ha e o ih =>
     rcases ih with ih | ih
     . by_cases hb:A b
       . exact .inr ⟨a,b,ih,ha,e,hb,o⟩
       . exact .inl (ih.step e hb)
     . exact .inr ih
 rcases key y h with hk | hk
 . exact absurd hy hk.out
 . exact hk
structure Qex (G:Int->Int->Prop)(R:List Int):Prop where
 con:∀a∈R,∀b∈R,Rch G (·∈R) a b
 live:∀x∈R,Live G x
theorem Reg.entry {W:List (List Int)}{R ins:List Int}{A:Int->Prop}(r:Reg G W R A)(I:IsIns G R ins){h:Int}(hh:h∈ins):RvP G (λx=>x∈R/\x≠h) h:=by
 obtain ⟨hR,g⟩:=(I.mem h).mp hh
 rcases g with ⟨y,hy,hyR,e⟩ | rfl
 . exact ((r.phi hy hyR hR e).weak λb hb=>hb.1).step e λhb=>hb.2 rfl
 . exact ⟨λhb=>hb.2 rfl,.refl⟩
theorem Qma {W:List (List Int)}{R rest:List Int}{h:Int}(hrest:∀x,x∈rest↔x∈R/\x≠h)(one:∀x a,Live G x->x∉rest->a∈rest->G x a->x=h)(rv:RvP G (·∈rest) h)(hhR:h∈R)
   (hW:∀T∈W,∀x∈T,x∉R):Reg G (rest::W) rest (·∈rest):=by
 refine ⟨λx hx=>hx,λa ha b hb u h1 h2=>?_,.inr ⟨h,one,rv,λT hT hT'=>?_⟩,λT hT=>?_⟩
 . cases h1 with
   | refl=>exact ha
   | step _ _ o=>exact o
 . rcases Qch.mp hT with rfl | hT
   . exact ((hrest h).mp hT').2 rfl
   . exact hW T hT h hT' hhR
 . rcases Qch.mp hT with rfl | hT
   . exact .inl λx hx=>hx
   . exact .inr λx hx hx'=>hW T hT x hx ((hrest x).mp hx').1
theorem PI.apart {W:List (List Int)}{R:List Int}(h:PI G (R::W)):R.Nodup/\W.flatten.Nodup/\∀T∈W,∀x∈T,x∉R:=by
 have hd:=h.disj
 rw [Qwz] at hd
 obtain ⟨d1,d2,d3⟩:=Qdi.mp hd
 exact ⟨d1,d2,λT hT x hx hxR=>d3 x hxR x (Qsj hT hx) rfl⟩
theorem PI.single {W:List (List Int)}{R rest:List Int}{h:Int}(hp:PI G (R::W))(K:Qex G R)(I:IsIns G R [h])(hrest:∀x,x∈rest↔x∈R/\x≠h)(hn:rest.Nodup):PI G (rest::W):=by
 obtain ⟨d1,d2,hW⟩:=hp.apart
 have hhR:h∈R:=((I.mem h).mp (by simp)).1
 obtain ⟨A,r⟩:=hp.reg R (by simp)
 have rv:RvP G (·∈rest) h:=(r.entry I (by simp)).weak λb hb=>(hrest b).mp hb
 have hsub:∀T'∈rest::W,∃T∈R::W,∀x∈T',x∈T:=by
   intro T' hT'
   rcases Qch.mp hT' with rfl | hT'
   . exact ⟨R,by simp,λx hx=>((hrest x).mp hx).1⟩
   . exact ⟨T',Qdx _ hT',λu_ h=>h⟩
 refine ⟨?_,λT hT=>?_,λC hC hl=>?_⟩
 . rw [Qwz]
   refine Qdi.mpr ⟨hn,d2,λa ha b hb e=>?_⟩
   subst e
   obtain ⟨T,h1,h2⟩:=Qwi.mp hb
   exact hW T h1 a h2 ((hrest a).mp ha).1
 . rcases Qch.mp hT with rfl | hT
   . refine ⟨_,Qma hrest (λx a hx hxn ha e=>?_) rv hhR hW⟩
     have haR:=(hrest a).mp ha
     by_cases hxR:x∈R
     . exact Classical.byContradiction λhne=>hxn ((hrest x).mpr ⟨hxR,hne⟩)
     . have:=(I.mem a).mpr ⟨haR.1,.inl ⟨x,hx,hxR,e⟩⟩
       exact absurd (Qbq.mp this) haR.2
   . obtain ⟨A',r'⟩:=hp.reg T (Qdx _ hT)
     exact ⟨A',r'.sub' hsub⟩
 . rcases hp.good C hC hl with hg | ⟨T,hT,hCT⟩
   . exact .inl hg
   . rcases Qch.mp hT with rfl | hT
     . by_cases hhC:h∈C
       . refine .inl ⟨h,hhC,λc hc hd=>?_⟩
         rcases Qmg (A:=(·∈T)) hd.2 (hCT c hc) with ⟨h0,-⟩ | ⟨u,v,h1,h2,e,hv,ho⟩
         . have:=(I.mem 0).mpr ⟨h0,.inr rfl⟩
           exact hd.1 (Qbq.mp this)
         . have:=(I.mem v).mpr ⟨hv,.inl ⟨u,h1.live,h1.out,e⟩⟩
           exact ho (Qbq.mp this)
       . exact .inr ⟨rest,by simp,λc hc=>(hrest c).mpr ⟨hCT c hc,λe=>hhC (e ▸ hc)⟩⟩
     . exact .inr ⟨T,Qdx _ hT,hCT⟩
structure Split (G G':Int->Int->Prop)(R rest K:List Int)(h:Int)(p:Int->Int):Prop where
 hR:h∈R
 re:∀x,x∈rest↔x∈R/\x≠h
 old:∀u,u∉K->p u=u
 new:∀u∈K,p u∈rest
 fwd:∀u v,G' u v->G (p u) (p v)
 lift:∀u y,G (p u) y->∃v,p v=y/\G' u v
 inR:∀u v,G' u v->v∈rest->u∈R
 inK:∀u v,G' u v->v∈K->u∉R
 fresh:∀u∈K,¬Live G u
variable {R rest K:List Int} {h:Int} {p:Int->Int}
theorem Split.fib (s:Split G G' R rest K h p){v y:Int}(e:p v=y)(hy:y∉rest):v=y:=by
 by_cases hv:v∈K
 . exact absurd (e ▸ s.new v hv) hy
 . rw [<-e,s.old v hv]
theorem Split.zero (s:Split G G' R rest K h p):p 0=0:=s.old 0 λh0=>s.fresh 0 h0 .refl
theorem Split.proj (s:Split G G' R rest K h p){ok ok':Int->Prop}(ho:∀b,ok' b->ok (p b)){a v:Int}(r:Rch G' ok' a v):Rch G ok (p a) (p v):=by
 induction r with
 | refl=>exact .refl
 | step _ e o ih=>exact .step ih (s.fwd _ _ e) (ho _ o)
theorem Split.live (s:Split G G' R rest K h p){v:Int}(hv:Live G' v):Live G (p v):=by
 have:=s.proj (ok:=λu_=>True) (λu_ u_=>trivial) hv
 rw [s.zero] at this;exact this
theorem Split.rv (s:Split G G' R rest K h p){A:Int->Prop}{v:Int}(hv:RvP G' (λb=>A (p b)) v):RvP G A (p v):=by
 refine ⟨λh0=>hv.1 (show A (p 0) by rw [s.zero];exact h0),?_⟩
 have:=s.proj (ok:=λb=>¬A b) (λb hb=>hb) hv.2
 rw [s.zero] at this;exact this
theorem Split.liftR (s:Split G G' R rest K h p){ok:Int->Prop}{y z:Int}(r:Rch G ok y z):∀{u:Int},p u=y->∃v,p v=z/\Rch G' (λb=>ok (p b)) u v:=by
 induction r with
 | refl=>intro u e;exact ⟨u,e,.refl⟩
 | step _ e o ih =>
   intro u eu
   obtain ⟨v,hv,hr⟩:=ih eu
   obtain ⟨v',hv',e'⟩:=s.lift v _ (by rw [hv];exact e)
   exact ⟨v',hv',.step hr e' (by rw [hv'];exact o)⟩
theorem Split.liftV (s:Split G G' R rest K h p){A:Int->Prop}{y:Int}(r:RvP G A y):∃v,p v=y/\RvP G' (λb=>A (p b)) v:=by
 obtain ⟨v,h1,h2⟩:=s.liftR r.2 (u:=0) s.zero
 exact ⟨v,h1,show ¬A (p 0) by rw [s.zero];exact r.1,h2⟩
theorem Split.rvF (s:Split G G' R rest K h p){A:Int->Prop}{y:Int}(r:RvP G A y)(hy:y∉rest):RvP G' (λb=>A (p b)) y:=by
 obtain ⟨v,h1,h2⟩:=s.liftV r
 rw [<-s.fib h1 hy];exact h2
theorem Split.KR (s:Split G G' R rest K h p)(Kp:Qex G R):∀u∈K,u∉R:=λu hu hR=>s.fresh u hu (Kp.live u hR)
theorem Split.ctx (s:Split G G' R rest K h p){W:List (List Int)}{A:Int->Prop}(c:Ctx G (R::W) A)(hW:∀T∈W,∀x∈T,x∉K)(hWR:∀T∈W,∀x∈T,x∉R)(hKR:∀u∈K,u∉R):Ctx G' (K::rest::W) (λb=>A (p b)) where
 into:=by
   rcases c.into with g | ⟨a,g1,g2,g3⟩
   . exact .inl λx hx=>g _ (s.live hx)
   . have haR:a∉R:=g3 R (by simp)
     have har:a∉rest:=λh=>haR ((s.re a).mp h).1
     refine .inr ⟨a,λx b hx hn hb e=>s.fib (g1 _ _ (s.live hx) hn hb (s.fwd _ _ e)) har,s.rvF g2 har,λT hT hT'=>?_⟩
     rcases Qch.mp hT with rfl | hT
     . exact s.fresh a hT' g2.live
     . rcases Qch.mp hT with rfl | hT
       . exact har hT'
       . exact g3 T (Qdx _ hT) hT'
 lam:=λT hT=>by
   have hr:=c.lam R (by simp)
   rcases Qch.mp hT with rfl | hT
   . exact hr.imp (λg x hx=>g _ ((s.re _).mp (s.new x hx)).1) λg x hx=>g _ ((s.re _).mp (s.new x hx)).1
   . rcases Qch.mp hT with rfl | hT
     . have e:∀x∈T,p x=x:=λx hx=>s.old x λhk=>hKR x hk ((s.re x).mp hx).1
       exact hr.imp (λg x hx=>by rw [e x hx];exact g x ((s.re x).mp hx).1) λg x hx=>by rw [e x hx];exact g x ((s.re x).mp hx).1
     . have e:∀x∈T,p x=x:=λx hx=>s.old x (hW T hT x hx)
       exact (c.lam T (Qdx _ hT)).imp (λg x hx=>by rw [e x hx];exact g x hx) λg x hx=>by rw [e x hx];exact g x hx
theorem PI.split {W:List (List Int)}{ins:List Int}(hp:PI G (R::W))(Kp:Qex G R)(s:Split G G' R rest K h p)(I:IsIns G R ins)(hh:h∈ins)(h0:0∈R->h=0)(hn:rest.Nodup)(hKn:K.Nodup)(hW:∀T∈W,∀x∈T,x∉K):PI G' (K::rest::W):=by
 obtain ⟨d1,d2,hWR⟩:=hp.apart
 have hKR:=s.KR Kp
 have hrK:∀x∈rest,x∉K:=λx hx hk=>hKR x hk ((s.re x).mp hx).1
 have hpr:∀x∈R,p x=x:=λx hx=>s.old x λhk=>hKR x hk hx
 obtain ⟨A,r⟩:=hp.reg R (by simp)
 have hnr:h∉rest:=λhb=>((s.re h).mp hb).2 rfl
 have hsub:∀T'∈rest::W,∃T∈K::rest::W,∀x∈T',x∈T:=λT' hT'=>⟨T',Qdx _ hT',λu_ h=>h⟩
 refine ⟨?_,λT hT=>?_,λC hC hl=>?_⟩
 . rw [Qwz,Qwz]
   refine Qdi.mpr ⟨hKn,Qdi.mpr ⟨hn,d2,λa ha b hb e=>?_⟩,λa ha b hb e=>?_⟩
   . subst e
     obtain ⟨T,h1,h2⟩:=Qwi.mp hb
     exact hWR T h1 a h2 ((s.re a).mp ha).1
   . subst e
     rcases Qaz.mp hb with hb | hb
     . exact hrK a hb ha
     . obtain ⟨T,h1,h2⟩:=Qwi.mp hb
       exact hW T h1 a h2 ha
 . rcases Qch.mp hT with eT | hT
   ·
     rw [eT]
     refine ⟨λb=>A (p b),λx hx=>r.sub _ ((s.re _).mp (s.new x hx)).1,λa ha b hb u g1 g2=>?_,s.ctx r.ctx hW hWR hKR⟩
     have inR:∀z,Rch G' (λb=>A (p b)) a z->Rch G' (λb=>A (p b)) z b->p z∈R:=λz k1 k2 =>
       r.conv _ ((s.re _).mp (s.new a ha)).1 _ ((s.re _).mp (s.new b hb)).1 _ (s.proj (λu_ o=>o) k1) (s.proj (λu_ o=>o) k2)
     refine Classical.byContradiction λhu=>?_
     have huR:u∈R:=by have:=inR u g1 g2;rwa [s.old u hu] at this
     have stay:∀z,Rch G' (λb=>A (p b)) u z->Rch G' (λb=>A (p b)) z b->z∈R:=by
       intro z hz
       induction hz with
       | refl=>intro _;exact huR
       | @step x y k e o ih =>
         intro k2
         have hxR:=ih (Rch.front e o k2)
         have hyK:y∉K:=λhy=>s.inK x y e hy hxR
         have:=inR y (g1.trans (.step k e o)) k2
         rwa [s.old y hyK] at this
     exact hKR b hb (stay b g2 .refl)
   . rcases Qch.mp hT with rfl | hT
     . have rv:RvP G' (·∈T) h:=(s.rvF ((r.entry I hh).weak λb hb=>(s.re b).mp hb) hnr).weak λb hb=>by rw [hpr b ((s.re b).mp hb).1];exact hb
       have R0:=Qma (G:=G') (W:=W) s.re (λx a hx hxn ha e=>?_) rv s.hR hWR
       . refine ⟨_,R0.sub,R0.conv,?_,λT' hT'=>?_⟩
         . refine .inr ⟨h,λx a hx hxn ha e=>?_,rv,λT' hT' hT2=>?_⟩
           . have hxR:=s.inR x a e ha
             exact Classical.byContradiction λhne=>hxn ((s.re x).mpr ⟨hxR,hne⟩)
           . rcases Qch.mp hT' with rfl | hT'
             . exact hKR h hT2 s.hR
             . rcases Qch.mp hT' with rfl | hT'
               . exact hnr hT2
               . exact hWR T' hT' h hT2 s.hR
         . rcases Qch.mp hT' with rfl | hT'
           . exact .inr λx hx hx'=>hrK x hx' hx
           . exact R0.ctx.lam T' hT'
       . have hxR:=s.inR x a e ha
         exact Classical.byContradiction λhne=>hxn ((s.re x).mpr ⟨hxR,hne⟩)
     . obtain ⟨B,q⟩:=hp.reg T (Qdx _ hT)
       have e:∀x∈T,p x=x:=λx hx=>s.old x (hW T hT x hx)
       refine ⟨λb=>B (p b),λx hx=>by rw [e x hx];exact q.sub x hx,λa ha b hb u g1 g2=>?_,s.ctx q.ctx hW hWR hKR⟩
       have:=q.conv a ha b hb (p u) (by rw [<-e a ha];exact s.proj (λu_ o=>o) g1) (by rw [<-e b hb];exact s.proj (λu_ o=>o) g2)
       rwa [s.fib rfl λhr=>hWR T hT _ this ((s.re _).mp hr).1]
 ·
   have SCp:SC G (C.map p):=by
     refine ⟨let ⟨c,hc⟩:=hC.ne;⟨p c,Qc6.mpr ⟨c,hc,rfl⟩⟩,λa ha b hb=>?_⟩
     obtain ⟨a',ha',rfl⟩:=Qc6.mp ha
     obtain ⟨b',hb',rfl⟩:=Qc6.mp hb
     exact s.proj (λx hx=>Qc6.mpr ⟨x,hx,rfl⟩) (hC.con a' ha' b' hb')
   have hlp:∀c∈C.map p,Live G c:=λc hc=>by
     obtain ⟨c',hc',rfl⟩:=Qc6.mp hc
     exact s.live (hl c' hc')
   have caseR:(∀c∈C,p c∈R)->Good G' C\/∃T∈K::rest::W,∀c∈C,c∈T:=by
     intro hCR
     have split:∀c∈C,c∉K->c∈R:=λc hc hk=>by have:=hCR c hc;rwa [s.old c hk] at this
     by_cases hk:∃c∈C,c∈K
     . obtain ⟨k,hk1,hk2⟩:=hk
       refine .inr ⟨K,by simp,λc hc=>Classical.byContradiction λhcK=>?_⟩
       have stay:∀z,Rch G' (·∈C) c z->z∈R:=by
         intro z hz
         induction hz with
         | refl=>exact split c hc hcK
         | @step x y _ e o ih=>exact split y o λhy=>s.inK x y e hy ih
       exact hKR k hk2 (stay k (hC.con c hc k hk1))
     . have inR:∀c∈C,c∈R:=λc hc=>split c hc λh=>hk ⟨c,hc,h⟩
       by_cases hhC:h∈C
       . refine .inl ⟨h,hhC,λc hc hd=>?_⟩
         rcases Qmg (A:=(·∈R)) hd.2 (inR c hc) with ⟨z0,-⟩ | ⟨u,v,h1,h2,e,hv,ho⟩
         . exact hd.1 (h0 z0).symm
         . have hvr:v∈rest:=(s.re v).mpr ⟨hv,ho⟩
           exact h1.out (s.inR u v e hvr)
       . exact .inr ⟨rest,by simp,λc hc=>(s.re c).mpr ⟨inR c hc,λe=>hhC (e ▸ hc)⟩⟩
   rcases hp.good (C.map p) SCp hlp with ⟨d,hd,hdom⟩ | ⟨T,hT,hCT⟩
   . by_cases hdr:d∈rest
     . by_cases hall:∀c∈C,p c∈R
       . exact caseR hall
       . exfalso
         obtain ⟨c,hc,hcR⟩:∃c,c∈C/\p c∉R:=Classical.byContradiction λhne=>hall λc hc=>Classical.byContradiction λh'=>hne ⟨c,hc,h'⟩
         have hcC:p c∈C.map p:=Qc6.mpr ⟨c,hc,rfl⟩
         have enter:∀z,Rch G (·∈C.map p) (p c) z->z∈R->∃x r',x∈C.map p/\x∉R/\r'∈R/\G x r':=by
           intro z hz
           induction hz with
           | refl=>intro hzR;exact absurd hzR hcR
           | @step x y k e o ih =>
             intro hyR
             by_cases hxR:x∈R
             . exact ih hxR
             . refine ⟨x,y,?_,hxR,hyR,e⟩
               cases k with
               | refl=>exact hcC
               | step _ _ o'=>exact o'
         obtain ⟨x,r',hx1,hx2,hr',e⟩:=enter d (SCp.con _ hcC d hd) ((s.re d).mp hdr).1
         exact hdom x hx1 ((r.phi (hlp x hx1) hx2 hr' e).weak λb hb=>by subst hb;exact ((s.re _).mp hdr).1)
     . obtain ⟨d',hd',rfl⟩:=Qc6.mp hd
       have ed:d'=p d':=s.fib rfl hdr
       refine .inl ⟨d',hd',λc hc hv=>?_⟩
       refine hdom (p c) (Qc6.mpr ⟨c,hc,rfl⟩) (s.rv (hv.weak λb hb=>?_))
       exact (s.fib hb hdr).trans ed.symm
   . rcases Qch.mp hT with rfl | hT
     . exact caseR λc hc=>hCT _ (Qc6.mpr ⟨c,hc,rfl⟩)
     . refine .inr ⟨T,by simp [hT],λc hc=>?_⟩
       have:=hCT _ (Qc6.mpr ⟨c,hc,rfl⟩)
       have e:c=p c:=s.fib rfl λhr=>hWR T hT _ this ((s.re _).mp hr).1
       rw [e];exact this
end
end
section
section
variable {G:Int->Int->Prop}
theorem Pl.front {S:List Int}{a b c:Int}(e:fw G a b)(hb:b∈S)(h:Pl G S b c):Pl G S a c:=by
 induction h with
 | one e' o=>exact .step (.one e hb) e' o
 | step _ e' o ih=>exact .step ih e' o
theorem Pl.trans {S:List Int}{a b c:Int}(h:Pl G S a b)(h':Pl G S b c):Pl G S a c:=by
 induction h' with
 | one e o=>exact .step h e o
 | step _ e o ih=>exact .step ih e o
theorem Pl.weak {S S':List Int}(hS:∀x∈S,x∈S'){a b:Int}(h:Pl G S a b):Pl G S' a b:=by
 induction h with
 | one e o=>exact .one e (hS _ o)
 | step _ e o ih=>exact .step ih e (hS _ o)
theorem fw.rv {u v:Int}(h:fw G u v):RvP G (· = v) u:=⟨λe=>h.2.1 (by simp [e]),h.2.2.weak λb hb e=>hb (by simp [e])⟩
theorem fw.of {u v:Int}(e:G u v)(h:RvP G (· = v) u):fw G u v:=⟨e,λh0=>h.1 (Qbq.mp h0),h.2.weak λb hb h'=>hb (Qbq.mp h')⟩
open Classical in
theorem PI.done (h:PI G []){L:List Int}(hL:∀x∈L,Live G x):¬Cyc G L:=by
 rintro ⟨x,hx,hp⟩
 have hC:∀y,y∈L.filter (λy=>decide (Pl G L x y/\Pl G L y x))↔y∈L/\Pl G L x y/\Pl G L y x:=λy=>by rw [Qx8,decide_eq_true_iff]
 generalize L.filter (λy=>decide (Pl G L x y/\Pl G L y x))=C at hC
 have hxC:x∈C:=(hC x).mpr ⟨hx,hp,hp⟩
 have way:∀a b,Pl G L a b->Pl G L x a->Pl G L b x->Rch G (·∈C) a b:=by
   intro a b hab
   induction hab with
   | one e o=>intro h1 h2;exact .step .refl e.1 ((hC _).mpr ⟨o,.step h1 e o,h2⟩)
   | step k e o ih=>intro h1 h2;exact .step (ih h1 (h2.front e o)) e.1 ((hC _).mpr ⟨o,.step (h1.trans k) e o,h2⟩)
 have sc:SC G C:=⟨⟨x,hxC⟩,λa ha b hb=>by
   obtain ⟨-,a1,a2⟩:=(hC a).mp ha
   obtain ⟨-,b1,b2⟩:=(hC b).mp hb
   exact (way a x a2 a1 hp).trans (way x b b1 hp b2)⟩
 rcases h.good C sc (λc hc=>hL c ((hC c).mp hc).1) with ⟨d,hd,hdom⟩ | ⟨T,hT,u_⟩
 . obtain ⟨hdL,d1,d2⟩:=(hC d).mp hd
   cases d2.trans d1 with
   | one e _=>exact Qvd e rfl
   | @step u _ k e _ =>
     have huL:u∈L:=by cases k with | one _ o=>exact o | step _ _ o=>exact o
     exact hdom u ((hC u).mpr ⟨huL,d1.trans k,d2.front e hdL⟩) e.rv
 . cases hT
theorem Qr2 {C:List Int}(hne:∃c,c∈C)(h:∀y∈C,∃u∈C,fw G u y):Cyc G C:=by
 refine Classical.byContradiction λhno=>?_
 have key:∀n:Nat,∃l:List Int,∃y,l.head? = some y/\l.length=n+1/\l.Nodup/\(∀z∈l,z∈C)/\∀z∈l,z=y\/Pl G C y z:=by
   intro n
   induction n with
   | zero=>obtain ⟨c,hc⟩:=hne;exact ⟨[c],c,rfl,rfl,by simp,by simpa using hc,by simp⟩
   | succ n ih =>
     obtain ⟨l,y,h1,h2,h3,h4,h5⟩:=ih
     have hy:y∈l:=List.mem_of_mem_head? h1
     obtain ⟨u,hu,e⟩:=h y (h4 y hy)
     have hul:u∉l:=λhul=>by
       rcases h5 u hul with rfl | hp
       . exact Qvd e rfl
       . exact hno ⟨u,hu,.front e (h4 y hy) hp⟩
     refine ⟨u::l,u,rfl,by rw [Qwo,h2],Qnn.mpr ⟨hul,h3⟩,λz hz=>?_,λz hz=>?_⟩
     . rcases Qch.mp hz with rfl | hz
       . exact hu
       . exact h4 z hz
     . rcases Qch.mp hz with rfl | hz
       . exact .inl rfl
       . rcases h5 z hz with rfl | hp
         . exact .inr (.one e (h4 _ hz))
         . exact .inr (.front e (h4 y hy) hp)
 obtain ⟨l,y,h1,h2,h3,h4,h5⟩:=key C.length
 have:=Qbs l C h3 h4
 exact (om676 ‹_› ‹_›).elim
theorem Qtq {C:List Int}(sc:SC G C)(hno:¬Cyc G C):Good G C:=by
 refine Classical.byContradiction λhg=>hno (Qr2 sc.ne λy hy=>?_)
 obtain ⟨c,hc,hrv⟩:∃c,c∈C/\RvP G (· = y) c:=Classical.byContradiction λhne=>hg ⟨y,hy,λc hc hrv=>hne ⟨c,hc,hrv⟩⟩
 have key:∀z,Rch G (·∈C) c z->RvP G (· = y) z\/∃u∈C,fw G u y:=by
   intro z hz
   induction hz with
   | refl=>exact .inl hrv
   | @step a b k e o ih =>
     rcases ih with ih | ih
     . by_cases hb:b=y
       . subst hb
         have ha:a∈C:=by cases k with | refl=>exact hc | step _ _ o'=>exact o'
         exact .inr ⟨a,ha,.of e ih⟩
       . exact .inl (ih.step e hb)
     . exact .inr ih
 rcases key y (sc.con c hc y hy) with h | h
 . exact absurd rfl h.out
 . exact h
theorem Qn7 {R:List Int}{a b:Int}(sc:SC G R)(ha:a∈R)(hb:b∈R)(hne:a≠b)(ra:RvP G (λx=>x∈R/\x≠a) a)(rb:RvP G (λx=>x∈R/\x≠b) b):Cyc G R:=by
 refine Classical.byContradiction λhno=>?_
 obtain ⟨d,hd,hdom⟩:=Qtq sc hno
 by_cases e:a=d
 . subst e
   exact hdom b hb (rb.weak λx hx=>⟨hx ▸ ha,λe=>hne (hx.symm.trans e)⟩)
 . exact hdom a ha (ra.weak λx hx=>⟨hx ▸ hd,λe'=>e (e'.symm.trans hx)⟩)
structure Cov (Gr G:Int->Int->Prop)(π:Int->Int)(nd:Int->Prop):Prop where
 fwd:∀u v,G u v->Gr (π u) (π v)
 lift:∀u y,nd u->Gr (π u) y->∃v,π v=y/\G u v
 zero:π 0=0
 node:∀u,Live G u->nd u
variable {Gr:Int->Int->Prop} {π:Int->Int} {nd:Int->Prop}
theorem Cov.proj (c:Cov Gr G π nd){ok ok':Int->Prop}(ho:∀b,ok' b->ok (π b)){a v:Int}(r:Rch G ok' a v):Rch Gr ok (π a) (π v):=by
 induction r with
 | refl=>exact .refl
 | step _ e o ih=>exact .step ih (c.fwd _ _ e) (ho _ o)
theorem Cov.live (c:Cov Gr G π nd){v:Int}(hv:Live G v):Live Gr (π v):=by
 have:=c.proj (ok:=λu_=>True) (λu_ u_=>trivial) hv
 rw [c.zero] at this;exact this
noncomputable def Xr (Gr:Int->Int->Prop)(x:Int):Prop:=∃y,Live Gr y/\(∃L:List Int,(∀z∈L,Live Gr z)/\Pl Gr L y y)/\Rch Gr (λu_=>True) x y/\Rch Gr (λu_=>True) y x
theorem Xr.of {x x':Int}(h:Xr Gr x)(h1:Rch Gr (λu_=>True) x' x)(h2:Rch Gr (λu_=>True) x x'):Xr Gr x':=let ⟨y,a,b,c,d⟩:=h;⟨y,a,b,h1.trans c,d.trans h2⟩
theorem Quc {R:List Int}{a b:Int}(cv:Cov Gr G π nd)(K:Qex G R)(uniq:∀u v,nd u->nd v->u≠v->π u=π v->Xr Gr (π u))(ha:a∈R)(hb:b∈R)(hne:a≠b)(ra:RvP G (λx=>x∈R/\x≠a) a)(rb:RvP G (λx=>x∈R/\x≠b) b):∀r∈R,Xr Gr (π r):=by
 intro r hr
 refine Classical.byContradiction λhX=>?_
 have mu2:∀x∈R,∀y∈R,Rch Gr (λu_=>True) (π x) (π y):=λx hx y hy=>cv.proj (λu_ u_=>trivial) (K.con x hx y hy)
 have hXs:∀x∈R,¬Xr Gr (π x):=λx hx h=>hX (h.of (mu2 r hr x hx) (mu2 x hx r hr))
 have sc:SC Gr (R.map π):=by
   refine ⟨⟨π r,Qc6.mpr ⟨r,hr,rfl⟩⟩,λx hx y hy=>?_⟩
   obtain ⟨x',hx',rfl⟩:=Qc6.mp hx
   obtain ⟨y',hy',rfl⟩:=Qc6.mp hy
   exact cv.proj (λz hz=>Qc6.mpr ⟨z,hz,rfl⟩) (K.con x' hx' y' hy')
 have lv:∀z∈R.map π,Live Gr z:=λz hz=>by
   obtain ⟨z',hz',rfl⟩:=Qc6.mp hz
   exact cv.live (K.live z' hz')
 have hno:¬Cyc Gr (R.map π):=λ⟨y,hy,hp⟩=>by
   obtain ⟨y',hy',rfl⟩:=Qc6.mp hy
   exact hXs y' hy' ⟨π y',lv _ hy,⟨_,lv,hp⟩,.refl,.refl⟩
 obtain ⟨d,hd,hdom⟩:=Qtq sc hno
 obtain ⟨d',hd',rfl⟩:=Qc6.mp hd
 have one:∀e∈R,RvP G (λx=>x∈R/\x≠e) e->e=d':=by
   intro e he hrv
   refine Classical.byContradiction λhed=>hdom (π e) (Qc6.mpr ⟨e,he,rfl⟩) ?_
   have hw:RvP G (· = d') e:=hrv.weak λx hx=>⟨hx ▸ hd',λe'=>hed (e'.symm.trans hx)⟩
   have nd':nd d':=cv.node d' (K.live d' hd')
   have fib:∀u,nd u->¬u=d'->¬π u=π d':=λu hu hn hπ=>hXs d' hd' (hπ ▸ uniq u d' hu nd' hn hπ)
   refine ⟨λh0=>?_,?_⟩
   . exact fib 0 (cv.node 0 .refl) hw.1 (cv.zero.trans h0)
   . have key:∀z,Rch G (λb=>¬b=d') 0 z->Live G z/\Rch Gr (λb=>¬b=π d') (π 0) (π z):=by
       intro z hz
       induction hz with
       | refl=>exact ⟨.refl,.refl⟩
       | step _ e' o ih=>exact ⟨ih.1.step e',.step ih.2 (cv.fwd _ _ e') (fib _ (cv.node _ (ih.1.step e')) o)⟩
     have:=(key e hw.2).2
     rw [cv.zero] at this;exact this
 exact hne ((one a ha ra).trans (one b hb rb).symm)
end
end
section
open PySem
abbrev P:=PySem.Challenge.pw_uf010028_07
abbrev Qg7:Nat:=5
abbrev Qfz:Nat:=6
abbrev Qg6:Nat:=7
abbrev Qc3:Nat:=8
abbrev Qer:Nat:=12
abbrev Qeq:Nat:=13
abbrev Qiw:Nat:=14
abbrev Qem:Nat:=15
abbrev Qle:Nat:=16
abbrev Qix:Nat:=18
abbrev Qcp:Nat:=19
abbrev Qf2:Nat:=22
abbrev Qiy:Nat:=23
abbrev Qoz:Nat:=24
abbrev Qcd:Nat:=25
abbrev Qfy:Nat:=26
abbrev Qiv:Nat:=27
abbrev Qg8:Nat:=29
abbrev Qel:Nat:=30
abbrev Qo0:Nat:=31
abbrev Qiu:Nat:=32
abbrev Qg5:Nat:=33
abbrev Qf1:Nat:=35
abbrev Qeo:Nat:=36
abbrev Qep:Nat:=37
abbrev Qd3:Nat:=38
abbrev Qd4:Nat:=39
abbrev Qen:Nat:=40
abbrev Qc2:Nat:=41
abbrev Qdm:Nat:=42
abbrev Qbm:Nat:=43
abbrev Qd2:Nat:=44
abbrev Qf0:Nat:=45
abbrev Qbt:Nat:=46
abbrev Qd5:Nat:=47
abbrev Qsn:Nat:=48
abbrev FnAt (hb:Heap)(f:Addr)(i:Nat):Prop:=FnIs hb f (Qe2 P i) (Qan P i) (Qij P i)
variable {hb:Heap} {w:World} {f:Addr} {n:Nat}
noncomputable def Qfj (ns:List Int)(k:Int):Int:=ns.getD k.toNat 0
inductive Qmo (args:List MV)(B:MH)(own:Own)(Q:MV->MH->Own->Prop):Prop
 | mk (h1_:own=[]) (a ns k) (h2_:args=[.ref a,.int k]) (h3_:B a=some (.ro (ns.map MV.int))) (h4_:0<=k) (h5_:Q (.int (Qfj ns k)) B []):Qmo args B own Q
theorem Qvl (F:FnAt hb f Qg8)(hlim:hb.NoLimit)(glen:Gl hb "len" (.oth (.builtin "len"))):Contract P w hb (.ref f) (n+1) Qmo:=by
 refine Contract.of F hlim (by rintro args B own Q ⟨_,a,ns,k,e,_⟩;subst e;rfl) ?_
 rintro C args B own Q F' ⟨rfl,a,ns,k,rfl,hB,hk,hQ⟩
 show Sts C (Qan P Qg8) ⟨[(Qa "_law_script",_),(Qa "_law_k",_)],B,[]⟩ _
 refine Qag ?_
 walk_at "m"
 refine Qax (λhc=>?_) (λhc=>?_)
 . walk_at "m"
   simp at hc
   have hlt:k.toNat<ns.length:=by exact om50 ‹_› ‹_›
   refine Qvt (by walk_at "m has") hk (m:=.int (Qfj ns k)) (by simp [Qfj,hlt]) ?_
   exact ⟨_,.refl _,hQ⟩
 . walk_at "m"
   simp at hc
   have hge:ns.length<=k.toNat:=by exact om167 ‹_› ‹_›
   refine ⟨_,.refl _,?_⟩
   have:Qfj ns k=0:=by simp [Qfj,Qxj hge]
   rw [this] at hQ;exact hQ
theorem Qam (a:Int){b:Int}(h:0<b):0<=a.fmod b/\a.fmod b<b:=⟨Int.fmod_nonneg_of_pos a h,Int.fmod_lt_of_pos a h⟩
noncomputable def Bits (c:Int):Prop:=Builtin.Int.intBits c<=2000000
inductive Qjd (args:List MV)(B:MH)(own:Own)(Q:MV->MH->Own->Prop):Prop
 | mk (h1_:own=[]) (c) (h2_:args=[.int c]) (h3_:Bits c) (h4_:∀z,Q (.int z) B []):Qjd args B own Q
theorem mul_ok {c:Int}(h:Bits c):IntMulOk c (10 ^ (59:Int).toNat+7):=by
 unfold IntMulOk
 intro h'
 simp only [Bool.and_eq_true] at h'
 have h2:=h'.2
 unfold Bits at h
 have hb:Builtin.Int.intBits (10 ^ (59:Int).toNat+7)<=200:=by decide +kernel
 unfold Builtin.Int.intTooBig at h2
 have h3:=of_decide_eq_true h2
 unfold bitsLine at h3
 omega
theorem Qpb (F:FnAt hb f Qel)(hlim:hb.NoLimit):Contract P w hb (.ref f) (n+1) Qjd:=by
 refine Contract.of F hlim (by rintro args B own Q ⟨_,a,e,_⟩;subst e;rfl) ?_
 rintro C args B own Q F' ⟨rfl,c,rfl,hb,hQ⟩
 show Sts C (Qan P Qel) ⟨[(Qa "_law_cell",_)],B,[]⟩ _
 have hm:=mul_ok hb
 have b2:=Qam (c.fdiv 9) (b:=2) (by decide)
 refine Qag ?_
 walk_at "m"
 refine Qax (λhc=>?_) (λhc=>?_)
 . walk_at "m"
   exact ⟨_,.refl _,hQ _⟩
 . walk_at "m"
   exact ⟨_,.refl _,hQ _⟩
inductive Qpx (args:List MV)(B:MH)(own:Own)(Q:MV->MH->Own->Prop):Prop
 | mk (h1_:own=[]) (k m many) (h2_:args=[.int k,.int m,.int many]) (h3_:0<=k) (h4_:k<many) (h5_:∀z,0<=z->z<=many->Q (.int z) B []):Qpx args B own Q
theorem Qvk (F:FnAt hb f Qo0)(hlim:hb.NoLimit)(gmax:Gl hb "max" (.oth (.builtin "max")))(gmin:Gl hb "min" (.oth (.builtin "min"))):Contract P w hb (.ref f) (n+1) Qpx:=by
 refine Contract.of F hlim (by rintro args B own Q ⟨_,a,b,c,e,_⟩;subst e;rfl) ?_
 rintro C args B own Q F' ⟨rfl,k,m,many,rfl,h0,h1,hQ⟩
 show Sts C (Qan P Qo0) ⟨[(Qa "_law_k",_),(Qa "_law_mixed",_),(Qa "_law_many",_)],B,[]⟩ _
 have b4:=Qam (m.fdiv 5) (b:=4) (by decide)
 have b3:=Qam (m.fdiv 5) (b:=3) (by decide)
 refine Qag ?_
 walk_at "m"
 refine Qax (λhc=>?_) (λhc=>?_)
 . walk_at "m"
   exact ⟨_,.refl _,hQ _ (by exact om165) (by exact om166 ‹_› ‹_› ‹_›)⟩
 . walk_at "m"
   exact ⟨_,.refl _,hQ _ (by exact om170 ‹_› ‹_› ‹_›) (by exact om171)⟩
structure Rw where
 add:Bool
 box:Int
 z:Int
 y:Int
noncomputable def Rw.word (r:Rw):Str:=if r.add then Qa "add" else Qa "more"
noncomputable def Rw.mv (r:Rw):List MV:=[.str r.word,.int r.box,.int r.z,.int r.y]
noncomputable def Rw.Ok (many:Int)(r:Rw):Prop:=0<=r.box/\r.box<4/\0<=r.y/\r.y<=many/\(r.add=false->0<=r.z/\r.z<=many)
inductive Qjb (args:List MV)(B:MH)(own:Own)(Q:MV->MH->Own->Prop):Prop
 | mk (h1_:own=[]) (c k many) (h2_:args=[.int c,.int k,.int many]) (h3_:Bits c) (h4_:0<=k) (h5_:k<many) (h6_:many<=20) (h7_:∀a r,Rw.Ok many r->B a=none->Q (.ref a) (setB B a (.tup (Rw.mv r))) []):Qjb args B own Q
theorem Qm9 {b:Int}(h:b≠0):Builtin.Int.intBits b=Nat.log2 b.natAbs+1:=by
 unfold Builtin.Int.intBits;simp [h]
theorem Qjy {a b:Int}(h:a.natAbs<=b.natAbs):Builtin.Int.intBits a<=Builtin.Int.intBits b:=by
 by_cases h0:b=0
 . have:a=0:=by omega
   subst this;subst h0;exact Qwb _
 . have hlt:b.natAbs<2 ^ (Nat.log2 b.natAbs+1):=Nat.lt_log2_self
   have h1:Builtin.Int.intBits a<=Nat.log2 b.natAbs+1:=PyProof.Rows.intBits_le (by exact Qsg ‹_› ‹_›)
   rw [Qm9 h0];exact h1
theorem Qhu (c:Int){k:Int}(hk:1<=k):(c.fdiv k).natAbs<=c.natAbs:=by
 rw [Int.fdiv_eq_ediv_of_nonneg c (Qwh (by decide) hk)];exact Int.natAbs_ediv_le_natAbs c k
theorem Qph {c:Int}(h:Bits c):Bits (c.fdiv 3):=Qdg (Qjy (Qhu c (by decide))) h
inductive Qqp (B:MH)(c:Int)(k:Int)(many:Int)(mixed:Int)(σ':St):Prop
 | mk (yes no:Int) (h1_:σ'=⟨[(Qa "_law_cell",.int c),(Qa "_law_k",.int k),(Qa "_law_many",.int many),(Qa "_law_mixed",.int mixed),(Qa "_law_yes",.int yes),(Qa "_law_no",.int no)],B,[]⟩) (h2_:(0<=yes/\yes<=many)) (h3_:0<=no) (h4_:no<=many):Qqp B c k many mixed σ'
theorem Qo9 (F:FnAt hb f Qiu)(hlim:hb.NoLimit)(hnear:FnC P w hb "_law_near" 1 Qpx)(hnum:FnC P w hb "_law_number_by" 1 Qjd):Contract P w hb (.ref f) 2 Qjb:=by
 refine Contract.of F hlim (by rintro args B own Q ⟨_,a,b,c,e,_⟩;subst e;rfl) ?_
 rintro C args B own Q F' ⟨rfl,c,k,many,rfl,hbits,h0,h1,h2,hQ⟩
 show Sts C (Qan P Qiu) ⟨[(Qa "_law_cell",_),(Qa "_law_k",_),(Qa "_law_many",_)],B,[]⟩ _
 refine Qag ?_
 walk_at "m"
 generalize (c*48271+7919*k).fmod 1000003=mixed
 have hm1:0<many+1:=by exact om179 ‹_› ‹_›
 have y1:=Qam (mixed.fdiv 12) (b:=many+1) hm1
 have n1:=Qam ((mixed.fdiv 12).fdiv (many+1)) (b:=many+1) hm1
 generalize (mixed.fdiv 12).fmod (many+1)=yes at y1 ⊢
 generalize ((mixed.fdiv 12).fdiv (many+1)).fmod (many+1)=no at n1 ⊢
 have bx:=Qam (mixed.fdiv 3) (b:=4) (by decide)
 have y2:yes<=many:=Qzk y1.2
 have n2:no<=many:=Qzk n1.2
 refine Qk8 ((Qqp B c k many mixed)) (λhc=>?_) (λhc=>?_) ?_
 . walk_at "m"
   refine ⟨rfl,_,_,_,rfl,h0,h1,λyes' q1 q2=>?_⟩
   walk_at "m"
   refine ⟨rfl,_,_,_,rfl,h0,h1,λno' q3 q4=>?_⟩
   walk_at "m"
   exact ⟨rfl,yes',no',rfl,⟨q1,q2⟩,q3,q4⟩
 . walk_at "m"
   exact ⟨rfl,yes,no,rfl,⟨y1.1,y2⟩,n1.1,n2⟩
 rintro u_ ⟨yes',no',rfl,q1,q2,q3⟩
 try dsimp only
 walk_at "m"
 refine Qax (λhc=>?_) (λhc=>?_)
 . walk_at "m"
   refine ⟨rfl,_,rfl,Qph hbits,λz=>?_⟩
   walk_at "m"
   exact λa ha=>⟨_,.frz ha.md,hQ a ⟨true,_,_,_⟩ ⟨bx.1,bx.2,q1.1,q1.2,by simp⟩ ha.B⟩
 . walk_at "m"
   exact λa ha=>⟨_,.frz ha.md,hQ a ⟨false,_,_,_⟩ ⟨bx.1,bx.2,q2,q3,λu_=>q1⟩ ha.B⟩
noncomputable def TupsAt (B:MH)(as:List Addr)(rs:List Rw):Prop:=as.length=rs.length/\∀(i:Nat) (c:Addr) (r:Rw),as[i]? = some c->rs[i]? = some r->B c=some (.tup (Rw.mv r))
noncomputable def RowsAt (B:MH)(b:Addr)(rs:List Rw):Prop:=∃as:List Addr,B b=some (.list (as.map MV.ref))/\TupsAt B as rs
noncomputable def Qal (rs:List Rw):Prop:=1<=rs.length/\rs.length<=300/\∀r∈rs,Rw.Ok rs.length r
theorem Qay {n:Nat}(h:n<=300):n<=lim:=Qdg h (by unfold lim;decide)
theorem k300 {n:Nat}(h:n<=300):n<=1000:=Qdg h (by decide)
theorem TupsAt.mono {B B':MH}{as:List Addr}{rs:List Rw}(h:TupsAt B as rs)(s:Sub0 B B'):TupsAt B' as rs:=⟨h.1,λi c r h1 h2=>s _ _ (h.2 i c r h1 h2)⟩
theorem RowsAt.mono {B B':MH}{b:Addr}{rs:List Rw}(h:RowsAt B b rs)(s:Sub0 B B'):RowsAt B' b rs:=let ⟨as,h1,h2⟩:=h;⟨as,s _ _ h1,h2.mono s⟩
theorem TupsAt.snoc {B:MH}{as:List Addr}{rs:List Rw}{c:Addr}{r:Rw}(h:TupsAt B as rs)(hc:B c=some (.tup (Rw.mv r))):TupsAt B (as++[c]) (rs++[r]):=by
 refine ⟨by simp [h.1],λi c' r' h1 h2=>?_⟩
 rcases Qy1 i as.length with hi | hi | hi
 . rw [Qhn hi] at h1
   rw [Qhn (h.1 ▸ hi)] at h2
   exact h.2 i c' r' h1 h2
 . subst hi
   rw [Qlv (Qwb _)] at h1
   rw [h.1,Qlv (Qwb _)] at h2
   simp at h1 h2;subst h1 h2;exact hc
 . rw [Qxj (by simp;exact Qm2 ‹_›)] at h1;cases h1
theorem Sub0.set {B:MH}{a:Addr}{o:MO}(h:B a=none):Sub0 B (setB B a o):=λb o' hb'=>by
 rw [Qbp λe=>by subst e;rw [h] at hb';cases hb'];exact hb'
theorem Sub0.trans {B B' B'':MH}(h:Sub0 B B')(h':Sub0 B' B''):Sub0 B B'':=λa o x=>h' a o (h a o x)
theorem Qft {k i:Nat}{m:MV}(h:((List.range k).map λ(j:Nat)=>MV.int (j:Int))[i]? = some m):i<k/\m=.int i:=by
 rw [Qaa] at h
 by_cases hi:i<k
 . rw [Qzr hi] at h;simp at h;exact ⟨hi,h.symm⟩
 . rw [Qxj (by simp;exact om13 ‹_›)] at h;cases h
theorem Sub0.none {B B':MH}(h:Sub0 B B'){b:Addr}(e:B' b=.none):B b=.none:=by
 cases e':B b with
 | none=>rfl
 | some o=>rw [h b o e'] at e;cases e
inductive Qhk (args:List MV)(B:MH)(own:Own)(Q:MV->MH->Own->Prop):Prop
 | mk (h1_:own=[]) (a:Addr) (ns:List Int) (h2_:args=[.ref a]) (h3_:B a=some (.ro (ns.map MV.int))) (h4_:(∀z∈ns,Bits z)) (h5_:∀(b:Addr) (B':MH) (rs:List Rw),Qal rs->rs.length<=20->Sub0 B B'->RowsAt B' b rs->B b=none->Q (.ref b) B' []):Qhk args B own Q
theorem Qpi {ns:List Int}(h:∀z∈ns,Bits z)(k:Int):Bits (Qfj ns k):=by
 unfold Qfj
 rw [Qhh]
 cases e:ns[k.toNat]? with
 | none=>show Bits 0;unfold Bits;decide +kernel
 | some z=>exact h z (Qcs e)
inductive Qqo (B:MH)(a:Addr)(σ':St):Prop
 | mk (many:Int) (h1_:σ'=⟨[(Qa "_law_script",.ref a),(Qa "_law_many",.int many)],B,[]⟩) (h2_:1<=many) (h3_:many<=20):Qqo B a σ'
theorem Qnd (F:FnAt hb f Qg5)(hlim:hb.NoLimit)(hcell:FnC P w hb "_law_cell_at" 1 Qmo)(hrow:FnC P w hb "_law_row_by" 2 Qjb)(grange:Gl hb "range" (.oth (.type "range"))):Contract P w hb (.ref f) 3 Qhk:=by
 refine Contract.of F hlim (by rintro args B own Q ⟨_,a,b,e,_⟩;subst e;rfl) ?_
 rintro C args B own Q F' ⟨rfl,a,ns,rfl,hB,hbits,hQ⟩
 show Sts C (Qan P Qg5) ⟨[(Qa "_law_script",_)],B,[]⟩ _
 refine Qag ?_
 walk_at "m"
 refine ⟨rfl,_,_,_,rfl,hB,by decide,?_⟩
 walk_at "m"
 refine ⟨rfl,_,_,_,rfl,hB,by decide,?_⟩
 walk_at "m"
 have m1:=Qam (Qfj ns 0) (b:=6) (by decide)
 have m2:=Qam (Qfj ns 0) (b:=14) (by decide)
 refine Qk8 ((Qqo B a)) (λhc=>?_) (λhc=>?_) ?_
 . walk_at "m"
   refine ⟨rfl,_,_,_,rfl,hB,by decide,?_⟩
   walk_at "m"
   exact ⟨rfl,7+(Qfj ns 0).fmod 14,rfl,by exact om186 ‹_›,by exact om187 ‹_›⟩
 . walk_at "m"
   exact ⟨rfl,1+(Qfj ns 0).fmod 6,rfl,by exact om188 ‹_›,by exact om189 ‹_›⟩
 rintro u_ ⟨many,rfl,q1,q2⟩
 try dsimp only
 walk_at "m"
 refine Qho F' (by walk_at "m compok") (λu_=>rfl) ?_
 walk_at "m"
 refine Qar (by exact om191 ‹_› ‹_›) (by unfold lim;exact om192 ‹_› ‹_›) λra=>?_
 have hrm:(many.toNat:Int)=many:=by exact om193 ‹_› ‹_›
 refine ⟨_,λi ys σ'=>∃(as:List Addr) (rs:List Rw) (B':MH),σ'=⟨[(Qa "_law_script",.ref a),(Qa "_law_many",.int many)],B',[(ra,.range many.toNat)]⟩/\Sub0 B B'/\ys=as.map MV.ref/\rs.length=i/\TupsAt B' as rs/\(∀r∈rs,Rw.Ok many r),
   ⟨ra,rfl,.inr (.inr ⟨_,.inl (.head _),rfl⟩)⟩,by simp;unfold lim;exact om194 ‹_› ‹_› ‹_›,⟨[],[],B,rfl,Sub0.rfl' B,rfl,rfl,⟨rfl,by simp⟩,by simp⟩,?_,?_⟩
 . rintro C' F1 i ys σ' m ⟨as,rs,B',rfl,hs,rfl,hi,ht,hok⟩ hm
   obtain ⟨hib,rfl⟩:=Qft hm
   refine Qap ?_
   try dsimp only
   refine Qbz ?_
   walk_at "m cex"
   walk_at "m"
   refine ⟨rfl,_,_,_,rfl,hs _ _ hB,by exact om195 ‹_›,?_⟩
   walk_at "m"
   refine ⟨rfl,_,_,_,rfl,Qpi hbits _,by exact om196 ‹_›,by exact om197 ‹_› ‹_›,q2,λc r hr hc=>?_⟩
   try dsimp only [SpK2,SpO2,Qld]
   refine ⟨as++[c],rs++[r],_,rfl,hs.trans (Sub0.set hc),by simp,by simp [hi],(ht.mono (Sub0.set hc)).snoc setB_self,λr' hr'=>?_⟩
   rcases Qaz.mp hr' with h | h
   . exact hok r' h
   . simp at h;subst h;exact hr
 . rintro ys σ' ⟨as,rs,B',rfl,hs,rfl,hi,ht,hok⟩ b hb'
   simp at hi
   have hlen:(rs.length:Int)=many:=by exact om198 ‹_› ‹_›
   refine ⟨_,.trans (.frz hb'.md) (.own (Qw6 _)),hQ b _ rs ⟨by exact om199 ‹_› ‹_› ‹_› ‹_›,by exact om200 ‹_› ‹_› ‹_› ‹_›,by rw [hlen];exact hok⟩ (by exact om201 ‹_› ‹_› ‹_› ‹_›) (hs.trans (Sub0.set hb'.B)) ⟨as,setB_self,ht.mono (Sub0.set hb'.B)⟩ (hs.none hb'.B)⟩
inductive Qds (args:List MV)(B:MH)(own:Own)(Q:MV->MH->Own->Prop):Prop
 | mk (h1_:own=[]) (i:Int) (h2_:args=[.int i]) (h3_:Q (.bool true) B []):Qds args B own Q
theorem Qj8 (F:FnAt hb f Qer)(hlim:hb.NoLimit)(g1:Gl hb "isinstance" (.oth (.builtin "isinstance")))(g2:Gl hb "int" (.oth (.type "int")))(g3:Gl hb "bool" (.oth (.type "bool"))):Contract P w hb (.ref f) (n+1) Qds:=by
 refine Contract.of F hlim (by rintro args B own Q ⟨_,a,e,_⟩;subst e;rfl) ?_
 rintro C args B own Q F' ⟨rfl,i,rfl,hQ⟩
 show Sts C (Qan P Qer) ⟨[(Qa "thing",_)],B,[]⟩ _
 refine Qag ?_
 walk_at "m"
 exact ⟨_,.refl _,hQ⟩
inductive Qew (args:List MV)(B:MH)(own:Own)(Q:MV->MH->Own->Prop):Prop
 | mk (h1_:own=[]) (i a b:Int) (h2_:args=[.int i,.int a,.int b]) (h3_:Q (.bool (decide (a<=i/\i<=b))) B []):Qew args B own Q
theorem Qj7 (F:FnAt hb f Qeq)(hlim:hb.NoLimit)(h1:FnC P w hb "is_number" 1 Qds):Contract P w hb (.ref f) 2 Qew:=by
 refine Contract.of F hlim (by rintro args B own Q ⟨_,a,b,c,e,_⟩;subst e;rfl) ?_
 rintro C args B own Q F' ⟨rfl,i,a,b,rfl,hQ⟩
 show Sts C (Qan P Qeq) ⟨[(Qa "thing",_),(Qa "least",_),(Qa "most",_)],B,[]⟩ _
 refine Qag ?_
 walk_at "m"
 refine ⟨rfl,_,rfl,?_⟩
 walk_at "m"
 refine Qax (λhc=>?_) (λhc=>?_)
 . walk_at "m"
   refine ⟨_,.refl _,?_⟩
   have e:decide (a<=i/\i<=b)=decide (i<=b):=by simp [hc]
   rw [e] at hQ;exact hQ
 . refine ⟨_,.refl _,?_⟩
   have e:decide (a<=i/\i<=b)=decide (a<=i):=by simp [hc]
   rw [e] at hQ;exact hQ
inductive Qje (args:List MV)(B:MH)(own:Own)(Q:MV->MH->Own->Prop):Prop
 | mk (h1_:own=[]) (c:Addr) (many:Int) (r:Rw) (h2_:args=[.ref c,.int many]) (h3_:B c=some (.tup (Rw.mv r))) (h4_:Rw.Ok many r) (h5_:Q (.bool true) B []):Qje args B own Q
theorem Qcu {r:Rw}(h:r.add=true):r.word=Qa "add" := by simp [Rw.word,h]
theorem Qbo {r:Rw}(h:r.add=false):r.word=Qa "more" := by simp [Rw.word,h]
theorem Qpc (F:FnAt hb f Qiw)(hlim:hb.NoLimit)(h1:FnC P w hb "is_number" 1 Qds)(h2:FnC P w hb "is_within" 2 Qew)(glen:Gl hb "len" (.oth (.builtin "len")))(gb:Gl hb "BOXES" (.int 4)):Contract P w hb (.ref f) 3 Qje:=by
 refine Contract.of F hlim (by rintro args B own Q ⟨_,a,b,c,e,_⟩;subst e;rfl) ?_
 rintro C args B own Q F' ⟨rfl,c,many,r,rfl,hB,⟨o1,o2,o3,o4,o5⟩,hQ⟩
 show Sts C (Qan P Qiw) ⟨[(Qa "row",_),(Qa "size",_)],B,[]⟩ _
 refine Qag ?_
 walk_at "m"
 refine Qbi (by rfl) ?_
 walk_at "m"
 refine ⟨rfl,_,_,_,rfl,?_⟩
 walk_at "m"
 refine Qbi ⟨by exact om202 ‹_› ‹_›,by exact om203 ‹_› ‹_›⟩ ?_
 walk_at "m"
 refine ⟨rfl,_,_,_,rfl,?_⟩
 walk_at "m"
 refine Qbi ⟨o3,o4⟩ ?_
 walk_at "m"
 cases hr:r.add with
 | true =>
   refine Qb2 (Qcu hr) ?_
   walk_at "m"
   refine ⟨rfl,_,rfl,?_⟩
   exact ⟨_,.refl _,hQ⟩
 | false =>
   refine Qbl (by rw [Qbo hr];exact Qbk (by decide)) ?_
   walk_at "m"
   refine Qb2 (Qbo hr) ?_
   walk_at "m"
   refine ⟨rfl,_,_,_,rfl,⟨_,.refl _,?_⟩⟩
   have e:decide (0<=r.z/\r.z<=many)=true:=by simpa using o5 hr
   rw [e];exact hQ
theorem TupsAt.get {B:MH}{as:List Addr}{rs:List Rw}(h:TupsAt B as rs){i:Nat}{r:Rw}(hr:rs[i]? = some r):∃c,as[i]? = some c/\B c=some (.tup (Rw.mv r)):=by
 have hi:i<rs.length:=(Qck.mp hr).1
 have hi':i<as.length:=by rw [h.1];exact hi
 have:as[i]? = some as[i]:=Qws hi'
 exact ⟨_,this,h.2 i _ r this hr⟩
theorem TupsAt.geta {B:MH}{as:List Addr}{rs:List Rw}(h:TupsAt B as rs){i:Nat}{c:Addr}(hr:as[i]? = some c):∃r,rs[i]? = some r/\B c=some (.tup (Rw.mv r)):=by
 have hi:i<as.length:=(Qck.mp hr).1
 have hi':i<rs.length:=by rw [<-h.1];exact hi
 have:rs[i]? = some rs[i]:=Qws hi'
 exact ⟨_,this,h.2 i c _ hr this⟩
inductive Qeu (args:List MV)(B:MH)(own:Own)(Q:MV->MH->Own->Prop):Prop
 | mk (h1_:own=[]) (b:Addr) (rs:List Rw) (h2_:args=[.ref b]) (h3_:RowsAt B b rs) (h4_:Qal rs) (h5_:rs.length<=20) (h6_:Q .none B []):Qeu args B own Q
theorem Qj2 (F:FnAt hb f Qem)(hlim:hb.NoLimit)(h1:FnC P w hb "is_row" 3 Qje)(glen:Gl hb "len" (.oth (.builtin "len")))(gm:Gl hb "MOST_ROWS" (.int 20)):Contract P w hb (.ref f) 4 Qeu:=by
 refine Contract.of F hlim (by rintro args B own Q ⟨_,a,b,e,_⟩;subst e;rfl) ?_
 rintro C args B own Q F' ⟨rfl,b,rs,rfl,⟨as,hB,ht⟩,⟨k1,u_,k3⟩,k2,hQ⟩
 show Sts C (Qan P Qem) ⟨[(Qa "rows",_)],B,[]⟩ _
 refine Qag ?_
 have hl:=ht.1
 walk_at "m"
 refine Qb2 (by simp;exact om204 ‹_› ‹_› ‹_› ‹_›) ?_
 walk_at "m"
 refine Qbi (by simp;exact om205 ‹_› ‹_› ‹_› ‹_›) ?_
 walk_at "m"
 refine Qao F' (λu_=>rfl) ?_
 walk_at "m"
 refine ⟨_,λu_ σ'=>σ'=⟨[(Qa "rows",.ref b)],B,[]⟩,⟨b,rfl,.inl hB⟩,⟨_,.refl _,rfl⟩,?_,?_⟩
 . rintro C' F1 i σ' m rfl hm
   rw [Qaa] at hm
   cases e:as[i]? with
   | none=>rw [e] at hm;cases hm
   | some c =>
     rw [e] at hm;simp at hm;subst hm
     obtain ⟨r,hr,hc⟩:=ht.geta e
     walk_at "m"
     refine ⟨rfl,_,_,r,rfl,hc,by rw [Qab,hl];exact k3 r (Qcs hr),?_⟩
     walk_at "m"
     exact ⟨_,.pre [(Qa "row",.ref c)] rfl,rfl⟩
 . rintro C' F1 σ' rfl
   walk_at "m"
   exact ⟨_,.refl _,hQ⟩
noncomputable def Rw.nx (r:Rw):List Int:=if r.add then [r.y] else [r.z,r.y]
inductive Qlr (args:List MV)(B:MH)(own:Own)(Q:MV->MH->Own->Prop):Prop
 | mk (h1_:own=[]) (c:Addr) (r:Rw) (h2_:args=[.ref c]) (h3_:B c=some (.tup (Rw.mv r))) (h4_:∀a,B a=none->Q (.ref a) (setB B a (.list (r.nx.map MV.int))) []):Qlr args B own Q
theorem Qsu (F:FnAt hb f Qle)(hlim:hb.NoLimit):Contract P w hb (.ref f) (n+1) Qlr:=by
 refine Contract.of F hlim (by rintro args B own Q ⟨_,a,b,e,_⟩;subst e;rfl) ?_
 rintro C args B own Q F' ⟨rfl,c,r,rfl,hB,hQ⟩
 show Sts C (Qan P Qle) ⟨[(Qa "row",_)],B,[]⟩ _
 refine Qag ?_
 walk_at "m"
 cases hr:r.add with
 | true =>
   refine Qb2 (Qcu hr) ?_
   walk_at "m"
   intro a ha
   have e:r.nx=[r.y]:=by simp [Rw.nx,hr]
   rw [e] at hQ
   exact ⟨_,.frz ha.md,hQ a ha.B⟩
 | false =>
   refine Qbl (by rw [Qbo hr];exact Qbk (by decide)) ?_
   walk_at "m"
   intro a ha
   have e:r.nx=[r.z,r.y]:=by simp [Rw.nx,hr]
   rw [e] at hQ
   exact ⟨_,.frz ha.md,hQ a ha.B⟩
noncomputable def dfRw:Rw:=⟨true,0,0,0⟩
noncomputable def rowZ (rs:List Rw)(k:Int):Rw:=rs.getD k.toNat dfRw
theorem Qik {rs:List Rw}{k:Int}(h0:0<=k)(h1:k<rs.length):rs[k.toNat]? = some (rowZ rs k):=by
 have:k.toNat<rs.length:=by exact om50 ‹_› ‹_›
 simp [rowZ,this]
theorem Qub {rs:List Rw}(h:Qal rs){k:Int}(h0:0<=k)(h1:k<rs.length):Rw.Ok rs.length (rowZ rs k):=h.2.2 _ (Qcs (Qik h0 h1))
abbrev Gs:=List (List (Option Int))
noncomputable def GoesAt (B:MH)(g:Addr)(gs:Gs):Prop:=∃as:List Addr,B g=some (.list (as.map MV.ref))/\as.length=gs.length/\∀(i:Nat) (c:Addr) (l:List (Option Int)),as[i]? = some c->gs[i]? = some l->B c=some (.list (l.map Qau))
noncomputable def edge (gs:Gs)(a b:Int):Prop:=0<=a/\∃l,gs[a.toNat]? = some l/\some b∈l
noncomputable def inD (rk:KV)(b:Int):Prop:=(dget rk (some b)).isSome=true
inductive Qdf (args:List MV)(B:MH)(own:Own)(Q:MV->MH->Own->Prop):Prop
 | mk (h1_:own=[]) (g r:Addr) (st:Int) (gs:Gs) (rk:KV) (h2_:args=[.ref g,.int st,.ref r]) (h3_:GoesAt B g gs) (h4_:B r=some (.dict rk)) (h5_:gs.length<=1000) (h6_:0<=st) (h7_:st<gs.length) (h8_:(∀i,inD rk i->0<=i/\i<gs.length)) (h9_:∀found:List Int,found.Nodup->(∀a,a∈found↔Rch (edge gs) (inD rk) st a)->(∀a∈found,0<=a/\a<gs.length)->∀d,B d=none->Q (.ref d) (setB B d (.dict (tks found))) []):Qdf args B own Q
inductive Qqm (B:MH)(g:Addr)(r:Addr)(st:Int)(gs:Gs)(rk:KV)(d:Addr)(wa:Addr)(k:Nat)(e:Int)(succ:List (Option Int))(i:Nat)(σ':St):Prop
 | mk (found W:List Int) (h1_:σ'=⟨[(Qa "goes",.ref g),(Qa "start",.int st),(Qa "region",.ref r),(Qa "found",.ref d),(Qa "waiting",.ref wa)],B,[(wa,.list (W.map MV.int)),(d,.dict (tks found))]⟩) (h2_:DInv (edge gs) (inD rk) st gs.length found W e (succ.drop i)) (h3_:found.length+(k-1)=gs.length+W.length):Qqm B g r st gs rk d wa k e succ i σ'
inductive Qqn (B:MH)(g:Addr)(r:Addr)(st:Int)(gs:Gs)(rk:KV)(d:Addr)(wa:Addr)(k:Nat)(σ':St):Prop
 | mk (found W:List Int) (c:Int) (h1_:σ'=⟨[(Qa "goes",.ref g),(Qa "start",.int st),(Qa "region",.ref r),(Qa "found",.ref d),(Qa "waiting",.ref wa)],B,[(wa,.list (W.map MV.int)),(d,.dict (tks found))]⟩) (h2_:DInv (edge gs) (inD rk) st gs.length found W c []) (h3_:found.length+k=gs.length+W.length) (h4_:k<=gs.length):Qqn B g r st gs rk d wa k σ'
theorem Qng (F:FnAt hb f Qg7)(hlim:hb.NoLimit)(glen:Gl hb "len" (.oth (.builtin "len"))):Contract P w hb (.ref f) (n+1) Qdf:=by
 refine Contract.of F hlim (by rintro args B own Q ⟨_,_,_,_,_,_,e,_⟩;subst e;rfl) ?_
 rintro C args B own Q F' ⟨rfl,g,r,st,gs,rk,rfl,⟨as,hg,hlen,hgs⟩,hr,hsz,h0,h1,hrk,hQ⟩
 show Sts C (Qan P Qg7) ⟨[(Qa "goes",_),(Qa "start",_),(Qa "region",_)],B,[]⟩ _
 refine Qag ?_
 walk_at "m"
 refine Qtc F' hlim λd hd=>?_
 walk_at "m"
 refine ⟨_,_,rfl,.head,?_⟩
 walk_at "m"
 intro wa hwa
 walk_at "m"
 refine Qdd F' ((Qqn B g r st gs rk d wa)) ?_ gs.length ⟨_,.refl _,[st],[st],st,rfl,.init h0 h1,Qz6 _ _,Qwb _⟩
 rintro k σ' ⟨found,W,c,rfl,D,hk,hkn⟩
 walk_at "m"
 refine Qax (λhc=>?_) (λhc=>?_)
 . obtain ⟨W',e,rfl⟩:∃W' e,W=W'++[e]:=by
     rcases Qxp W with rfl | ⟨W',e,rfl⟩
     . simp at hc
     . exact ⟨W',e,by simp⟩
   refine Qag ?_
   refine Qao F' (λu_=>rfl) ?_
   walk_at "m"
   refine Qkh F' rfl rfl ?_
   walk_at "m"
   refine ⟨wa,W'.map MV.int,.int e,_,rfl,by rw [Qd1];exact .head,?_⟩
   have he:=D.rng e (D.sub e (by simp))
   obtain ⟨succ,hsu⟩:=Qfe (l:=gs) he.1 he.2
   obtain ⟨sa,hsa⟩:=Qfe (l:=as) he.1 (by rw [hlen];exact he.2)
   rw [Qey] at hk
   have hk1:=dfs1 hk D.len
   refine Qae (.inr hg) he.1 (m:=.ref sa) (by rw [Qaa,hsa];rfl) ?_
   refine ⟨succ.map Qau,(Qqm B g r st gs rk d wa k e succ),⟨sa,rfl,.inl (hgs _ _ _ hsa hsu)⟩,⟨_,.refl _,found,W',rfl,?_,hk1.1⟩,?_,?_⟩
   . refine D.pop λb=>?_
     constructor
     . rintro ⟨_,l,hl,hb'⟩;rw [hsu] at hl;cases hl;simpa using hb'
     . intro hb';exact ⟨he.1,succ,hsu,by simpa using hb'⟩
   . rintro C' F2 i σ' m ⟨found,W,rfl,D,hk⟩ hm
     rw [Qaa] at hm
     obtain ⟨o,ho,rfl⟩:=Qad.mp hm
     have hdr:succ.drop i=o::succ.drop (i+1):=by
       have hlt:=(Qck.mp ho).1
       rw [Qwn hlt];congr 1;rw [Qws hlt] at ho;exact Option.some.inj ho
     rw [hdr] at D
     cases o with
     | none =>
       show Qb6 C' _ MV.none _ _
       walk_at "m"
       refine ⟨_,.pre [(_,_)] rfl,found,W,rfl,D.skip (λb e=>by cases e),hk⟩
     | some b =>
       show Qb6 C' _ (MV.int b) _ _
       walk_at "m"
       refine if_b (λhin=>?_) (λhin=>?_)
       . walk_at "m"
         rw [Qa0]
         refine Qc1 (λhnf=>?_) (λhf=>?_)
         . have hbr:=hrk b hin
           have D2:=D.add hin hnf hbr.1 hbr.2
           have hl1:=D.len
           have hwl:=Qot (g:=MV.int) (dfs3 hk hl1 (Qdg (Qwq k 1) hkn) hsz)
           walk_at "m"
           refine Qa7 F2 (.tail .head) (by rw [Qcl];exact Qb9 hl1 hsz) ?_
           walk_at "m"
           rw [Qfh hnf]
           rw [show List.map MV.int W++[MV.int b]=(W++[b]).map MV.int from by simp]
           exact ⟨_,.pre [(_,_)] rfl,found++[b],W++[b],rfl,D2,by rw [Qey,Qey];exact dfs2 hk⟩
         . walk_at "m"
           exact ⟨_,.pre [(_,_)] rfl,found,W,rfl,D.skip (λb' e u_=>by cases e;exact hf),hk⟩
       . walk_at "m"
         exact ⟨_,.pre [(_,_)] rfl,found,W,rfl,D.skip (λb' e h=>by cases e;rw [inD,hin] at h;cases h),hk⟩
   . rintro C' F2 σ' ⟨found2,W2,rfl,D2,hk2⟩
     refine Qf6 ?_
     refine Qf6 ?_
     refine ⟨_,.refl _,k-1,hk1.2,found2,W2,e,rfl,?_,hk2,Qdg (Qwq k 1) hkn⟩
     . simpa using D2
 . have:W=[]:=by
     cases W with
     | nil=>rfl
     | cons a W=>simp at hc
   subst this
   walk_at "m"
   refine ⟨_,.trans Cv.tl (.frz hd.md),?_⟩
   exact hQ found D.nd D.done D.rng d hd.B
noncomputable def goO (N:Int)(z:Int):Option Int:=if z=N then none else some z
noncomputable def gsOf (rs:List Rw):Gs:=rs.map λr=>r.nx.map (goO rs.length)
noncomputable def LsAt (B:MH)(as:List Addr)(gs:Gs):Prop:=as.length=gs.length/\∀(i:Nat) (c:Addr) (l:List (Option Int)),as[i]? = some c->gs[i]? = some l->B c=some (.list (l.map Qau))
theorem LsAt.mono {B B':MH}{as:List Addr}{gs:Gs}(h:LsAt B as gs)(s:Sub0 B B'):LsAt B' as gs:=⟨h.1,λi c l h1 h2=>s _ _ (h.2 i c l h1 h2)⟩
theorem LsAt.snoc {B:MH}{as:List Addr}{gs:Gs}{c:Addr}{l:List (Option Int)}(h:LsAt B as gs)(hc:B c=some (.list (l.map Qau))):LsAt B (as++[c]) (gs++[l]):=by
 refine ⟨by simp [h.1],λi c' l' h1 h2=>?_⟩
 by_cases hi:i<as.length
 . rw [Qhn hi] at h1
   rw [Qhn (by rw [<-h.1];exact hi)] at h2
   exact h.2 i c' l' h1 h2
 . rw [Qlv (by exact om13 ‹_›)] at h1
   rw [Qlv (by rw [<-h.1];exact om13 ‹_›),<-h.1] at h2
   have e:i-as.length=0:=by
     have:=(Qck.mp h1).1
     simp at this;exact om14 ‹_›
   rw [e] at h1 h2
   simp at h1 h2
   subst h1;subst h2;exact hc
inductive Qeh (args:List MV)(B:MH)(own:Own)(Q:MV->MH->Own->Prop):Prop
 | mk (h1_:own=[]) (b:Addr) (rs:List Rw) (h2_:args=[.ref b]) (h3_:RowsAt B b rs) (h4_:rs.length<=300) (h5_:∀(g:Addr) (B':MH),Sub0 B B'->GoesAt B' g (gsOf rs)->Q (.ref g) B' []):Qeh args B own Q
inductive Qql (B:MH)(b:Addr)(rs:List Rw)(fo:Addr)(i:Nat)(σ':St):Prop
 | mk (as:List Addr) (B':MH) (h1_:σ'=⟨[(Qa "rows",.ref b),(Qa "found",.ref fo)],B',[(fo,.list (as.map MV.ref))]⟩) (h2_:Sub0 B B') (h3_:LsAt B' as ((gsOf rs).take i)):Qql B b rs fo i σ'
theorem Qpd (F:FnAt hb f Qix)(hlim:hb.NoLimit)(hnx:FnC P w hb "nexts" 1 Qlr)(glen:Gl hb "len" (.oth (.builtin "len")))(gint:Gl hb "int" (.oth (.type "int"))):Contract P w hb (.ref f) 2 Qeh:=by
 refine Contract.of F hlim (by rintro args B own Q ⟨_,_,_,e,_⟩;subst e;rfl) ?_
 rintro C args B own Q F' ⟨rfl,b,rs,rfl,⟨ts,hb1,ht⟩,h20,hQ⟩
 show Sts C (Qan P Qix) ⟨[(Qa "rows",_)],B,[]⟩ _
 refine Qag ?_
 walk_at "m"
 intro fo hfo
 walk_at "m"
 refine Qao F' (λu_=>rfl) ?_
 walk_at "m"
 refine ⟨ts.map MV.ref,(Qql B b rs fo),⟨b,rfl,.inl hb1⟩,⟨_,.refl _,[],B,rfl,Sub0.rfl' B,⟨rfl,by simp⟩⟩,?_,?_⟩
 . rintro C' F2 i σ' m ⟨as,B',rfl,hs,hls⟩ hm
   rw [Qaa] at hm
   obtain ⟨c,hc,rfl⟩:=Qad.mp hm
   obtain ⟨r,hr,hrB⟩:=ht.geta hc
   have hi:i<rs.length:=(Qck.mp hr).1
   have hal:(as.map MV.ref).length+1<=lim:=Qot (Qb9 (by rw [hls.1];exact Qdg (List.length_take_le' ..) (by rw [gsOf,Qab];exact h20)) (by decide))
   walk_at "m"
   refine Qa9 F2 (by walk_at "m compok") (λu_=>rfl) ?_
   walk_at "m"
   refine ⟨rfl,c,r,rfl,hs _ _ hrB,λna hna=>?_⟩
   have hs2:Sub0 B (setB B' na (.list (r.nx.map MV.int))):=hs.trans (Sub0.set hna)
   refine ⟨r.nx.map MV.int,λi ys B'' own''=>B''=setB B' na (.list (r.nx.map MV.int))/\own''=[(fo,.list (as.map MV.ref))]/\ys=((r.nx.take i).map (goO rs.length)).map Qau,⟨na,rfl,.inl setB_self⟩,by simp [Rw.nx];split <;> simp [lim],⟨rfl,rfl,rfl⟩,?_,?_⟩
   . rintro C3 F3 i ys B'' own'' m ⟨rfl,rfl,rfl⟩ hm
     rw [Qaa] at hm
     obtain ⟨z,hz,rfl⟩:=Qad.mp hm
     refine Qap ?_
     try dsimp only
     refine Qbz ?_
     walk_at "m cex"
     walk_at "m"
     intro la hla
     have hb2:=hs2 _ _ hb1
     walk_at "m"
     have e1:((ts.map MV.ref).length:Int)=rs.length:=by simp [ht.1]
     rw [e1]
     have et:r.nx.take (i+1)=r.nx.take i++[z]:=by rw [Qwy,hz];rfl
     by_cases hz1:z=rs.length
     . rw [if_pos (by simpa using hz1)]
       refine Qae (.inl (.head _)) (by decide) (m:=.none) rfl ?_
       exact ⟨_,Cv.tl,rfl,rfl,by rw [et];simp [goO,hz1,Qau]⟩
     . rw [if_neg (by simpa using hz1)]
       refine Qae (.inl (.head _)) (by decide) (m:=.int z) rfl ?_
       exact ⟨_,Cv.tl,rfl,rfl,by rw [et];simp [goO,hz1,Qau]⟩
   . rintro ys B'' own'' ⟨rfl,rfl,rfl⟩ la hla
     walk_at "m"
     rw [show as.map MV.ref++[MV.ref la]=(as++[la]).map MV.ref from by simp,show r.nx.take (r.nx.map MV.int).length=r.nx from by simp]
     refine ⟨_,.trans (.pre [(_,_)] rfl) (.frz hla.md),as++[la],setB (setB B' na (.list (r.nx.map MV.int))) la (.list ((r.nx.map (goO rs.length)).map Qau)),rfl,hs2.trans (Sub0.set hla.B),?_⟩
     . have eg:(gsOf rs).take (i+1)=(gsOf rs).take i++[r.nx.map (goO rs.length)]:=by
         rw [Qwy];congr 1;simp [gsOf,hr]
       rw [eg]
       exact ((hls.mono (Sub0.set hna)).mono (Sub0.set hla.B)).snoc setB_self
 . rintro C' F2 σ' ⟨as,B',rfl,hs,hls⟩
   refine Qcr λhfa u_=>?_
   have hfb:B' fo=none:=hfa fo (by simp)
   walk_at "m"
   refine ⟨_,.frz hfo.md,hQ fo _ (hs.trans (Sub0.set hfb)) ⟨as,setB_self,?_⟩⟩
   rw [Qab,ht.1] at hls
   have:(gsOf rs).take rs.length=gsOf rs:=Qxs (by simp [gsOf])
   rw [this] at hls
   exact hls.mono (Sub0.set hfb)
theorem Qaj (rs:List Rw):(gsOf rs).length=rs.length:=by simp [gsOf]
theorem GoesAt.mono {B B':MH}{g:Addr}{gs:Gs}(h:GoesAt B g gs)(s:Sub0 B B'):GoesAt B' g gs:=let ⟨as,h1,h2,h3⟩:=h;⟨as,s _ _ h1,h2,λi c l e1 e2=>s _ _ (h3 i c l e1 e2)⟩
theorem inD_nums0 {N:Nat}{b:Int}:inD (tks (Qat N)) b↔0<=b/\b<N:=by unfold inD;rw [Qa0];simp [mem_nums0]
noncomputable def goTo (rs:List Rw)(a b:Int):Prop:=0<=a/\∃r,rs[a.toNat]? = some r/\b∈r.nx
noncomputable def inR (rs:List Rw)(without:List Int)(b:Int):Prop:=b<rs.length/\b∉without
inductive Qeg (args:List MV)(B:MH)(own:Own)(Q:MV->MH->Own->Prop):Prop
 | mk (h1_:own=[]) (b wi:Addr) (st:Int) (rs:List Rw) (wo:List Int) (h2_:args=[.ref b,.int st,.ref wi]) (h3_:RowsAt B b rs) (h4_:Qal rs) (h5_:B wi=some (.list (wo.map MV.int))) (h6_:0<=st) (h7_:st<rs.length) (h8_:(∀found:List Int,found.Nodup->(∀a,a∈found↔st∉wo/\Rch (goTo rs) (inR rs wo) st a)->(∀a∈found,0<=a/\a<rs.length)->∀d B',Sub0 B B'->B' d=some (.dict (tks found))->Q (.ref d) B' [])):Qeg args B own Q
theorem Qgd {rs:List Rw}(h:Qal rs){i:Nat}{r:Rw}(hr:rs[i]? = some r){b:Int}(hb:b∈r.nx):0<=b/\b<=rs.length:=by
 have ok:=h.2.2 r (Qcs hr)
 unfold Rw.nx at hb
 unfold Rw.Ok at ok
 cases e:r.add with
 | true=>rw [e] at hb;simp at hb;subst hb;exact ⟨ok.2.2.1,ok.2.2.2.1⟩
 | false =>
   rw [e] at hb;simp at hb
   rcases hb with rfl | rfl
   . exact ok.2.2.2.2 e
   . exact ⟨ok.2.2.1,ok.2.2.2.1⟩
inductive Qqj (b:Addr)(wi:Addr)(st:Int)(rs:List Rw)(wo:List Int)(d:Addr)(wa:Addr)(k:Nat)(e:Int)(r:Rw)(Bu:MH)(i:Nat)(σ':St):Prop
 | mk (found W:List Int) (h1_:σ'=⟨[(Qa "_law_rows",.ref b),(Qa "_law_start",.int st),(Qa "_law_without",.ref wi),(Qa "_law_found",.ref d),(Qa "_law_waiting",.ref wa)],Bu,[(wa,.list (W.map MV.int)),(d,.dict (tks found))]⟩) (h2_:DInv (goTo rs) (inR rs wo) st rs.length found W e ((r.nx.drop i).map some)) (h3_:found.length+(k-1)=rs.length+W.length):Qqj b wi st rs wo d wa k e r Bu i σ'
inductive Qqk (B:MH)(b:Addr)(wi:Addr)(st:Int)(rs:List Rw)(wo:List Int)(d:Addr)(wa:Addr)(k:Nat)(σ':St):Prop
 | mk (found W:List Int) (c:Int) (B':MH) (h1_:σ'=⟨[(Qa "_law_rows",.ref b),(Qa "_law_start",.int st),(Qa "_law_without",.ref wi),(Qa "_law_found",.ref d),(Qa "_law_waiting",.ref wa)],B',[(wa,.list (W.map MV.int)),(d,.dict (tks found))]⟩) (h2_:Sub0 B B') (h3_:DInv (goTo rs) (inR rs wo) st rs.length found W c []) (h4_:found.length+k=rs.length+W.length) (h5_:k<=rs.length):Qqk B b wi st rs wo d wa k σ'
theorem Qll (F:FnAt hb f Qf1)(hlim:hb.NoLimit)(glen:Gl hb "len" (.oth (.builtin "len"))):Contract P w hb (.ref f) (n+1) Qeg:=by
 refine Contract.of F hlim (by rintro args B own Q ⟨_,_,_,_,_,_,e,_⟩;subst e;rfl) ?_
 rintro C args B own Q F' ⟨rfl,b,wi,st,rs,wo,rfl,⟨as,hb1,ht⟩,hok,hwi,h0,h1,hQ⟩
 show Sts C (Qan P Qf1) ⟨[(Qa "_law_rows",_),(Qa "_law_start",_),(Qa "_law_without",_)],B,[]⟩ _
 refine Qag ?_
 walk_at "m"
 refine Qcz F' hlim λd hd=>?_
 walk_at "m"
 refine Qax (λhin=>?_) (λhin=>?_)
 . walk_at "m"
   refine ⟨_,.frz hd.md,?_⟩
   exact hQ [] .nil (λa=>by simp [hin]) (by simp) d _ (Sub0.set hd.B) setB_self
 walk_at "m"
 refine Qa7 F' .head (by simp [lim]) ?_
 walk_at "m"
 intro wa hwa
 walk_at "m"
 have h20:=hok.2.1
 refine Qdd F' ((Qqk B b wi st rs wo d wa)) ?_ rs.length ⟨_,.refl _,[st],[st],st,B,rfl,Sub0.rfl' _,.init h0 (by exact om183 ‹_›),by simp;exact om184,Qwb _⟩
 rintro k σ' ⟨found,W,c,B',rfl,hs,D,hk,hkn⟩
 refine Qmm λhfa u_=>?_
 have hBd:B' d=none:=hfa d (by simp)
 walk_at "m"
 refine Qax (λhc=>?_) (λhc=>?_)
 . obtain ⟨W',e,rfl⟩:∃W' e,W=W'++[e]:=by
     rcases Qxp W with rfl | ⟨W',e,rfl⟩
     . simp at hc
     . exact ⟨W',e,by simp⟩
   refine Qag ?_
   walk_at "m"
   refine Qkh F' rfl rfl ?_
   walk_at "m"
   refine ⟨wa,W'.map MV.int,.int e,_,rfl,by rw [Qd1];exact .head,?_⟩
   have he:=D.rng e (D.sub e (by simp))
   obtain ⟨r,hr⟩:∃l,rs[e.toNat]? = some l:=⟨rs[e.toNat]'(by exact om185 ‹_› ‹_› ‹_› ‹_› ‹_›),by simp⟩
   obtain ⟨ra,hra,hrB⟩:=(ht.mono hs).get hr
   refine Qae (.inr (hs _ _ hb1)) he.1 (m:=.ref ra) (by rw [Qaa,hra];rfl) ?_
   walk_at "m"
   intro u1 hu1
   walk_at "m"
   cases hadd:r.add
   case' true =>
     refine Qbl (by rw [Qcu hadd];exact Qbk (by decide)) ?_
     walk_at "m"
     refine Qtw F' (.frz hu1.md) ?_
     rw [show [MV.int r.y]=r.nx.map MV.int from by simp [Rw.nx,hadd]]
     have hs2:Sub0 B' (setB B' u1 (.list (r.nx.map MV.int))):=Sub0.set hu1.B
     have hu2:(setB B' u1 (.list (r.nx.map MV.int))) u1=some (.list (r.nx.map MV.int)):=setB_self
     revert hs2 hu2
     generalize setB B' u1 (.list (r.nx.map MV.int))=Bu
     generalize u1=u
   case' false =>
     refine Qb2 (Qbo hadd) ?_
     walk_at "m"
     intro u2 hu2
     walk_at "m"
     refine Qtw F' (.trans (.frz hu2.md) Cv.tl) ?_
     rw [show [MV.int r.z,MV.int r.y]=r.nx.map MV.int from by simp [Rw.nx,hadd]]
     have hs2:Sub0 B' (setB B' u2 (.list (r.nx.map MV.int))):=Sub0.set hu2.B
     have hu2:(setB B' u2 (.list (r.nx.map MV.int))) u2=some (.list (r.nx.map MV.int)):=setB_self
     revert hs2 hu2
     generalize setB B' u2 (.list (r.nx.map MV.int))=Bu
     generalize u2=u
   all_goals (
     intro hs2 hu2
     have hsB:=hs.trans hs2
     refine Qao F' (λu_=>rfl) ?_
     walk_at "m"
     refine ⟨r.nx.map MV.int,(Qqj b wi st rs wo d wa k e r Bu),⟨u,rfl,.inl hu2⟩,⟨_,.pre [(_,_),(_,_)] rfl,found,W',rfl,?_,by have:=D.len;simp only [Qey,Qxk] at hk;exact om190 ‹_› ‹_›⟩,?_,?_⟩
     . refine D.pop λb=>?_
       constructor
       . rintro ⟨_,l,hl,hb'⟩;rw [hr] at hl;cases hl;simpa using hb'
       . intro hb';exact ⟨he.1,r,hr,by simpa using hb'⟩
     . rintro C' F2 i σ' m ⟨found,W,rfl,D,hk⟩ hm
       rw [Qaa] at hm
       obtain ⟨o,ho,rfl⟩:=Qad.mp hm
       have hdr:r.nx.drop i=o::r.nx.drop (i+1):=by
         have hlt:=(Qck.mp ho).1
         rw [Qwn hlt];congr 1;rw [Qws hlt] at ho;exact Option.some.inj ho
       rw [hdr,Qwk] at D
       have hor:=Qgd hok hr (Qcs ho)
       have hbu:=hsB _ _ hb1
       have hwu:=hsB _ _ hwi
       walk_at "m"
       have el:((as.map MV.ref).length:Int)=(rs.length:Nat):=by simp [ht.1]
       rw [el]
       refine Qax (λhlt=>?_) (λhlt=>?_)
       . walk_at "m"
         rw [Qa0]
         refine Qc1 (λhnf=>?_) (λhf=>?_)
         . walk_at "m"
           refine Qc1 (λhnw=>?_) (λhw=>?_)
           . have D2:=D.add ⟨hlt,hnw⟩ hnf hor.1 hlt
             have hl2:=D2.len
             have hl1:=D.len
             walk_at "m"
             refine Qa7 F2 (.tail .head) (by rw [Qcl];unfold lim;omega) ?_
             walk_at "m"
             rw [Qfh hnf]
             rw [show List.map MV.int W++[MV.int o]=(W++[o]).map MV.int from by simp]
             exact ⟨_,.pre [(_,_)] rfl,found++[o],W++[o],rfl,D2,by simp;exact om208 ‹_› ‹_›⟩
           . walk_at "m"
             exact ⟨_,.pre [(_,_)] rfl,found,W,rfl,D.skip (λb' e h=>by cases e;exact absurd hw h.2),hk⟩
         . walk_at "m"
           exact ⟨_,.pre [(_,_)] rfl,found,W,rfl,D.skip (λb' e u_=>by cases e;exact hf),hk⟩
       . walk_at "m"
         exact ⟨_,.pre [(_,_)] rfl,found,W,rfl,D.skip (λb' e h=>by cases e;exact absurd h.1 hlt),hk⟩
     . rintro C' F2 σ' ⟨found2,W2,rfl,D2,hk2⟩
       refine Qf6 ?_
       refine Qf6 ?_
       refine ⟨_,.refl _,k-1,?_,found2,W2,e,Bu,rfl,hsB,?_,hk2,by exact om209 ‹_› ‹_› ‹_› ‹_›⟩
       . have:=D.len;simp only [Qey,Qxk] at hk;exact om210 ‹_› ‹_› ‹_›
       . simpa using D2)
 . have:W=[]:=by
     cases W with
     | nil=>rfl
     | cons a W=>simp at hc
   subst this
   walk_at "m"
   refine ⟨_,.trans Cv.tl (.frz hd.md),?_⟩
   exact hQ found D.nd (λa=>by rw [D.done a];simp [hin]) D.rng d _ (hs.trans (Sub0.set hBd)) setB_self
noncomputable def ReachAt (B:MH)(ds:List Addr)(rs:List Rw)(m:Nat):Prop:=ds.length=m/\∀(i:Nat) (d:Addr),ds[i]? = some d->∃found:List Int,B d=some (.dict (tks found))/\∀a,a∈found↔Rch (goTo rs) (inR rs []) i a
theorem ReachAt.mono {B B':MH}{ds:List Addr}{rs:List Rw}{m:Nat}(h:ReachAt B ds rs m)(s:Sub0 B B'):ReachAt B' ds rs m:=⟨h.1,λi d h1=>let ⟨fo,h2,h3⟩:=h.2 i d h1;⟨fo,s _ _ h2,h3⟩⟩
theorem ReachAt.snoc {B:MH}{ds:List Addr}{rs:List Rw}{m:Nat}{d:Addr}{found:List Int}(h:ReachAt B ds rs m)(hc:B d=some (.dict (tks found)))(hf:∀a,a∈found↔Rch (goTo rs) (inR rs []) m a):ReachAt B (ds++[d]) rs (m+1):=by
 refine ⟨by simp [h.1],λi c h1=>?_⟩
 by_cases hi:i<ds.length
 . rw [Qhn hi] at h1
   exact h.2 i c h1
 . rw [Qlv (by exact om13 ‹_›)] at h1
   have hl:=h.1
   have e:i-ds.length=0:=by
     have:=(Qck.mp h1).1
     simp at this;exact om14 ‹_›
   rw [e] at h1
   simp at h1
   subst h1
   have:i=m:=by exact om15 ‹_› ‹_› ‹_›
   subst this
   exact ⟨found,hc,hf⟩
inductive Qdr (args:List MV)(B:MH)(own:Own)(Q:MV->MH->Own->Prop):Prop
 | mk (h1_:own=[]) (b:Addr) (rs:List Rw) (h2_:args=[.ref b]) (h3_:RowsAt B b rs) (h4_:Qal rs) (h5_:∀(a:Addr) (ds:List Addr) (B':MH),Sub0 B B'->B' a=some (.list (ds.map MV.ref))->ReachAt B' ds rs rs.length->Q (.ref a) B' []):Qdr args B own Q
inductive Qqi (B:MH)(rs:List Rw)(ra:Addr)(i:Nat)(ys:List MV)(B':MH)(own':Own):Prop
 | mk (h1_:own'=[(ra,.range rs.length)]) (h2_:Sub0 B B') (ds) (h3_:ys=ds.map MV.ref) (h4_:ReachAt B' ds rs i):Qqi B rs ra i ys B' own'
theorem Qj5 (F:FnAt hb f Qeo)(hlim:hb.NoLimit)(h1:FnC P w hb "_law_come" 1 Qeg)(glen:Gl hb "len" (.oth (.builtin "len")))(gr:Gl hb "range" (.oth (.type "range"))):Contract P w hb (.ref f) 2 Qdr:=by
 refine Contract.of F hlim (by rintro args B own Q ⟨_,_,_,e,_⟩;subst e;rfl) ?_
 rintro C args B own Q F' ⟨rfl,b,rs,rfl,⟨as,hb1,ht⟩,hok,hQ⟩
 show Sts C (Qan P Qeo) ⟨[(Qa "_law_rows",_)],B,[]⟩ _
 refine Qag ?_
 walk_at "m"
 refine Qa9 F' (by walk_at "m compok") (λu_=>rfl) ?_
 walk_at "m"
 have el:((as.map MV.ref).length:Int)=(rs.length:Nat):=by simp [ht.1]
 rw [el]
 refine Qar (by exact om180 ‹_›) (by have:=hok.2.1;unfold lim;exact om181 ‹_› ‹_›) λra=>?_
 rw [Qej]
 refine ⟨_,(Qqi B rs ra),⟨ra,rfl,.inr (.inr ⟨_,.inl (.head _),(Qav _).symm⟩)⟩,by rw [Qab,Qai];have:=hok.2.1;unfold lim;exact om182 ‹_› ‹_›,⟨rfl,Sub0.rfl' _,[],rfl,rfl,by simp⟩,?_,?_⟩
 . rintro C' F2 i ys B' own' m ⟨rfl,hs,ds,rfl,hd⟩ hm
   rw [Qaa] at hm
   obtain ⟨z,hz,rfl⟩:=Qad.mp hm
   obtain ⟨hi,rfl⟩:=Qdb hz
   refine Qap ?_
   try dsimp only
   refine Qbz ?_
   walk_at "m cex"
   walk_at "m"
   intro la hla
   refine Exs_cv F2 (.frz hla.md) ?_
   have hs2:Sub0 B' (setB B' la (.list [])):=Sub0.set hla.B
   walk_at "m"
   refine ⟨rfl,b,la,i,rs,[],rfl,RowsAt.mono ⟨as,hb1,ht⟩ (hs.trans hs2),hok,setB_self,by exact om53,by exact Qu2 ‹_›,λfound u_ hfo u_ d B3 hs3 hd3=>?_⟩
   refine ⟨_,.refl _,rfl,hs.trans (hs2.trans hs3),ds++[d],by simp,?_⟩
   exact (hd.mono (hs2.trans hs3)).snoc hd3 λa=>by rw [hfo a];simp
 . rintro ys B' own' ⟨rfl,hs,ds,rfl,hd⟩ la hla
   rw [Qab,Qai] at hd
   walk_at "m"
   exact ⟨_,.trans (.frz hla.md) Cv.none,hQ la ds _ (hs.trans (Sub0.set hla.B)) setB_self (hd.mono (Sub0.set hla.B))⟩
theorem Qmb {rs:List Rw}(hok:Qal rs){a b:Int}(ha:0<=a/\a<rs.length):Rch (edge (gsOf rs)) (inD (tks (Qat rs.length))) a b↔Rch (goTo rs) (inR rs []) a b:=by
 have key:∀x y:Int,(edge (gsOf rs) x y/\inD (tks (Qat rs.length)) y)↔(goTo rs x y/\inR rs [] y):=by
   intro x y
   rw [inD_nums0]
   unfold edge goTo inR gsOf
   constructor
   . rintro ⟨⟨h0,l,hl,hy⟩,h1,h2⟩
     rw [Qaa] at hl
     obtain ⟨r,hr,rfl⟩:=Qad.mp hl
     obtain ⟨z,hz,e⟩:=Qc6.mp hy
     unfold goO at e
     split at e
     . cases e
     . cases e;exact ⟨⟨h0,r,hr,hz⟩,h2,by simp⟩
   . rintro ⟨⟨h0,r,hr,hy⟩,h2,u_⟩
     have hn:=Qgd hok hr hy
     refine ⟨⟨h0,r.nx.map (goO rs.length),by rw [Qaa,hr];rfl,?_⟩,hn.1,h2⟩
     refine Qc6.mpr ⟨y,hy,?_⟩
     unfold goO
     rw [if_neg (by exact Qu0 ‹_›)]
 exact ⟨Rch.mono λx y h1 h2=>(key x y).mp ⟨h1,h2⟩,Rch.mono λx y h1 h2=>(key x y).mpr ⟨h1,h2⟩⟩
theorem Qe4 {kvs:KV}{k:Option Int}:(dget kvs k).isSome=decide (k∈kvs.map (·.1)):=by
 induction kvs with
 | nil=>simp [dget]
 | cons p kvs ih =>
   obtain ⟨y,v⟩:=p
   simp only [dget]
   by_cases e:y=k
   . simp [e]
   . rw [if_neg e,ih];simp [Ne.symm e]
theorem Qvh {kvs:KV}{i:Nat}{k:Option Int}{m:MV}(hn:(kvs.map (·.1)).Nodup)(h:kvs[i]? = some (k,m)):dget kvs k=some m:=by
 induction kvs generalizing i with
 | nil=>simp at h
 | cons p kvs ih =>
   obtain ⟨y,v⟩:=p
   simp only [Qwk,Qnn] at hn
   simp only [dget]
   cases i with
   | zero=>simp at h;obtain ⟨rfl,rfl⟩:=h;simp
   | succ i =>
     simp at h
     rw [if_neg (λe=>hn.1 (by rw [e];exact Qc6.mpr ⟨_,Qcs h,rfl⟩))]
     exact ih hn.2 h
theorem Qi2 {kvs:KV}{k:Option Int}{m:MV}(h:k∉kvs.map (·.1)):dput kvs k m=kvs++[(k,m)]:=by
 induction kvs with
 | nil=>rfl
 | cons p kvs ih =>
   obtain ⟨y,v⟩:=p
   simp only [Qwk,Qch,not_or] at h
   simp only [dput]
   rw [if_neg (Ne.symm h.1),ih h.2];rfl
theorem Qo7 {kvs:KV}{k:Option Int}{m:MV}(h:dget kvs k=some m):dput kvs k m=kvs:=by
 induction kvs with
 | nil=>simp [dget] at h
 | cons p kvs ih =>
   obtain ⟨y,v⟩:=p
   simp only [dget] at h
   simp only [dput]
   set_option tactic.hygienic true in split at h
   . rename_i e;rw [if_pos e];cases h;rfl
   . rename_i e;rw [if_neg e,ih h]
inductive Qb7 (args:List MV)(B:MH)(own:Own)(Q:MV->MH->Own->Prop):Prop
 | mk (h1_:own=[]) (c:Addr) (r:Rw) (h2_:args=[.ref c]) (h3_:B c=some (.tup (Rw.mv r))) (h4_:∀a,B a=none->Q (.ref a) (setB B a (.list (r.nx.map MV.int))) []):Qb7 args B own Q
theorem Sub0.unB {B B':MH}{d:Addr}(h:Sub0 B B')(hd:B d=Option.none):Sub0 B (Mine.unB B' d):=λa o ha=>by
 rw [Qgb (λe=>by subst e;rw [hd] at ha;cases ha)];exact h a o ha
theorem Qgp (l:List Int):(tks l).map (λp=>Qau p.1)=l.map MV.int:=by simp [tks,Qau,Function.comp_def]
inductive Qev (args:List MV)(B:MH)(own:Own)(Q:MV->MH->Own->Prop):Prop
 | mk (h1_:own=[]) (b:Addr) (rs:List Rw) (h2_:args=[.ref b]) (h3_:RowsAt B b rs) (h4_:Qal rs) (h5_:∀(a:Addr) (ns:List Int) (B':MH),Sub0 B B'->B' a=some (.list (ns.map MV.int))->ns.Pairwise (·<=·)->ns.Nodup->ns.length<=rs.length->(∀x,x∈ns↔Rch (goTo rs) (inR rs []) 0 x)->Q (.ref a) B' []):Qev args B own Q
theorem Qj3 (F:FnAt hb f Qcp)(hlim:hb.NoLimit)(h2:FnC P w hb "goings" 2 Qeh)(h3:FnC P w hb "come_to" 1 Qdf)(gd:GlD hb)(glen:Gl hb "len" (.oth (.builtin "len")))(gr:Gl hb "range" (.oth (.type "range")))(gli:Gl hb "list" (.oth (.type "list")))(gso:Gl hb "sorted" (.oth (.builtin "sorted"))):Contract P w hb (.ref f) 3 Qev:=by
 refine Contract.of F hlim (by rintro args B own Q ⟨_,_,_,e,_⟩;subst e;rfl) ?_
 rintro C args B own Q F' ⟨rfl,b,rs,rfl,⟨as,hb1,ht⟩,hok,hQ⟩
 show Sts C (Qan P Qcp) ⟨[(Qa "rows",_)],B,[]⟩ _
 have h20:=hok.2.1
 have h01:=hok.1
 have el:((as.map MV.ref).length:Int)=(rs.length:Nat):=by simp [ht.1]
 refine Qag ?_
 walk_at "m"
 refine Qct F' hlim gd rfl (by walk_at "m compok") (λu_=>rfl) (by decide) ?_
 walk_at "m"
 rw [el]
 refine Qar (Qwu _) (Qay h20) λra=>?_
 refine ⟨Qat rs.length,⟨ra,rfl,.inr (.inr ⟨_,.inl (.head _),by rw [Qej];exact (Qav _).symm⟩)⟩,Qa8 _,by rw [Qai];exact Qay h20,λB2 d hs2 hd hdm hdo=>?_⟩
 have hs3:Sub0 B (setB B2 d (.dict (tks (Qat rs.length)))):=hs2.trans (Sub0.set hd)
 have hd3:(setB B2 d (.dict (tks (Qat rs.length)))) d=some (.dict (tks (Qat rs.length))):=setB_self
 refine Qcx F' (.trans (.frz hdm) Cv.none) ?_
 revert hs3 hd3
 generalize setB B2 d (.dict (tks (Qat rs.length)))=B3
 intro hs3 hd3
 walk_at "m"
 refine ⟨rfl,_,_,rfl,RowsAt.mono ⟨as,hb1,ht⟩ hs3,h20,λg B4 hs4 hg=>?_⟩
 walk_at "m"
 refine ⟨rfl,g,d,0,gsOf rs,_,rfl,hg,hs4 _ _ hd3,by rw [Qaj];exact k300 h20,Qw0 _,by rw [Qaj];exact Qw9.mpr h01,λi hi=>by rw [Qaj];exact inD_nums0.mp hi,λfound hnd hfo hrng e he=>?_⟩
 have hs5:Sub0 B4 (setB B4 e (.dict (tks found))):=Sub0.set he
 have he5:(setB B4 e (.dict (tks found))) e=some (.dict (tks found)):=setB_self
 revert hs5 he5
 generalize setB B4 e (.dict (tks found))=B5
 intro hs5 he5
 have hfl:found.length<=rs.length:=by
   have:=Qaf (gsOf rs).length found hnd hrng
   rw [Qaj] at this;exact this
 walk_at "m"
 refine Qby F' (.inr he5) λl1 hl1=>?_
 rw [Qgp]
 walk_at "m"
 refine Qba F' (.inl (.head _)) λns l2 hp hso hl2=>?_
 refine ⟨_,.trans (.frz hl2.md) Cv.none,hQ l2 ns _ ((hs3.trans (hs4.trans hs5)).trans (Sub0.set hl2.B)) setB_self hso (hp.nodup_iff.mpr hnd) (by rw [hp.length_eq];exact hfl) λx=>?_⟩
 rw [hp.mem_iff,hfo x]
 exact Qmb hok ⟨Qw0 _,Qw9.mpr h01⟩
theorem Qbh {rs:List Rw}(hok:Qal rs)(wo:List Int)(x y:Int):(edge (gsOf rs) x y/\y∉wo)↔(goTo rs x y/\inR rs wo y):=by
 unfold edge goTo inR gsOf
 constructor
 . rintro ⟨⟨h0,l,hl,hy⟩,h1⟩
   rw [Qaa] at hl
   obtain ⟨r,hr,rfl⟩:=Qad.mp hl
   obtain ⟨z,hz,e⟩:=Qc6.mp hy
   unfold goO at e
   split at e
   . cases e
   . cases e;have:=Qgd hok hr hz;exact ⟨⟨h0,r,hr,hz⟩,by exact om178 ‹_› ‹_›,h1⟩
 . rintro ⟨⟨h0,r,hr,hy⟩,h2,h3⟩
   have hn:=Qgd hok hr hy
   refine ⟨⟨h0,r.nx.map (goO rs.length),by rw [Qaa,hr];rfl,?_⟩,h3⟩
   refine Qc6.mpr ⟨y,hy,?_⟩
   unfold goO
   rw [if_neg (by exact Qu0 ‹_›)]
structure IsWay (rs:List Rw)(wo:List Int)(start goal:Int)(p:List Int):Prop where
 len:∃k,p.length=k+1/\Wk (goTo rs) (inR rs wo) (start∉wo) start k goal/\∀j,Wk (goTo rs) (inR rs wo) (start∉wo) start j goal->k<=j
 hd:p[0]? = some start
 lst:p[p.length-1]? = some goal
 lk:∀(i:Nat) (a b:Int),p[i]? = some a->p[i+1]? = some b->goTo rs a b
 rng:∀x∈p,0<=x/\x<(rs.length:Nat)/\x∉wo
 small:p.length<=rs.length
inductive S_way (args:List MV)(B:MH)(own:Own)(Q:MV->MH->Own->Prop):Prop
 | mk (h1_:own=[]) (b wi:Addr) (start goal:Int) (rs:List Rw) (wo:List Int) (h2_:args=[.ref b,.int start,.int goal,.ref wi]) (h3_:RowsAt B b rs) (h4_:Qal rs) (h5_:B wi=some (.list (wo.map MV.int))) (h6_:0<=start) (h7_:start<rs.length) (h8_:0<=goal) (h9_:goal<rs.length) (h10_:((∀k,¬Wk (goTo rs) (inR rs wo) (start∉wo) start k goal)->∀B',Sub0 B B'->Q .none B' [])) (h11_:(∀(a:Addr) (p:List Int) (B':MH),Sub0 B B'->B' a=some (.list (p.map MV.int))->IsWay rs wo start goal p->Q (.ref a) B' [])):S_way args B own Q
end
section
open PySem
variable {hb:Heap} {w:World} {f:Addr} {n:Nat}
inductive LsI (B:MH):List Addr->List (List Int)->Prop
 | nil:LsI B [] []
 | cons {a:Addr} {as:List Addr} {l:List Int} {ls:List (List Int)}:B a=some (.list (l.map MV.int))->LsI B as ls->LsI B (a::as) (l::ls)
theorem LsI.mono {B B':MH}(s:Sub0 B B'){as:List Addr}{ls:List (List Int)}(g:LsI B as ls):LsI B' as ls:=by
 induction g with
 | nil=>exact .nil
 | cons h _ ih=>exact .cons (s _ _ h) ih
theorem LsI.length {B:MH}{as:List Addr}{ls:List (List Int)}(g:LsI B as ls):as.length=ls.length:=by
 induction g with
 | nil=>rfl
 | cons _ _ ih=>exact congrArg Nat.succ ih
theorem LsI.snoc {B:MH}{a:Addr}{l:List Int}(hl:B a=some (.list (l.map MV.int))):∀{as:List Addr} {ls:List (List Int)},LsI B as ls->LsI B (as++[a]) (ls++[l])
 | _,_,.nil=>.cons hl .nil
 | _,_,.cons h h'=>.cons h (h'.snoc hl)
theorem LsI.get {B:MH}{as:List Addr}{ls:List (List Int)}(g:LsI B as ls):∀{i:Nat} {a:Addr},as[i]? = some a->∃l,ls[i]? = some l/\B a=some (.list (l.map MV.int)):=by
 induction g with
 | nil=>intro i a h;simp at h
 | cons h _ ih =>
   intro i a e
   cases i with
   | zero=>simp at e;subst e;exact ⟨_,rfl,h⟩
   | succ i=>exact ih (i:=i) e
inductive BhAt (B:MH)(W:Int->Int->Prop):List Addr->List Addr->List Int->Prop
 | nil:BhAt B W [] [] []
 | cons {t d:Addr} {x:Int} {found:List Int} {ts ds:List Addr} {l:List Int}:B t=some (.tup [.int x,.ref d])->B d=some (.dict (tks found))->(∀a,a∈found↔W x a)->BhAt B W ts ds l->BhAt B W (t::ts) (d::ds) (x::l)
theorem BhAt.mono {B B':MH}{W:Int->Int->Prop}(s:Sub0 B B'){ts ds:List Addr}{l:List Int}(g:BhAt B W ts ds l):BhAt B' W ts ds l:=by
 induction g with
 | nil=>exact .nil
 | cons h1 h2 h3 _ ih=>exact .cons (s _ _ h1) (s _ _ h2) h3 ih
theorem BhAt.snoc {B:MH}{W:Int->Int->Prop}{t d:Addr}{x:Int}{found:List Int}(h1:B t=some (.tup [.int x,.ref d]))(h2:B d=some (.dict (tks found)))(h3:∀a,a∈found↔W x a){ts ds:List Addr}{l:List Int}(g:BhAt B W ts ds l):BhAt B W (ts++[t]) (ds++[d]) (l++[x]):=by
 induction g with
 | nil=>exact .cons h1 h2 h3 .nil
 | cons g1 g2 g3 _ ih=>exact .cons g1 g2 g3 ih
noncomputable def bhKV:List Int->List Addr->KV
 | x::l,d::ds=>(some x,.ref d)::bhKV l ds
 | _,_=>[]
theorem BhAt.keys {B:MH}{W:Int->Int->Prop}:∀{ts ds:List Addr} {l:List Int},BhAt B W ts ds l->(bhKV l ds).map (·.1)=l.map some/\ts.length=(bhKV l ds).length
 | _,_,_,.nil=>⟨rfl,rfl⟩
 | _,_,_,.cons _ _ _ h=>⟨by rw [bhKV,Qwk,h.keys.1];rfl,by rw [bhKV,Qwo,Qwo,h.keys.2]⟩
theorem BhAt.tup {B:MH}{W:Int->Int->Prop}{ts ds:List Addr}{l:List Int}(g:BhAt B W ts ds l):∀(i:Nat) (t:Addr) (p:Option Int×MV),ts[i]? = some t->(bhKV l ds)[i]? = some p->B t=some (.tup [Qau p.1,p.2]):=by
 induction g with
 | nil=>intro i t p h;simp at h
 | cons g1 _ _ _ ih =>
   intro i t p h h'
   cases i with
   | zero=>simp [bhKV] at h h';subst h h';exact g1
   | succ i=>exact ih i t p h h'
theorem BhAt.get {B:MH}{W:Int->Int->Prop}{ts ds:List Addr}{l:List Int}(g:BhAt B W ts ds l){x:Int}:x∈l->∃d found,dget (bhKV l ds) (some x)=some (.ref d)/\B d=some (.dict (tks found))/\∀a,a∈found↔W x a:=by
 induction g with
 | nil=>intro h;simp at h
 | @cons _ d y _ _ _ _ _ g2 g3 _ ih =>
   intro h
   unfold bhKV dget
   by_cases e:y=x
   . subst e
     exact ⟨d,_,if_pos rfl,g2,g3⟩
   . rw [if_neg (λh=>e (Option.some.inj h))]
     exact ih ((Qch.mp h).resolve_left λh=>e h.symm)
theorem inD_tks {S:List Int}{b:Int}:inD (tks S) b↔b∈S:=by unfold inD;rw [Qa0];simp
theorem Que {gs:Gs}{S:List Int}{a b:Int}:Rch (edge gs) (inD (tks S)) a b↔RS (edge gs) S a b :=
 ⟨λh=>h.weak λu_=>inD_tks.mp,λh=>h.weak λu_=>inD_tks.mpr⟩
theorem GoesAt.mono' {B B':MH}{g:Addr}{gs:Gs}(h:GoesAt B g gs)(s:Sub0 B B'):GoesAt B' g gs:=let ⟨as,h1,h2,h3⟩:=h;⟨as,s _ _ h1,h2,λi c l e1 e2=>s _ _ (h3 i c l e1 e2)⟩
theorem Qak {l:List Int}{i:Nat}{x:Int}(h:l[i]? = some x):l.take (i+1)=l.take i++[x]:=by rw [Qwy,h];rfl
inductive Qde (args:List MV)(B:MH)(own:Own)(Q:MV->MH->Own->Prop):Prop
 | mk (h1_:own=[]) (g s:Addr) (gs:Gs) (S:List Int) (h2_:args=[.ref g,.ref s]) (h3_:GoesAt B g gs) (h4_:B s=some (.list (S.map MV.int))) (h5_:gs.length<=1000) (h6_:S.Nodup) (h7_:S.length<400) (h8_:(∀x∈S,0<=x/\x<gs.length)) (h9_:∀(a:Addr) (as:List Addr) (RL:List (List Int)) (B':MH),Sub0 B B'->B' a=some (.list (as.map MV.ref))->LsI B' as RL->Rings (edge gs) S RL->Q (.ref a) B' []):Qde args B own Q
inductive Qrb (gs:Gs)(S:List Int)(fd:Addr)(kn:Addr)(as:List Addr)(K:List Int)(x:Int)(ns2:List Int)(B7:MH)(j:Nat)(ys:List MV)(B':MH)(own':Own):Prop
 | mk (h1_:own'=[(kn,.dict (tks K)),(fd,.list (as.map MV.ref))]) (h2_:B'=B7) (R:List Int) (h3_:ys=R.map MV.int) (h4_:R.Sublist (ns2.take j)) (h5_:∀y,y∈R↔y∈ns2.take j/\mutS (edge gs) S x y):Qrb gs S fd kn as K x ns2 B7 j ys B' own'
inductive Qlt (g:Addr)(s:Addr)(gs:Gs)(S:List Int)(rg:Addr)(be:Addr)(fd:Addr)(kn:Addr)(ns:List Int)(B5:MH)(i:Nat)(σ':St):Prop
 | mk (B':MH) (as:List Addr) (RL:List (List Int)) (K:List Int) (h1_:σ'=⟨[(Qa "goes",.ref g),(Qa "some",.ref s),(Qa "region",.ref rg),(Qa "behind",.ref be),(Qa "found",.ref fd),(Qa "known",.ref kn)],B',[(kn,.dict (tks K)),(fd,.list (as.map MV.ref))]⟩) (h2_:Sub0 B5 B') (h3_:LsI B' as RL) (h4_:RI (edge gs) S (ns.take i) RL K) (h5_:K.Nodup):Qlt g s gs S rg be fd kn ns B5 i σ'
inductive Qrc (gs:Gs)(S:List Int)(B2:MH)(i:Nat)(ys:List MV)(B':MH)(own':Own):Prop
 | mk (h1_:own'=[]) (h2_:Sub0 B2 B') (ts ds) (h3_:ys=ts.map MV.ref) (h4_:BhAt B' (RS (edge gs) S) ts ds (S.take i)):Qrc gs S B2 i ys B' own'
theorem Qlj (F:FnAt hb f Qfz)(hlim:hb.NoLimit)(h1:FnC P w hb "come_to" 1 Qdf)(gd:GlD hb)(glen:Gl hb "len" (.oth (.builtin "len")))(gso:Gl hb "sorted" (.oth (.builtin "sorted"))):Contract P w hb (.ref f) 2 Qde:=by
 refine Contract.of F hlim (by rintro args B own Q ⟨_,_,_,_,_,e,_⟩;subst e;rfl) ?_
 rintro C args B own Q F' ⟨rfl,g,s,gs,S,rfl,hg,hs,hgl,hnd,h64,hrg,hQ⟩
 have hSl:S.length<=lim:=Qdg (Qxb h64) (by unfold lim;decide)
 show Sts C (Qan P Qfz) ⟨[(Qa "goes",_),(Qa "some",_)],B,[]⟩ _
 refine Qag ?_
 walk_at "m"
 refine Qct F' hlim gd rfl (by walk_at "m compok") (λu_=>rfl) (by decide) ?_
 walk_at "m"
 refine ⟨S,⟨s,rfl,.inl hs⟩,hnd,hSl,λB1 rg s1 hd1 hm1 ho1=>?_⟩
 refine Qa2 F' [(rg,_)] [] (λu_ u_ h=>nomatch h) λB2 s2 g2=>?_
 have q2:=g2 _ (.head _)
 dsimp only at q2
 have s12:Sub0 B B2:=s1.trans s2
 clear g2 s2 hd1 hm1 ho1 s1
 walk_at "m"
 refine Qfn F'.ok gd (F'.kind rfl) rfl rfl ?_
 refine Qdt rfl ?_
 refine Qa9 F' (by walk_at "m compok") (λu_=>rfl) ?_
 walk_at "m"
 refine ⟨S.map MV.int,(Qrc gs S B2),⟨s,rfl,.inl (s12 _ _ hs)⟩,by rw [Qab];exact hSl,⟨rfl,Sub0.rfl' _,[],[],rfl,.nil⟩,?_,?_⟩
 . rintro C1 F1 i ys B' own' m ⟨rfl,s3,ts,ds,rfl,hbh⟩ hm
   rw [Qaa] at hm
   obtain ⟨x,hx,rfl⟩:=Qad.mp hm
   have hxS:=Qcs hx
   have hxr:=hrg x hxS
   refine Qap ?_
   try dsimp only
   refine Qbz ?_
   walk_at "m cex"
   walk_at "m"
   refine ⟨rfl,g,rg,x,gs,_,rfl,hg.mono' (s12.trans s3),s3 _ _ q2,hgl,hxr.1,hxr.2,λi hi=>hrg i (inD_tks.mp hi),λfound u_ hfo u_ d hd=>?_⟩
   have s4:=Sub0.set (o:=.dict (tks found)) hd
   have q4:=setB_self (B:=B') (a:=d) (o:=.dict (tks found))
   generalize setB B' d (.dict (tks found))=B4 at s4 q4 ⊢
   walk_at "m"
   intro t ht
   have s5:=Sub0.set (o:=.tup [.int x,.ref d]) ht.B
   refine ⟨_,.frz ht.md,rfl,s3.trans (s4.trans s5),ts++[t],ds++[d],by rw [Qd1];rfl,?_⟩
   rw [Qak hx]
   exact (hbh.mono (s4.trans s5)).snoc setB_self (s5 _ _ q4) λa=>(hfo a).trans Que
 rintro ys B3 own' ⟨rfl,s3,ts,ds,rfl,hbh⟩ la hla
 rw [Qab,Qhi] at hbh
 walk_at "m"
 refine Qfp F' hlim (.inl (.head _)) hbh.keys.2 (by rw [hbh.keys.1];exact Qbf hnd) (λi t p e1 e2=>.inr (hbh.tup i t p e1 e2)) λbe hbe=>?_
 refine Qa2 F' [(be,_),(la,_)] [] (λu_ u_ h=>nomatch h) λB4 s4 g4=>?_
 have q4:=g4 _ (.head _)
 dsimp only at q4
 replace hbh:=hbh.mono s4
 have s24:=s3.trans s4
 clear g4 s4 s3 hla hbe
 walk_at "m"
 intro fd hfd
 walk_at "m"
 refine Qcz F' hlim λkn hkn=>?_
 walk_at "m"
 refine Qao F' (λu_=>rfl) ?_
 refine Qmp F' ?_
 have hs4:=s24 _ _ (s12 _ _ hs)
 walk_at "m"
 refine Qba F' (.inr hs4) λns so hp hso hsof=>?_
 refine ⟨[(so,_)],_,rfl,(λu_ u_ h=>nomatch h),λB5 s5 g5=>?_⟩
 have q5:=g5 _ (.head _)
 dsimp only at q5
 clear g5
 replace hbh:=hbh.mono s5
 replace q4:=s5 _ _ q4
 have hs5:=s5 _ _ hs4
 have sB5:=s12.trans (s24.trans s5)
 refine ⟨ns.map MV.int,(Qlt g s gs S rg be fd kn ns B5),⟨so,rfl,.inl q5⟩,⟨_,.refl _,B5,[],[],[],rfl,Sub0.rfl' _,.nil,.init,.nil⟩,?_,?_⟩
 . clear hsof hkn hfd hs4 s24 s12 q2 s5
   rintro C1 F1 i σ' m ⟨B6,as,RL,K,rfl,s6,hls,hri,hKn⟩ hm
   rw [Qaa] at hm
   obtain ⟨x,hx,rfl⟩:=Qad.mp hm
   have hxS:x∈S:=hp.mem_iff.mp (Qcs hx)
   obtain ⟨dx,fx,e1,e2,e3⟩:=(hbh.mono s6).get hxS
   have hbe6:=s6 _ _ q4
   have hs6:=s6 _ _ hs5
   walk_at "m"
   refine Qef F1 (by walk_at "m compok") (λu_=>rfl) (Qco F1 rfl rfl (by decide)) ?_
   refine Qmp F1 ?_
   walk_at "m"
   refine Qba F1 (.inr hs6) λns2 so2 hp2 hso2 hsof2=>?_
   refine ⟨[(so2,_)],_,rfl,(λu_ u_ h=>nomatch h),λB7 s7 g7=>?_⟩
   have q7:=g7 _ (.head _)
   dsimp only at q7
   have hbe7:=s7 _ _ hbe6
   have e2':=s7 _ _ e2
   have hbh7:=hbh.mono (s6.trans s7)
   refine ⟨ns2.map MV.int,(Qrb gs S fd kn as K x ns2 B7),⟨so2,rfl,.inl q7⟩,by rw [Qab,hp2.length_eq];exact hSl,⟨rfl,rfl,[],rfl,.slnil,by simp⟩,?_,?_⟩
   . rintro C2 F2 j ys B' own' m ⟨rfl,rfl,R,rfl,hsub,hiff⟩ hm
     rw [Qaa] at hm
     obtain ⟨y,hy,rfl⟩:=Qad.mp hm
     have hyS:y∈S:=hp2.mem_iff.mp (Qcs hy)
     obtain ⟨dy,fy,e4,e5,e6⟩:=hbh7.get hyS
     have ht:=Qak hy
     refine Qdu ?_
     walk_at "m cex"
     walk_at "m"
     refine Qb5 (.inr hbe7) e1 ?_
     walk_at "m"
     rw [Qa0]
     refine Qax (λhc=>?_) (λhc=>?_)
     . walk_at "m"
       refine Qb5 (.inr hbe7) e4 ?_
       walk_at "m"
       rw [Qa0]
       refine Qax (λhc2=>?_) (λhc2=>?_)
       . walk_at "m"
         refine Qap ?_
         refine Qbz ?_
         walk_at "m"
         refine ⟨_,.refl _,rfl,rfl,R++[y],by rw [Qd1];rfl,by rw [ht];exact hsub.append (.refl _),λz=>?_⟩
         rw [ht,Qaz,Qaz,hiff z,Qbq]
         constructor
         . rintro (h | rfl)
           . exact ⟨.inl h.1,h.2⟩
           . exact ⟨.inr rfl,(e3 z).mp hc,(e6 x).mp hc2⟩
         . rintro ⟨h | h,h'⟩
           . exact .inl ⟨h,h'⟩
           . exact .inr h
       . walk_at "m"
         refine ⟨_,.refl _,rfl,rfl,R,rfl,by rw [ht];exact hsub.trans (Qwt ..),λz=>?_⟩
         rw [ht,Qaz,hiff z,Qbq]
         constructor
         . exact λh=>⟨.inl h.1,h.2⟩
         . rintro ⟨h | rfl,h'⟩
           . exact ⟨h,h'⟩
           . exact absurd ((e6 x).mpr h'.2) hc2
     . walk_at "m"
       refine ⟨_,.refl _,rfl,rfl,R,rfl,by rw [ht];exact hsub.trans (Qwt ..),λz=>?_⟩
       rw [ht,Qaz,hiff z,Qbq]
       constructor
       . exact λh=>⟨.inl h.1,h.2⟩
       . rintro ⟨h | rfl,h'⟩
         . exact ⟨h,h'⟩
         . exact absurd ((e3 z).mpr h'.1) hc
   rintro ys B' own' ⟨rfl,rfl,R,rfl,hsub,hiff⟩ C2 F2 ra hra
   rw [Qab,Qhi] at hsub hiff
   have hRn:R.Nodup:=hsub.nodup (hp2.nodup_iff.mpr hnd)
   replace hiff:∀y,y∈R↔y∈S/\mutS (edge gs) S x y:=λy=>by rw [hiff y,hp2.mem_iff]
   refine Qa2 F2 [(ra,_)] _ (λu_ u_ h=>nomatch h) λB8 s8 g8=>?_
   have q8:=g8 _ (.head _)
   dsimp only at q8
   have hls8:=hls.mono (s7.trans s8)
   have s68:=s6.trans (s7.trans s8)
   have ht:=Qak hx
   have hRl:RL.length<=S.length:=hri.len
   have hal:(as.map MV.ref).length+1<=lim:=by rw [Qab,hls.length];exact Qb9 (n:=400) (Qdg hRl (Qxb h64)) (by decide)
   have skip:(x∈K\/∀b∈S,x≠b->¬mutS (edge gs) S x b)->Tn [] (Qlt g s gs S rg be fd kn ns B5 (i+1))
       ⟨[(Qa "goes",.ref g),(Qa "some",.ref s),(Qa "region",.ref rg),(Qa "behind",.ref be),(Qa "found",.ref fd),(Qa "known",.ref kn),(Qa "one",.int x),(Qa "ring",.ref ra)],B8,[(kn,.dict (tks K)),(fd,.list (as.map MV.ref))]⟩ :=
     λh=>⟨_,.pre [_,_] rfl,B8,as,RL,K,rfl,s68,hls8,by rw [ht];exact hri.skip h,hKn⟩
   walk_at "m"
   rw [Qa0]
   refine Qc1 (λhnk=>?_) (λhk=>?_)
   . walk_at "m"
     rw [Qab]
     refine Qax (λh2=>?_) (λh2=>?_)
     . have hadd:=hri.add hxS hnk hiff hRn (Qw9.mp h2)
       have hdis:∀y∈R,y∉K:=λy hy hyK=>by
         obtain ⟨R',hR',hyR⟩:=Qwi.mp ((hri.kn y).mp hyK)
         obtain ⟨u_,hm⟩:=(hiff y).mp hy
         exact hnk ((hri.kn x).mpr (Qwi.mpr ⟨R',hR',(hri.ring R' hR').1.mem hyR hxS hm.2 hm.1⟩))
       walk_at "m"
       refine Qao F1 (λu_=>rfl) ?_
       walk_at "m"
       refine ⟨R.map MV.int,λj σ'=>σ'=⟨[(Qa "goes",.ref g),(Qa "some",.ref s),(Qa "region",.ref rg),(Qa "behind",.ref be),(Qa "found",.ref fd),(Qa "known",.ref kn),(Qa "one",.int x),(Qa "ring",.ref ra)],B8,[(kn,.dict (tks (K++R.take j))),(fd,.list ((as++[ra]).map MV.ref))]⟩,⟨ra,rfl,.inl q8⟩,⟨_,.refl _,by (try dsimp only);rw [Qzn,Qxv,Qd1];rfl⟩,?_,?_⟩
       . rintro C3 F3 j σ' m rfl hm
         rw [Qaa] at hm
         obtain ⟨y,hy,rfl⟩:=Qad.mp hm
         have hyR:=Qcs hy
         have hnew:y∉K++R.take j:=λh=>by
           rcases Qaz.mp h with h | h
           . exact hdis y hyR h
           . have hn2:=hRn
             rw [<-Qwl (j+1) R,Qak hy] at hn2
             have:=(Qdi.mp (Qdi.mp hn2).1).2.2 y h y (by simp)
             exact this rfl
         have hln:(tks (K++R.take j)).length+1<=lim:=by
           rw [Qcl,Qey]
           have l1:=hri.knlen hKn
           have l2:=Qbs R S hRn λz hz=>((hiff z).mp hz).1
           have l3:(R.take j).length<=R.length:=by simp;exact om1
           unfold lim;exact om2 ‹_› ‹_› ‹_› ‹_›
         walk_at "m"
         refine Qa7 F3 .head hln ?_
         walk_at "m"
         rw [Qfh hnew,Qwr,<-Qak hy]
         exact ⟨_,.pre [_] rfl,rfl⟩
       . rintro C3 F3 σ' rfl
         rw [Qab,Qhi]
         walk_at "m"
         refine ⟨_,.pre [_,_] rfl,B8,as++[ra],RL++[R],K++R,rfl,s68,hls8.snoc q8,by rw [ht];exact hadd,Qdi.mpr ⟨hKn,hRn,λa ha b hb e=>by subst e;exact hdis a hb ha⟩⟩
     . walk_at "m"
       refine skip (.inr λb hbS hne hm=>h2 ?_)
       exact Qw9.mpr (Qt6 ((hiff x).mpr ⟨hxS,.refl,.refl⟩) ((hiff b).mpr ⟨hbS,hm⟩) hne)
   . walk_at "m"
     exact skip (.inl hk)
 . rintro C1 F1 σ' ⟨B6,as,RL,K,rfl,s6,hls,hri,hKn⟩
   rw [Qab,Qhi] at hri
   refine Qcr λhfa u_=>?_
   have hfd0:B6 fd=none:=hfa fd (by simp)
   walk_at "m"
   refine ⟨_,.trans .tl (.frz (λh=>nomatch h)),hQ fd as RL _ ((sB5.trans s6).trans (Sub0.set hfd0)) setB_self (hls.mono (Sub0.set hfd0)) (hri.rings λa ha=>hp.mem_iff.mpr ha)⟩
end
section
open PySem
variable {hb:Heap} {w:World} {f:Addr} {n:Nat}
theorem GoesAt.get {B:MH}{g:Addr}{gs:Gs}(h:GoesAt B g gs){x:Int}(h0:0<=x)(h1:x<gs.length):∃(as:List Addr) (c:Addr) (l:List (Option Int)),B g=some (.list (as.map MV.ref))/\(as.map MV.ref)[x.toNat]? = some (.ref c)/\B c=some (.list (l.map Qau))/\gs[x.toNat]? = some l:=by
 obtain ⟨as,e1,e2,e3⟩:=h
 obtain ⟨l,hl⟩:=Qfe (l:=gs) h0 h1
 obtain ⟨c,hc⟩:=Qfe (l:=as) h0 (by rw [e2];exact h1)
 exact ⟨as,c,l,e1,by rw [Qaa,hc];rfl,e3 _ _ _ hc hl,hl⟩
theorem Qvg {gs:Gs}{x:Int}{l:List (Option Int)}(h0:0<=x)(h:gs[x.toNat]? = some l)(b:Int):edge gs x b↔some b∈l:=by
 constructor
 . rintro ⟨_,l',hl,hb'⟩;rw [h] at hl;cases hl;exact hb'
 . exact λhb'=>⟨h0,l,h,hb'⟩
theorem Qfr {l:List (Option Int)}{i:Nat}{x:Option Int}(h:l[i]? = some x):l.take (i+1)=l.take i++[x]:=by rw [Qwy,h];rfl
theorem Qoc (l:List Int)(hn:l.Nodup)(b:Int):∃l',dput (tks l) (some b) (.bool true)=tks l'/\l'.Nodup/\∀x,x∈l'↔x∈l\/x=b:=by
 by_cases h:b∈l
 . exact ⟨l,Qj1 h,hn,λx=>⟨.inl,λh'=>h'.elim id λe=>e ▸ h⟩⟩
 . refine ⟨l++[b],Qfh h,Qdi.mpr ⟨hn,by simp,λa ha c hc e=>?_⟩,λx=>by simp⟩
   rw [Qbq] at hc
   subst e hc;exact h ha
noncomputable def Qlc (gs:Gs)(L R:List Int)(x:Int):Prop:=x∈R/\((∃y∈L,y∉R/\edge gs y x)\/x=0)
inductive Qfk (args:List MV)(B:MH)(own:Own)(Q:MV->MH->Own->Prop):Prop
 | mk (h1_:own=[]) (g la ra:Addr) (gs:Gs) (L R:List Int) (h2_:args=[.ref g,.ref la,.ref ra]) (h3_:GoesAt B g gs) (h4_:B la=some (.list (L.map MV.int))) (h5_:B ra=some (.list (R.map MV.int))) (h6_:R.Nodup) (h7_:R.length<400) (h8_:(∀x∈L,0<=x/\x<gs.length)) (h9_:∀(a:Addr) (ins:List Int) (B':MH),Sub0 B B'->B' a=some (.list (ins.map MV.int))->ins.Pairwise (·<=·)->ins.Nodup->(∀x,x∈ins↔Qlc gs L R x)->Q (.ref a) B' []):Qfk args B own Q
inductive Qq9 (g:Addr)(la:Addr)(ra:Addr)(gs:Gs)(L:List Int)(R:List Int)(rg:Addr)(B2:MH)(fd:Addr)(i:Nat)(x:Int)(l:List (Option Int))(j:Nat)(σ':St):Prop
 | mk (fo:List Int) (h1_:σ'=⟨[(Qa "goes",.ref g),(Qa "live",.ref la),(Qa "ring",.ref ra),(Qa "inside",.ref rg),(Qa "found",.ref fd),(Qa "one",.int x)],B2,[(fd,.dict (tks fo))]⟩) (h2_:fo.Nodup) (h3_:∀z,z∈fo↔z∈R/\((∃y∈L.take i,y∉R/\edge gs y z)\/some z∈l.take j)):Qq9 g la ra gs L R rg B2 fd i x l j σ'
inductive Qra (g:Addr)(la:Addr)(ra:Addr)(gs:Gs)(L:List Int)(R:List Int)(rg:Addr)(B2:MH)(fd:Addr)(i:Nat)(σ':St):Prop
 | mk (fo:List Int) (h1_:σ'=⟨[(Qa "goes",.ref g),(Qa "live",.ref la),(Qa "ring",.ref ra),(Qa "inside",.ref rg),(Qa "found",.ref fd)],B2,[(fd,.dict (tks fo))]⟩) (h2_:fo.Nodup) (h3_:∀x,x∈fo↔x∈R/\∃y∈L.take i,y∉R/\edge gs y x):Qra g la ra gs L R rg B2 fd i σ'
theorem Qnf (F:FnAt hb f Qg6)(hlim:hb.NoLimit)(gd:GlD hb)(gli:Gl hb "list" (.oth (.type "list")))(gso:Gl hb "sorted" (.oth (.builtin "sorted"))):Contract P w hb (.ref f) (n+1) Qfk:=by
 refine Contract.of F hlim (by rintro args B own Q ⟨_,_,_,_,_,_,_,e,_⟩;subst e;rfl) ?_
 rintro C args B own Q F' ⟨rfl,g,la,ra,gs,L,R,rfl,hg,hla,hra,hnd,h64,hrg,hQ⟩
 show Sts C (Qan P Qg6) ⟨[(Qa "goes",_),(Qa "live",_),(Qa "ring",_)],B,[]⟩ _
 refine Qag ?_
 walk_at "m"
 refine Qct F' hlim gd rfl (by walk_at "m compok") (λu_=>rfl) (by decide) ?_
 walk_at "m"
 refine ⟨R,⟨ra,rfl,.inl hra⟩,hnd,Qdg (Qxb h64) (by unfold lim;decide),λB1 rg s1 hd1 hm1 ho1=>?_⟩
 refine Qa2 F' [(rg,_)] [] (λu_ u_ h=>nomatch h) λB2 s2 g2=>?_
 have q2:=g2 _ (.head _)
 dsimp only at q2
 have s12:Sub0 B B2:=s1.trans s2
 clear g2 s2 hd1 hm1 ho1 s1
 replace hg:=hg.mono' s12
 replace hla:=s12 _ _ hla
 walk_at "m"
 refine Qcz F' hlim λfd hfd=>?_
 walk_at "m"
 have bound:∀fo:List Int,fo.Nodup->(∀x∈fo,x∈R)->(tks fo).length+1<=lim:=λfo h1 h2=>by
   rw [Qcl]
   exact Qb9 (n:=400) (Qdg (Qbs fo R h1 h2) (Qxb h64)) (by decide)
 refine Qao F' (λu_=>rfl) ?_
 walk_at "m"
 refine ⟨L.map MV.int,(Qra g la ra gs L R rg B2 fd),⟨la,rfl,.inl hla⟩,⟨_,.refl _,[],rfl,.nil,by simp⟩,?_,?_⟩
 . rintro C1 F1 i σ' m ⟨fo,rfl,hfn,hfo⟩ hm
   rw [Qaa] at hm
   obtain ⟨x,hx,rfl⟩:=Qad.mp hm
   obtain ⟨hx0,hx1⟩:=hrg x (Qcs hx)
   have ht:=Qak hx
   walk_at "m"
   rw [Qa0]
   refine Qc1 (λhxR=>?_) (λhxR=>?_)
   . obtain ⟨as,c,l,k1,k2,k3,k4⟩:=hg.get hx0 hx1
     have hed:=Qvg hx0 k4
     refine Qag ?_
     refine Qao F1 (λu_=>rfl) ?_
     walk_at "m"
     refine Qae (.inr k1) hx0 k2 ?_
     refine ⟨l.map Qau,(Qq9 g la ra gs L R rg B2 fd i x l),⟨c,rfl,.inl k3⟩,⟨_,.refl _,fo,rfl,hfn,λz=>by rw [hfo z];simp⟩,?_,?_⟩
     . rintro C2 F2 j σ' m ⟨fo,rfl,hfn,hfo⟩ hm
       rw [Qaa] at hm
       obtain ⟨o,ho,rfl⟩:=Qad.mp hm
       have ht2:=Qfr ho
       cases o with
       | none =>
         show Qb6 C2 _ MV.none _ _
         walk_at "m"
         rw [Qi3]
         walk_at "m"
         refine if_ff ?_
         walk_at "m"
         refine ⟨_,.pre [_] rfl,fo,rfl,hfn,λz=>?_⟩
         rw [hfo z,ht2];simp
       | some o =>
         show Qb6 C2 _ (MV.int o) _ _
         walk_at "m"
         rw [Qa0]
         refine Qax (λhoR=>?_) (λhoR=>?_)
         . obtain ⟨fo',e1,e2,e3⟩:=Qoc fo hfn o
           walk_at "m"
           refine Qa7 F2 .head (bound fo hfn λz hz=>((hfo z).mp hz).1) ?_
           walk_at "m"
           rw [e1]
           refine ⟨_,.pre [_] rfl,fo',rfl,e2,λz=>?_⟩
           rw [e3 z,hfo z,ht2,Qaz,Qbq]
           constructor
           . rintro (⟨h1,h2 | h2⟩ | rfl)
             . exact ⟨h1,.inl h2⟩
             . exact ⟨h1,.inr (.inl h2)⟩
             . exact ⟨hoR,.inr (.inr rfl)⟩
           . rintro ⟨h1,h2 | h2 | h2⟩
             . exact .inl ⟨h1,.inl h2⟩
             . exact .inl ⟨h1,.inr h2⟩
             . exact .inr (Option.some.inj h2)
         . walk_at "m"
           refine ⟨_,.pre [_] rfl,fo,rfl,hfn,λz=>?_⟩
           rw [hfo z,ht2,Qaz,Qbq]
           constructor
           . rintro ⟨h1,h2 | h2⟩
             . exact ⟨h1,.inl h2⟩
             . exact ⟨h1,.inr (.inl h2)⟩
           . rintro ⟨h1,h2 | h2 | h2⟩
             . exact ⟨h1,.inl h2⟩
             . exact ⟨h1,.inr h2⟩
             . cases h2;exact absurd h1 hoR
     . rintro C2 F2 σ' ⟨fo,rfl,hfn,hfo⟩
       rw [Qab,Qhi] at hfo
       walk_at "m"
       refine ⟨_,.pre [_] rfl,fo,rfl,hfn,λz=>?_⟩
       rw [hfo z,ht]
       constructor
       . rintro ⟨h1,⟨y,h2,h3⟩ | h2⟩
         . exact ⟨h1,y,Qaq _ h2,h3⟩
         . exact ⟨h1,x,by simp,hxR,(hed z).mpr h2⟩
       . rintro ⟨h1,y,h2,h3,h4⟩
         rcases Qaz.mp h2 with h2 | h2
         . exact ⟨h1,.inl ⟨y,h2,h3,h4⟩⟩
         . obtain rfl:=Qbq.mp h2
           exact ⟨h1,.inr ((hed z).mp h4)⟩
   . walk_at "m"
     refine ⟨_,.pre [_] rfl,fo,rfl,hfn,λz=>?_⟩
     rw [hfo z,ht]
     constructor
     . rintro ⟨h1,y,h2,h3⟩
       exact ⟨h1,y,Qaq _ h2,h3⟩
     . rintro ⟨h1,y,h2,h3,h4⟩
       rcases Qaz.mp h2 with h2 | h2
       . exact ⟨h1,y,h2,h3,h4⟩
       . obtain rfl:=Qbq.mp h2
         exact absurd hxR h3
 . rintro C1 F1 σ' ⟨fo,rfl,hfn,hfo⟩
   rw [Qab,Qhi] at hfo
   refine Qf6 ?_
   try dsimp only
   refine Qag ?_
   refine Qmn (Q:=λf σ'=>f=.next/\∃fo:List Int,σ'=⟨[(Qa "goes",.ref g),(Qa "live",.ref la),(Qa "ring",.ref ra),(Qa "inside",.ref rg),(Qa "found",.ref fd)],B2,[(fd,.dict (tks fo))]⟩/\fo.Nodup/\∀x,x∈fo↔Qlc gs L R x) ?_ ?_
   . walk_at "m"
     rw [Qa0]
     refine Qax (λh0=>?_) (λh0=>?_)
     . obtain ⟨fo',e1,e2,e3⟩:=Qoc fo hfn 0
       walk_at "m"
       refine Qa7 F' .head (bound fo hfn λz hz=>((hfo z).mp hz).1) ?_
       walk_at "m"
       rw [e1]
       refine ⟨rfl,fo',rfl,e2,λz=>?_⟩
       unfold Qlc
       rw [e3 z,hfo z]
       constructor
       . rintro (⟨h1,h2⟩ | rfl)
         . exact ⟨h1,.inl h2⟩
         . exact ⟨h0,.inr rfl⟩
       . rintro ⟨h1,h2 | h2⟩
         . exact .inl ⟨h1,h2⟩
         . exact .inr h2
     . walk_at "m"
       refine ⟨rfl,fo,rfl,hfn,λz=>?_⟩
       unfold Qlc
       rw [hfo z]
       constructor
       . rintro ⟨h1,h2⟩
         exact ⟨h1,.inl h2⟩
       . rintro ⟨h1,h2 | rfl⟩
         . exact ⟨h1,h2⟩
         . exact absurd h1 h0
   rintro u_ u_ ⟨rfl,fo,rfl,hfn,hfo⟩
   have hfl:fo.length<400:=Qxa (Qbs fo R hfn λz hz=>((hfo z).mp hz).1) h64
   try dsimp only
   walk_at "m"
   refine Qby F' (.inl (.head _)) λl1 hl1=>?_
   rw [Qgp]
   walk_at "m"
   refine Qba F' (.inl (.head _)) λns l2 hp hso hl2=>?_
   refine ⟨_,.trans (.frz hl2.md) Cv.none,hQ l2 ns _ (s12.trans (Sub0.set hl2.B)) setB_self hso (hp.nodup_iff.mpr hfn) λx=>?_⟩
   rw [hp.mem_iff,hfo x]
end
section
open PySem
variable {hb:Heap} {w:World} {f:Addr} {n:Nat}
structure Okr (gs:Gs)(L S0 S:List Int):Prop where
 nd:S.Nodup
 l64:S.length<400
 sub:∀x∈S,x∈L
 phi:Phi (edge gs) S
 top:∀x∈S,x∈S0
noncomputable def mW:List (List Int)->Nat
 | []=>0
 | S::r=>S.length+1+mW r
theorem Qk6:∀(WL:List (List Int)) (S:List Int),mW (WL++[S])=mW WL+(S.length+1)
 | [],S=>by simp [mW]
 | T::WL,S=>by rw [Qwx,mW,mW,Qk6 WL S];exact om3
theorem LsI.unsnoc {B:MH}{as:List Addr}{a:Addr}:∀{ls:List (List Int)},LsI B (as++[a]) ls->∃ls' l,ls=ls'++[l]/\LsI B as ls'/\B a=some (.list (l.map MV.int)):=by
 induction as with
 | nil =>
   intro ls g
   cases g with
   | @cons _ _ l _ h h' =>
     cases h'
     exact ⟨[],l,rfl,.nil,h⟩
 | cons b as ih =>
   intro ls g
   cases g with
   | @cons _ _ l0 _ h h' =>
     obtain ⟨ls',l,rfl,h1,h2⟩:=ih h'
     exact ⟨l0::ls',l,rfl,.cons h h1,h2⟩
theorem Qto:∀(WL:List (List Int)),WL.length<=mW WL
 | []=>Qwb _
 | S::r=>by have:=Qto r;simp only [Qwo,mW];exact om5 ‹_›
theorem Qo6 {RL:List (List Int)}{i:Nat}{R:List Int}(h:RL[i]? = some R):(RL.take (i+1)).flatten.length=(RL.take i).flatten.length+R.length:=by
 rw [Qwy,h,Qw7,Qey]
 show _+[R].flatten.length=_
 rw [Qxt]
theorem Qvf (RL:List (List Int))(i:Nat):(RL.take i).flatten.length<=RL.flatten.length:=by
 have:=congrArg (λl:List (List Int)=>l.flatten.length) (Qwl i RL)
 simp only [Qw7,Qey] at this
 exact om4 ‹_›
theorem Qst {RL:List (List Int)}{i:Nat}{R:List Int}(h:RL[i]? = some R):RL.drop i=R::RL.drop (i+1):=by
 obtain ⟨h1,h2⟩:=Qck.mp h
 rw [Qwn h1,h2]
structure Crossed (gs:Gs)(R ins:List Int):Prop where
 S:∃S,Phi (edge gs) S/\(∀x∈S,Live (edge gs) x)/\IsRing (edge gs) S R
 isIns:IsIns (edge gs) R ins
 two:2<=ins.length
 nd:ins.Nodup
theorem IsIns.of {gs:Gs}{L R ins:List Int}(hL:∀y,y∈L↔Live (edge gs) y)(h:∀x,x∈ins↔Qlc gs L R x):IsIns (edge gs) R ins:=⟨λx=>by
 rw [h x]
 unfold Qlc
 constructor
 . rintro ⟨h1,⟨y,h2,h3,h4⟩ | h2⟩
   . exact ⟨h1,.inl ⟨y,(hL y).mp h2,h3,h4⟩⟩
   . exact ⟨h1,.inr h2⟩
 . rintro ⟨h1,⟨y,h2,h3,h4⟩ | h2⟩
   . exact ⟨h1,.inl ⟨y,(hL y).mpr h2,h3,h4⟩⟩
   . exact ⟨h1,.inr h2⟩⟩
inductive Qc5 (args:List MV)(B:MH)(own:Own)(Q:MV->MH->Own->Prop):Prop
 | mk (h1_:own=[]) (g la sa:Addr) (gs:Gs) (L S:List Int) (h2_:args=[.ref g,.ref la,.ref sa]) (h3_:GoesAt B g gs) (h4_:B la=some (.list (L.map MV.int))) (h5_:B sa=some (.list (S.map MV.int))) (h6_:gs.length<=1000) (h7_:(∀x∈L,0<=x/\x<gs.length)) (h8_:(∀y,y∈L↔Live (edge gs) y)) (h9_:Okr gs L S S) (h10_:(¬Cyc (edge gs) S->∀B',Sub0 B B'->Q .none B' [])) (h11_:(∀(ra:Addr) (R ins:List Int) (B':MH),Sub0 B B'->B' ra=some (.list (R.map MV.int))->R.Nodup->(∀x∈R,x∈L)->(∀x∈R,x∈S)->R.length<400->Crossed gs R ins->Q (.ref ra) B' [])):Qc5 args B own Q
inductive Qq6 (wa:Addr)(was:List Addr)(R:List Int)(ins:List Int)(B4:MH)(j:Nat)(ys:List MV)(B':MH)(own':Own):Prop
 | mk (h1_:own'=[(wa,.list (was.map MV.ref))]) (h2_:B'=B4) (R':List Int) (h3_:ys=R'.map MV.int) (h4_:R'.Sublist (R.take j)) (h5_:∀y,y∈R'↔y∈R.take j/\y∉ins):Qq6 wa was R ins B4 j ys B' own'
inductive Qq7 (g:Addr)(la:Addr)(sa:Addr)(gs:Gs)(L:List Int)(S:List Int)(wa:Addr)(WL':List (List Int))(RL:List (List Int))(B2:MH)(i:Nat)(σ':St):Prop
 | mk (B':MH) (was:List Addr) (WL:List (List Int)) (h1_:σ'=⟨[(Qa "goes",.ref g),(Qa "live",.ref la),(Qa "some",.ref sa),(Qa "waiting",.ref wa)],B',[(wa,.list (was.map MV.ref))]⟩) (h2_:mW WL<=mW WL'+(RL.take i).flatten.length) (h3_:Sub0 B2 B') (h4_:LsI B' was WL) (h5_:(∀S'∈WL,Okr gs L S S')) (h6_:(Cyc (edge gs) S->(∃S'∈WL,Cyc (edge gs) S')\/∃R∈RL.drop i,Cyc (edge gs) R)):Qq7 g la sa gs L S wa WL' RL B2 i σ'
inductive Qq8 (B:MH)(g:Addr)(la:Addr)(sa:Addr)(gs:Gs)(L:List Int)(S:List Int)(wa:Addr)(k:Nat)(σ':St):Prop
 | mk (B':MH) (was:List Addr) (WL:List (List Int)) (h1_:σ'=⟨[(Qa "goes",.ref g),(Qa "live",.ref la),(Qa "some",.ref sa),(Qa "waiting",.ref wa)],B',[(wa,.list (was.map MV.ref))]⟩) (h2_:k=mW WL) (h3_:mW WL<=500) (h4_:Sub0 B B') (h5_:LsI B' was WL) (h6_:(∀S'∈WL,Okr gs L S S')) (h7_:(Cyc (edge gs) S->∃S'∈WL,Cyc (edge gs) S')):Qq8 B g la sa gs L S wa k σ'
theorem Qhg (F:FnAt hb f Qc3)(hlim:hb.NoLimit)(h1:FnC P w hb "rings_of" 2 Qde)(h2:FnC P w hb "entries" 1 Qfk)(glen:Gl hb "len" (.oth (.builtin "len")))(gli:Gl hb "list" (.oth (.type "list"))):Contract P w hb (.ref f) 3 Qc5:=by
 refine Contract.of F hlim (by rintro args B own Q ⟨_,_,_,_,_,_,_,e,_⟩;subst e;rfl) ?_
 rintro C args B own Q F' ⟨rfl,g,la,sa,gs,L,S,rfl,hg,hla,hsa,hgl,hrg,hL,hS,hQn,hQs⟩
 show Sts C (Qan P Qc3) ⟨[(Qa "goes",_),(Qa "live",_),(Qa "some",_)],B,[]⟩ _
 refine Qag ?_
 walk_at "m"
 intro l0 hl0
 refine Qfm F' [(l0,_)] [] (λu_ u_ h=>nomatch h) λB1 s1 g1=>?_
 have q1:=g1 _ (.head _)
 dsimp only at q1
 clear g1 hl0
 walk_at "m"
 intro wa hwa
 walk_at "m"
 refine Qdd F' ((Qq8 B g la sa gs L S wa)) ?_ _ ⟨_,.refl _,B1,[l0],[S],rfl,rfl,by simp only [mW];have:=hS.l64;exact om6 ‹_›,s1,.cons q1 .nil,λS' h=>by rw [Qbq.mp h];exact hS,λh=>⟨S,by simp,h⟩⟩
 clear hwa q1 s1
 rintro k σ' ⟨B1,was,WL,rfl,rfl,hmw,s1,hls,hok,hcyc⟩
 rcases Qxp was with rfl | ⟨was',a,rfl⟩
 . cases hls
   walk_at "m"
   refine Qbl (by decide) ?_
   walk_at "m"
   refine ⟨_,.none,hQn (λh=>?_) _ s1⟩
   obtain ⟨u_,h',u_⟩:=hcyc h
   cases h'
 . rw [Qyh] at hls ⊢
   obtain ⟨WL',T,rfl,hls',hT⟩:=hls.unsnoc
   have hTok:=hok T (by simp)
   rw [Qk6] at hmw ⊢
   rw [Qd1]
   walk_at "m"
   refine Qb2 (by rw [Qey];exact Qw9.mpr (Qyg _)) ?_
   walk_at "m"
   refine Qao F' (λu_=>rfl) ?_
   walk_at "m"
   refine Qkh F' rfl rfl ?_
   walk_at "m"
   refine ⟨wa,was'.map MV.ref,.ref a,_,rfl,.head,?_⟩
   walk_at "m"
   refine ⟨rfl,g,a,gs,T,rfl,hg.mono' s1,hT,hgl,hTok.nd,hTok.l64,λx hx=>hrg x (hTok.sub x hx),λrl as RL B2 s2 hrl hras hR=>?_⟩
   try dsimp only [SpK2,SpO2,Qld]
   have hRl:=hR.len
   refine ⟨as.map MV.ref,(Qq7 g la sa gs L S wa WL' RL B2),⟨rl,rfl,.inl hrl⟩,⟨_,.refl _,B2,was',WL',rfl,Qx3 _ _,Sub0.rfl' _,hls'.mono s2,λS' h=>hok S' (Qaq _ h),λh=>?_⟩,?_,?_⟩
   . obtain ⟨S',h1,h2⟩:=hcyc h
     rcases Qaz.mp h1 with h1 | h1
     . exact .inl ⟨S',h1,h2⟩
     . obtain rfl:=Qbq.mp h1
       exact .inr (h2.ring hR.all)
   . rintro C1 F1 i σ' m ⟨B3,was,WL,rfl,hm3,s3,hls3,hok3,hcyc3⟩ hm
     rw [Qaa] at hm
     obtain ⟨ra,hra,rfl⟩:=Qad.mp hm
     obtain ⟨R,hRi,hRB⟩:=(hras.mono s3).get hra
     obtain ⟨hring,hR2,hRn⟩:=hR.ring R (Qcs hRi)
     have hRT:=Qbs R T hRn λx hx=>hring.sub hx
     have hR64:R.length<400:=Qxa hRT hTok.l64
     have hRL:∀x∈R,x∈L:=λx hx=>hTok.sub x (hring.sub hx)
     have s13:=s1.trans (s2.trans s3)
     walk_at "m"
     refine ⟨rfl,g,la,ra,gs,L,R,rfl,hg.mono' s13,s13 _ _ hla,hRB,hRn,hR64,hrg,λia ins B4 s4 hia hiso hin himem=>?_⟩
     have I:=IsIns.of hL himem
     have hRB4:=s4 _ _ hRB
     walk_at "m"
     rw [Qab]
     refine Qax (λh2=>?_) (λh2=>?_)
     . walk_at "m"
       exact ⟨_,.none,hQs ra R ins _ (s13.trans s4) hRB4 hRn hRL (λx hx=>hTok.top x (hring.sub hx)) hR64 ⟨⟨T,hTok.phi,λx hx=>(hL x).mp (hTok.sub x hx),hring⟩,I,Qw9.mp h2,hin⟩⟩
     have hi1:ins.length<=1:=by exact om7 ‹_›
     walk_at "m"
     refine Qa9 F1 (by walk_at "m compok") (λu_=>rfl) ?_
     walk_at "m"
     refine ⟨R.map MV.int,(Qq6 wa was R ins B4),⟨ra,rfl,.inl hRB4⟩,by rw [Qab];exact Qdg (Qxb hR64) (by unfold lim;decide),⟨rfl,rfl,[],rfl,.slnil,by simp⟩,?_,?_⟩
     . rintro C2 F2 j ys B' own' m ⟨rfl,rfl,R',rfl,hsub,hiff⟩ hm
       rw [Qaa] at hm
       obtain ⟨y,hy,rfl⟩:=Qad.mp hm
       have ht:=Qak hy
       refine Qdu ?_
       walk_at "m cex"
       walk_at "m"
       refine Qc1 (λhc=>?_) (λhc=>?_)
       . walk_at "m"
         refine Qap ?_
         refine Qbz ?_
         walk_at "m"
         refine ⟨_,.refl _,rfl,rfl,R'++[y],by rw [Qd1];rfl,by rw [ht];exact hsub.append (.refl _),λz=>?_⟩
         rw [ht,Qaz,Qaz,hiff z,Qbq]
         constructor
         . rintro (h | rfl)
           . exact ⟨.inl h.1,h.2⟩
           . exact ⟨.inr rfl,hc⟩
         . rintro ⟨h | h,h'⟩
           . exact .inl ⟨h,h'⟩
           . exact .inr h
       . walk_at "m"
         refine ⟨_,.refl _,rfl,rfl,R',rfl,by rw [ht];exact hsub.trans (Qwt ..),λz=>?_⟩
         rw [ht,Qaz,hiff z,Qbq]
         constructor
         . exact λh=>⟨.inl h.1,h.2⟩
         . rintro ⟨h | rfl,h'⟩
           . exact ⟨h,h'⟩
           . exact absurd hc h'
     rintro ys B' own' ⟨rfl,rfl,R',rfl,hsub,hiff⟩ na hna
     rw [Qab,Qhi] at hsub hiff
     have hlive:∀x∈R,Live (edge gs) x:=λx hx=>(hL x).mp (hRL x hx)
     have hRlt:R'.length<R.length:=by
       obtain ⟨x,hx⟩:∃x,x∈R:=by
         cases R with
         | nil=>simp at hR2
         | cons x _=>exact ⟨x,by simp⟩
       obtain ⟨e,rfl⟩:=I.one hi1 hx (hlive x hx)
       have heR:e∈R:=((I.mem e).mp (by simp)).1
       refine Qyv hsub.length_le λhh=>?_
       have:=hsub.eq_of_length hh
       rw [<-this] at heR
       exact ((hiff e).mp heR).2 (by simp)
     have hft:=Qo6 hRi
     have hfl:=Qvf RL (i+1)
     have hwl:=Qto WL
     have hal:(was.map MV.ref).length+1<=lim:=by
       rw [Qab,hls3.length]
       exact Qb9 (n:=1000) (by omega) (by decide)
     refine Qid (.tail .head) hal ?_
     refine Qcr λhfa u_=>?_
     have hna0:B' na=none:=hfa na (by simp)
     walk_at "m"
     have s5:=Sub0.set (o:=.list (R'.map MV.int)) hna0
     rw [show was.map MV.ref++[MV.ref na]=(was++[na]).map MV.ref by rw [Qd1];rfl]
     refine ⟨_,.trans (.frz (λh=>nomatch h)) (.pre [_,_] rfl),_,was++[na],WL++[R'],rfl,?_,s3.trans (s4.trans s5),(hls3.mono (s4.trans s5)).snoc setB_self,?_,?_⟩
     . rw [Qk6,hft];exact om9 ‹_› ‹_› ‹_›
     . intro S' h
       rcases Qaz.mp h with h | h
       . exact hok3 S' h
       . obtain rfl:=Qbq.mp h
         exact ⟨hsub.nodup hRn,Qz5 hRlt hR64,λx hx=>hRL x ((hiff x).mp hx).1,Phi.next I hi1 hlive hiff,λx hx=>hTok.top x (hring.sub ((hiff x).mp hx).1)⟩
     . intro h
       rcases hcyc3 h with ⟨S',h1,h2⟩ | ⟨R2,h1,h2⟩
       . exact .inl ⟨S',Qaq _ h1,h2⟩
       . rw [Qst hRi] at h1
         rcases Qch.mp h1 with rfl | h1
         . exact .inl ⟨R',by simp,Cyc.next I hi1 hlive hiff h2⟩
         . exact .inr ⟨R2,h1,h2⟩
   . rintro C1 F1 σ' ⟨B3,was,WL,rfl,hm3,s3,hls3,hok3,hcyc3⟩
     rw [Qab,hras.length,Qhi] at hm3
     rw [Qab,hras.length,Qy7] at hcyc3
     walk_at "m"
     refine ⟨_,.refl _,mW WL,by exact om10 ‹_› ‹_›,B3,was,WL,rfl,rfl,by exact om11 ‹_› ‹_› ‹_›,s1.trans (s2.trans s3),hls3,hok3,λh=>?_⟩
     rcases hcyc3 h with h | ⟨u_,h,u_⟩
     . exact h
     . cases h
end
section
open PySem
variable {hb:Heap} {w:World} {f:Addr} {n:Nat}
theorem Qgl {rs:List Rw}(hok:Qal rs){x:Int}:Rch (goTo rs) (inR rs []) 0 x↔Live (edge (gsOf rs)) x :=
 ⟨λh=>h.mono λa b e o=>⟨((Qbh hok [] a b).mpr ⟨e,o⟩).1,trivial⟩,λh=>h.mono λa b e u_=>(Qbh hok [] a b).mp ⟨e,by simp⟩⟩
theorem Qmi {rs:List Rw}(hok:Qal rs){a b:Int}(h:edge (gsOf rs) a b):0<=b/\b<rs.length:=by
 obtain ⟨⟨u_,r,hr,hn⟩,hi⟩:=(Qbh hok [] a b).mp ⟨h,by simp⟩
 exact ⟨(Qgd hok hr hn).1,hi.1⟩
theorem Qbr {rs:List Rw}(hok:Qal rs){x:Int}(h:Live (edge (gsOf rs)) x):0<=x/\x<rs.length:=by
 cases h with
 | refl=>exact ⟨Qw0 _,Qw9.mpr hok.1⟩
 | step _ e _=>exact Qmi hok e
theorem Qn8 {ins:List Int}(h2:2<=ins.length)(hs:ins.Pairwise (·<=·))(hn:ins.Nodup):∃one other,ins[0]? = some one/\ins[1]? = some other/\one<other:=by
 match ins,h2,hs,hn with
 | a::b::r,_,hs,hn =>
   refine ⟨a,b,rfl,rfl,?_⟩
   have h1:=(Qyy.mp hs).1 b (by simp)
   have h3:a≠b:=λe=>(Qnn.mp hn).1 (by simp [e])
   exact om12 ‹_› ‹_›
theorem Qio {l:List Int}{i:Nat}{x:Int}(h:l[i]? = some x):(l.map MV.int)[((i:Nat):Int).toNat]? = some (.int x):=by rw [Qej,Qaa,h];rfl
end
section
open PySem
variable {hb:Heap} {w:World} {f:Addr} {n:Nat}
theorem Ql8 {C:Cx}{prog:Program}{sc cs:Scope}{md:List Addr}{fl:Bool}{elt:Expr}{gens:List Comprehension}{y:Str}{py pos:Pos}{ln:Nat}(F:Fx C hb prog w sc n md fl)(hk:sc.names.lookup y=some .cell) :
   swapsWith (.ListComp elt gens cs pos) (some (.Name y py)) ln C.env=pure false:=by
 have hv:(C.env.kindOf y == some NameKind.local)=false:=by rw [F.kind hk];rfl
 show (pure (C.env.blockKind == .function && C.env.kindOf y == some .local && py.line == pos.line && !(cs.names.any λp=>p.1 == y && (p.2 == .local || p.2 == .cell))):Sem Bool)=pure false
 rw [hv,Bool.and_false];rfl
theorem Qj6 (F:FnAt hb f Qep)(hlim:hb.NoLimit):Contract P w hb (.ref f) (n+1) Qb7:=by
 refine Contract.of F hlim (by rintro args B own Q ⟨_,_,_,e,_⟩;subst e;rfl) ?_
 rintro C args B own Q F' ⟨rfl,c,r,rfl,hc,hQ⟩
 show Sts C (Qan P Qep) ⟨[(Qa "_law_row",_)],B,[]⟩ _
 refine Qag ?_
 walk_at "m"
 cases hadd:r.add with
 | true =>
   refine Qbl (by rw [Qcu hadd];exact Qbk (by decide)) ?_
   walk_at "m"
   intro a ha
   rw [show [MV.int r.y]=r.nx.map MV.int from by simp [Rw.nx,hadd]]
   exact ⟨_,.frz ha.md,hQ a ha.B⟩
 | false =>
   refine Qb2 (Qbo hadd) ?_
   walk_at "m"
   intro a ha
   rw [show [MV.int r.z,MV.int r.y]=r.nx.map MV.int from by simp [Rw.nx,hadd]]
   exact ⟨_,.frz ha.md,hQ a ha.B⟩
inductive OnAt (B:MH)(W:Int->Int->Prop):List Addr->List Int->Prop
 | nil:OnAt B W [] []
 | cons {a:Addr} {x:Int} {l:List Int} {as:List Addr} {xs:List Int}:B a=some (.list (l.map MV.int))->(∀z,z∈l↔W x z)->l.length<=2->OnAt B W as xs->OnAt B W (a::as) (x::xs)
theorem OnAt.mono {B B':MH}{W:Int->Int->Prop}(s:Sub0 B B'){as:List Addr}{xs:List Int}(g:OnAt B W as xs):OnAt B' W as xs:=by
 induction g with
 | nil=>exact .nil
 | cons h1 h2 h3 _ ih=>exact .cons (s _ _ h1) h2 h3 ih
theorem OnAt.snoc {B:MH}{W:Int->Int->Prop}{a:Addr}{x:Int}{l:List Int}(h1:B a=some (.list (l.map MV.int)))(h2:∀z,z∈l↔W x z)(h3:l.length<=2){as:List Addr}{xs:List Int}(g:OnAt B W as xs):OnAt B W (as++[a]) (xs++[x]):=by
 induction g with
 | nil=>exact .cons h1 h2 h3 .nil
 | cons g1 g2 g3 _ ih=>exact .cons g1 g2 g3 ih
theorem OnAt.kv {B:MH}{W:Int->Int->Prop}{a:Addr}{x:Int}:∀{as:List Addr} {xs:List Int},OnAt B W as xs->bhKV (xs++[x]) (as++[a])=bhKV xs as++[(some x,.ref a)]
 | _,_,.nil=>rfl
 | _,_,.cons _ _ _ h=>by rw [Qwx,Qwx,bhKV,h.kv];rfl
theorem OnAt.keys {B:MH}{W:Int->Int->Prop}:∀{as:List Addr} {xs:List Int},OnAt B W as xs->(bhKV xs as).map (·.1)=xs.map some
 | _,_,.nil=>rfl
 | _,_,.cons _ _ _ h=>by rw [bhKV,Qwk,h.keys];rfl
theorem OnAt.get {B:MH}{W:Int->Int->Prop}{as:List Addr}{xs:List Int}(g:OnAt B W as xs){x:Int}:x∈xs->∃(a:Addr) (l:List Int),dget (bhKV xs as) (some x)=some (.ref a)/\B a=some (.list (l.map MV.int))/\(∀z,z∈l↔W x z)/\l.length<=2:=by
 induction g with
 | nil=>intro h;simp at h
 | @cons a y _ _ _ g1 g2 g3 _ ih =>
   intro h
   unfold bhKV dget
   by_cases e:y=x
   . subst e
     exact ⟨a,_,if_pos rfl,g1,g2,g3⟩
   . rw [if_neg (λh=>e (Option.some.inj h))]
     exact ih ((Qch.mp h).resolve_left λh=>e h.symm)
noncomputable def WithAt (B:MH)(ds:List Addr)(rs:List Rw)(m:Nat):Prop:=ds.length=m/\∀(i:Nat) (d:Addr),ds[i]? = some d->∃found:List Int,B d=some (.dict (tks found))/\∀a,a∈found↔Rv (edge (gsOf rs)) [(i:Int)] a
theorem WithAt.mono {B B':MH}{ds:List Addr}{rs:List Rw}{m:Nat}(h:WithAt B ds rs m)(s:Sub0 B B'):WithAt B' ds rs m:=⟨h.1,λi d h1=>let ⟨fo,h2,h3⟩:=h.2 i d h1;⟨fo,s _ _ h2,h3⟩⟩
theorem WithAt.snoc {B:MH}{ds:List Addr}{rs:List Rw}{m:Nat}{d:Addr}{found:List Int}(h:WithAt B ds rs m)(hc:B d=some (.dict (tks found)))(hf:∀a,a∈found↔Rv (edge (gsOf rs)) [(m:Int)] a):WithAt B (ds++[d]) rs (m+1):=by
 refine ⟨by simp [h.1],λi c h1=>?_⟩
 by_cases hi:i<ds.length
 . rw [Qhn hi] at h1
   exact h.2 i c h1
 . rw [Qlv (by exact om13 ‹_›)] at h1
   have hl:=h.1
   have e:i-ds.length=0:=by
     have:=(Qck.mp h1).1
     simp at this;exact om14 ‹_›
   rw [e] at h1
   simp at h1
   subst h1
   have:i=m:=by exact om15 ‹_› ‹_› ‹_›
   subst this
   exact ⟨found,hc,hf⟩
theorem rv_iff {rs:List Rw}(hok:Qal rs){wo:List Int}{x:Int}:(0∉wo/\Rch (goTo rs) (inR rs wo) 0 x)↔Rv (edge (gsOf rs)) wo x :=
 ⟨λh=>⟨h.1,h.2.mono λa b e o=>(Qbh hok wo a b).mpr ⟨e,o⟩⟩,λh=>⟨h.1,h.2.mono λa b e o=>(Qbh hok wo a b).mp ⟨e,o⟩⟩⟩
abbrev Fw (rs:List Rw):Int->Int->Prop:=fw (edge (gsOf rs))
inductive Qcy (args:List MV)(B:MH)(own:Own)(Q:MV->MH->Own->Prop):Prop
 | mk (h1_:own=[]) (b:Addr) (rs:List Rw) (h2_:args=[.ref b]) (h3_:RowsAt B b rs) (h4_:Qal rs) (h5_:∀(d:Addr) (L:List Int) (ls:List Addr) (B':MH),Sub0 B B'->B' d=some (.dict (bhKV L ls))->L.Nodup->L.length<=rs.length->(∀y,y∈L↔Live (edge (gsOf rs)) y)->OnAt B' (Fw rs) ls L->Q (.ref d) B' []):Qcy args B own Q
theorem Qh4 (r:Rw):r.nx.length<=2:=by unfold Rw.nx;split <;> simp
inductive Qq3 (rs:List Rw)(fd:Addr)(L:List Int)(i:Nat)(ls:List Addr)(x:Int)(r:Rw)(B6:MH)(j:Nat)(ys:List MV)(B':MH)(own':Own):Prop
 | mk (h1_:own'=[(fd,.dict (bhKV (L.take i) ls))]) (h2_:B'=B6) (l:List Int) (h3_:ys=l.map MV.int) (h4_:l.Sublist (r.nx.take j)) (h5_:∀z,z∈l↔z∈r.nx.take j/\z<rs.length/\Rv (edge (gsOf rs)) [z] x):Qq3 rs fd L i ls x r B6 j ys B' own'
inductive Qq4 (b:Addr)(rs:List Rw)(wa:Addr)(fd:Addr)(L:List Int)(B4:MH)(i:Nat)(σ':St):Prop
 | mk (B':MH) (ls:List Addr) (h1_:σ'=⟨[(Qa "_law_rows",.ref b),(Qa "_law_without",.ref wa),(Qa "_law_found",.ref fd)],B',[(fd,.dict (bhKV (L.take i) ls))]⟩) (h2_:Sub0 B4 B') (h3_:OnAt B' (Fw rs) ls (L.take i)):Qq4 b rs wa fd L B4 i σ'
inductive Qq5 (B:MH)(rs:List Rw)(ra:Addr)(i:Nat)(ys:List MV)(B':MH)(own':Own):Prop
 | mk (h1_:own'=[(ra,.range rs.length)]) (h2_:Sub0 B B') (ds) (h3_:ys=ds.map MV.ref) (h4_:WithAt B' ds rs i):Qq5 B rs ra i ys B' own'
theorem Qi8 (F:FnAt hb f Qd4)(hlim:hb.NoLimit)(h1:FnC P w hb "_law_come" 1 Qeg)(h2:FnC P w hb "_law_after" 1 Qb7)(glen:Gl hb "len" (.oth (.builtin "len")))(gr:Gl hb "range" (.oth (.type "range"))):Contract P w hb (.ref f) 2 Qcy:=by
 refine Contract.of F hlim (by rintro args B own Q ⟨_,_,_,e,_⟩;subst e;rfl) ?_
 rintro C args B own Q F' ⟨rfl,b,rs,rfl,⟨as,hb1,ht⟩,hok,hQ⟩
 show Sts C (Qan P Qd4) ⟨[(Qa "_law_rows",_)],B,[]⟩ _
 have h20:=hok.2.1
 have el:((as.map MV.ref).length:Int)=(rs.length:Nat):=by simp [ht.1]
 refine Qag ?_
 refine Qf7 (Ql8 F' rfl) ?_
 refine Qa9 F' (by walk_at "m compok") (λu_=>rfl) ?_
 walk_at "m"
 rw [el]
 refine Qar (Qwu _) (Qay h20) λra=>?_
 rw [Qej]
 refine ⟨_,(Qq5 B rs ra),⟨ra,rfl,.inr (.inr ⟨_,.inl (.head _),(Qav _).symm⟩)⟩,by rw [Qab,Qai];exact Qay h20,⟨rfl,Sub0.rfl' _,[],rfl,rfl,by simp⟩,?_,?_⟩
 . rintro C' F2 i ys B' own' m ⟨rfl,hs,ds,rfl,hd⟩ hm
   rw [Qaa] at hm
   obtain ⟨z,hz,rfl⟩:=Qad.mp hm
   obtain ⟨hi,rfl⟩:=Qdb hz
   refine Qap ?_
   try dsimp only
   refine Qbz ?_
   walk_at "m cex"
   walk_at "m"
   intro la hla
   refine Qfm F2 [(la,_)] _ (λu_ u_ h=>nomatch h) λB2 s2 g2=>?_
   have q2:=g2 _ (.head _)
   dsimp only at q2
   walk_at "m"
   refine ⟨rfl,b,la,0,rs,[(i:Int)],rfl,RowsAt.mono ⟨as,hb1,ht⟩ (hs.trans s2),hok,q2,Qw0 _,Qw9.mpr hok.1,λfound u_ hfo u_ d B3 hs3 hd3=>?_⟩
   refine ⟨_,.refl _,rfl,hs.trans (s2.trans hs3),ds++[d],by rw [Qd1];rfl,?_⟩
   exact (hd.mono (s2.trans hs3)).snoc hd3 λa=>(hfo a).trans (rv_iff hok)
 rintro ys B1 own' ⟨rfl,s1,ds,rfl,hd⟩ wa hwa
 rw [Qab,Qai] at hd
 refine Qa2 F' [(wa,_),(ra,_)] [] (λu_ u_ h=>nomatch h) λB2 s2 g2=>?_
 have q2:=g2 _ (.head _)
 dsimp only at q2
 clear g2 hwa
 have hd2:=hd.mono s2
 have s12:=s1.trans s2
 have hb2:=s12 _ _ hb1
 have ht2:=ht.mono s12
 walk_at "m"
 refine Qcz F' hlim λfd hfd=>?_
 walk_at "m"
 refine Qao F' (λu_=>rfl) ?_
 walk_at "m"
 intro la hla
 refine Qfm F' [(la,_)] _ (λu_ u_ h=>nomatch h) λB3 s3 g3=>?_
 have q3:=g3 _ (.head _)
 dsimp only at q3
 clear g3 hla
 walk_at "m"
 refine ⟨rfl,b,la,0,rs,[],rfl,RowsAt.mono ⟨as,hb2,ht2⟩ s3,hok,q3,Qw0 _,Qw9.mpr hok.1,λL hLn hLm hLr d B4 s4 hd4=>?_⟩
 have s34:=s3.trans s4
 have q4:=s34 _ _ q2
 have hd4':=hd2.mono s34
 have hb4:=s34 _ _ hb2
 have ht4:=ht2.mono s34
 have hLl:L.length<=rs.length:=Qaf _ L hLn hLr
 replace hLm:∀y,y∈L↔Live (edge (gsOf rs)) y:=λy=>(hLm y).trans ((and_iff_right (by simp)).trans (Qgl hok))
 try dsimp only [SpK2,SpO2,Qld]
 refine ⟨L.map MV.int,(Qq4 b rs wa fd L B4),⟨d,rfl,.inr (.inl (.inr ⟨_,hd4,(Qgp L).symm⟩))⟩,⟨_,.refl _,B4,[],rfl,Sub0.rfl' _,.nil⟩,?_,?_⟩
 . rintro C2 F2 i σ' m ⟨B5,ls,rfl,s5,hon⟩ hm
   rw [Qaa] at hm
   obtain ⟨x,hx,rfl⟩:=Qad.mp hm
   have hxL:=Qcs hx
   obtain ⟨hx0,hx1⟩:=hLr x hxL
   obtain ⟨r,hr⟩:=Qfe (l:=rs) hx0 hx1
   have hb5:=s5 _ _ hb4
   have q5:=s5 _ _ q4
   obtain ⟨c,hc1,hc2⟩:=(ht4.mono s5).get hr
   walk_at "m"
   refine Qa9 F2 (by walk_at "m compok") (λu_=>rfl) ?_
   walk_at "m"
   refine Qae (.inr hb5) hx0 (m:=.ref c) (by rw [Qaa,hc1];rfl) ?_
   walk_at "m"
   refine ⟨rfl,c,r,rfl,hc2,λna hna=>?_⟩
   have s6:=Sub0.set (o:=.list (r.nx.map MV.int)) hna
   have q6:=setB_self (B:=B5) (a:=na) (o:=.list (r.nx.map MV.int))
   generalize setB B5 na (.list (r.nx.map MV.int))=B6 at s6 q6 ⊢
   try dsimp only [SpK2,SpO2,Qld]
   have hb6:=s6 _ _ hb5
   have q56:=s6 _ _ q5
   have hd6:=hd4'.mono (s5.trans s6)
   refine ⟨r.nx.map MV.int,(Qq3 rs fd L i ls x r B6),⟨na,rfl,.inl q6⟩,by rw [Qab];exact Qdg (Qh4 r) (by unfold lim;decide),⟨rfl,rfl,[],rfl,.slnil,by simp⟩,?_,?_⟩
   . rintro C3 F3 j ys B' own' m ⟨rfl,rfl,l,rfl,hsub,hiff⟩ hm
     rw [Qaa] at hm
     obtain ⟨y,hy,rfl⟩:=Qad.mp hm
     have hyn:=Qgd hok hr (Qcs hy)
     have hty:=Qak hy
     refine Qdu ?_
     walk_at "m cex"
     walk_at "m"
     rw [el]
     refine Qax (λhc=>?_) (λhc=>?_)
     . obtain ⟨wd,hwd⟩:=Qfe (l:=ds) hyn.1 (by rw [hd6.1];exact hc)
       obtain ⟨fo,hfoB,hfom⟩:=hd6.2 _ _ hwd
       rw [Qxr hyn.1] at hfom
       walk_at "m"
       refine Qae (.inr q56) hyn.1 (m:=.ref wd) (by rw [Qaa,hwd];rfl) ?_
       walk_at "m"
       rw [Qa0]
       refine Qax (λhc2=>?_) (λhc2=>?_)
       . walk_at "m"
         refine Qap ?_
         refine Qbz ?_
         walk_at "m"
         refine ⟨_,.refl _,rfl,rfl,l++[y],by rw [Qd1];rfl,by rw [hty];exact hsub.append (.refl _),λz=>?_⟩
         rw [hty,Qaz,Qaz,hiff z,Qbq]
         constructor
         . rintro (h | rfl)
           . exact ⟨.inl h.1,h.2⟩
           . exact ⟨.inr rfl,hc,(hfom x).mp hc2⟩
         . rintro ⟨h | h,h'⟩
           . exact .inl ⟨h,h'⟩
           . exact .inr h
       . walk_at "m"
         refine ⟨_,.refl _,rfl,rfl,l,rfl,by rw [hty];exact hsub.trans (Qwt ..),λz=>?_⟩
         rw [hty,Qaz,hiff z,Qbq]
         constructor
         . exact λh=>⟨.inl h.1,h.2⟩
         . rintro ⟨h | rfl,h'⟩
           . exact ⟨h,h'⟩
           . exact absurd ((hfom x).mpr h'.2) hc2
     . walk_at "m"
       refine ⟨_,.refl _,rfl,rfl,l,rfl,by rw [hty];exact hsub.trans (Qwt ..),λz=>?_⟩
       rw [hty,Qaz,hiff z,Qbq]
       constructor
       . exact λh=>⟨.inl h.1,h.2⟩
       . rintro ⟨h | rfl,h'⟩
         . exact ⟨h,h'⟩
         . exact absurd h'.1 hc
   rintro ys B' own' ⟨rfl,rfl,l,rfl,hsub,hiff⟩ va hva
   rw [Qab,Qhi] at hsub hiff
   have htx:=Qak hx
   have hnew:(some x:Option Int)∉(bhKV (L.take i) ls).map (·.1):=by
     rw [hon.keys]
     intro h
     obtain ⟨x',h1,h2⟩:=Qc6.mp h
     cases h2
     have hn2:=hLn
     rw [<-Qwl (i+1) L,htx] at hn2
     exact (Qdi.mp (Qdi.mp hn2).1).2.2 x h1 x (by simp) rfl
   have hln:(bhKV (L.take i) ls).length+1<=lim:=by
     have e1:=congrArg List.length hon.keys
     rw [Qab,Qab] at e1
     rw [e1]
     exact Qb9 (n:=300) (by rw [Qww];exact om16 ‹_› ‹_› ‹_›) (by decide)
   walk_at "m"
   refine Qa7 F2 (.tail .head) hln ?_
   refine Qcr λhfa u_=>?_
   have hva0:B' va=none:=hfa va (by simp)
   walk_at "m"
   have s7:=Sub0.set (o:=.list (l.map MV.int)) hva0
   rw [Qi2 hnew,<-(hon.kv (a:=va) (x:=x)),<-htx]
   refine ⟨_,.trans (.frz (λh=>nomatch h)) (.pre [_] rfl),_,ls++[va],rfl,s5.trans (s6.trans s7),?_⟩
   rw [htx]
   refine (hon.mono (s6.trans s7)).snoc setB_self (λz=>?_) (Qdg hsub.length_le (Qh4 r))
   rw [hiff z]
   constructor
   . rintro ⟨g1,g2,g3⟩
     exact ⟨((Qbh hok [] x z).mpr ⟨⟨hx0,r,hr,g1⟩,g2,by simp⟩).1,g3⟩
   . rintro ⟨g1,g2⟩
     obtain ⟨⟨u_,r',hr',hz⟩,g3⟩:=(Qbh hok [] x z).mp ⟨g1,by simp⟩
     rw [hr] at hr';cases hr'
     exact ⟨hz,g3.1,g2⟩
 . rintro C2 F2 σ' ⟨B5,ls,rfl,s5,hon⟩
   rw [Qab,Qhi] at hon ⊢
   refine Qcr λhfa u_=>?_
   have hfd0:B5 fd=none:=hfa fd (by simp)
   walk_at "m"
   refine ⟨_,.frz (λh=>nomatch h),hQ fd L ls _ ((s12.trans (s34.trans s5)).trans (Sub0.set hfd0)) setB_self hLn hLl hLm (hon.mono (Sub0.set hfd0))⟩
end
section
open PySem
variable {hb:Heap} {w:World} {f:Addr} {n:Nat}
structure SI (G:Int->Int->Prop)(L:List Int)(x:Int)(seen W:List Int):Prop where
 snd:∀y,y∈seen\/y∈W->Pl G L x y
 fst:∀z,fw G x z->z∈seen\/z∈W
 cl:∀y∈seen,∀z,fw G y z->z∈seen\/z∈W
 nd:seen.Nodup
theorem Pl.mem {G:Int->Int->Prop}{L:List Int}{x y:Int}(h:Pl G L x y):y∈L:=by cases h with | one _ o=>exact o | step _ _ o=>exact o
theorem SI.init {G:Int->Int->Prop}{L l:List Int}{x:Int}(hl:∀z,z∈l↔fw G x z)(hL:∀z,fw G x z->z∈L):SI G L x [] l where
 snd:=λy h=>h.elim (λh=>nomatch h) λh=>.one ((hl y).mp h) (hL y ((hl y).mp h))
 fst:=λz h=>.inr ((hl z).mpr h)
 cl:=λy h=>nomatch h
 nd:=.nil
theorem SI.drop {G:Int->Int->Prop}{L seen W:List Int}{x o:Int}(h:SI G L x seen (W++[o]))(ho:o∈seen):SI G L x seen W where
 snd:=λy hy=>h.snd y (hy.imp id λh=>Qaq _ h)
 fst:=λz hz=>(h.fst z hz).elim .inl λh'=>(Qaz.mp h').elim .inr λe=>.inl (by rw [Qbq.mp e];exact ho)
 cl:=λy hy z hz=>(h.cl y hy z hz).elim .inl λh'=>(Qaz.mp h').elim .inr λe=>.inl (by rw [Qbq.mp e];exact ho)
 nd:=h.nd
theorem SI.add {G:Int->Int->Prop}{L seen W l:List Int}{x o:Int}(h:SI G L x seen (W++[o]))(ho:o∉seen)(hl:∀z,z∈l↔fw G o z)(hL:∀z,fw G o z->z∈L):SI G L x (seen++[o]) (W++l) where
 snd:=λy hy=>by
   rcases hy with hy | hy
   . rcases Qaz.mp hy with hy | hy
     . exact h.snd y (.inl hy)
     . exact h.snd y (.inr (Qbv _ hy))
   . rcases Qaz.mp hy with hy | hy
     . exact h.snd y (.inr (Qaq _ hy))
     . exact .step (h.snd o (.inr (by simp))) ((hl y).mp hy) (hL y ((hl y).mp hy))
 fst:=λz hz=>by
   rcases h.fst z hz with h' | h'
   . exact .inl (Qaq _ h')
   . rcases Qaz.mp h' with h' | h'
     . exact .inr (Qaq _ h')
     . exact .inl (Qbv _ h')
 cl:=λy hy z hz=>by
   rcases Qaz.mp hy with hy | hy
   . rcases h.cl y hy z hz with h' | h'
     . exact .inl (Qaq _ h')
     . rcases Qaz.mp h' with h' | h'
       . exact .inr (Qaq _ h')
       . exact .inl (Qbv _ h')
   . obtain rfl:=Qbq.mp hy
     exact .inr (Qbv _ ((hl z).mpr hz))
 nd:=Qdi.mpr ⟨h.nd,by simp,λa ha b hb' e=>by rw [Qbq] at hb';subst e hb';exact ho ha⟩
theorem SI.done {G:Int->Int->Prop}{L seen:List Int}{x:Int}(h:SI G L x seen [])(y:Int):y∈seen↔Pl G L x y:=by
 refine ⟨λhy=>h.snd y (.inl hy),λhp=>?_⟩
 induction hp with
 | one e _=>exact (h.fst _ e).resolve_right λh=>nomatch h
 | step _ e _ ih=>exact (h.cl _ ih _ e).resolve_right λh=>nomatch h
theorem SI.len {G:Int->Int->Prop}{L seen W:List Int}{x:Int}(h:SI G L x seen W):seen.length<=L.length:=Qbs _ _ h.nd λy hy=>(h.snd y (.inl hy)).mem
theorem Qox {kvs:KV}{l:List Int}(h:kvs.map (·.1)=l.map some):kvs.map (λp=>Qau p.1)=l.map MV.int:=by
 have:=congrArg (List.map Qau) h
 rw [Qxw,Qxw] at this
 exact this
inductive Qdq (args:List MV)(B:MH)(own:Own)(Q:MV->MH->Own->Prop):Prop
 | mk (h1_:own=[]) (d:Addr) (L:List Int) (ls:List Addr) (rs:List Rw) (h2_:args=[.ref d]) (h3_:B d=some (.dict (bhKV L ls))) (h4_:OnAt B (Fw rs) ls L) (h5_:L.Nodup) (h6_:L.length<=1000) (h7_:(∀y,y∈L↔Live (edge (gsOf rs)) y)) (h8_:∀(a:Addr) (found:List Int) (B':MH),Sub0 B B'->B' a=some (.list (found.map MV.int))->found.Sublist L->(∀x,x∈found↔x∈L/\Pl (edge (gsOf rs)) L x x)->Q (.ref a) B' []):Qdq args B own Q
inductive Qq1 (B:MH)(d:Addr)(L:List Int)(rs:List Rw)(fd:Addr)(found:List Int)(x:Int)(sn:Addr)(k:Nat)(σ':St):Prop
 | mk (wa:Addr) (seen W:List Int) (h1_:σ'=⟨[(Qa "_law_onward_here",.ref d),(Qa "_law_found",.ref fd),(Qa "_law_row",.int x),(Qa "_law_seen",.ref sn),(Qa "_law_waiting",.ref wa)],B,[(wa,.list (W.map MV.int)),(sn,.dict (tks seen)),(fd,.list (found.map MV.int))]⟩) (h2_:k=3*(L.length-seen.length)+W.length) (h3_:SI (edge (gsOf rs)) L x seen W) (h4_:W.length<=2*seen.length+2):Qq1 B d L rs fd found x sn k σ'
inductive Qq2 (B:MH)(d:Addr)(L:List Int)(rs:List Rw)(fd:Addr)(i:Nat)(σ':St):Prop
 | mk (found:List Int) (h1_:σ'=⟨[(Qa "_law_onward_here",.ref d),(Qa "_law_found",.ref fd)],B,[(fd,.list (found.map MV.int))]⟩) (h2_:found.Sublist (L.take i)) (h3_:∀x,x∈found↔x∈L.take i/\Pl (edge (gsOf rs)) L x x):Qq2 B d L rs fd i σ'
theorem Qj4 (F:FnAt hb f Qen)(hlim:hb.NoLimit)(glen:Gl hb "len" (.oth (.builtin "len")))(gli:Gl hb "list" (.oth (.type "list"))):Contract P w hb (.ref f) (n+1) Qdq:=by
 refine Contract.of F hlim (by rintro args B own Q ⟨_,_,_,_,_,e,_⟩;subst e;rfl) ?_
 rintro C args B own Q F' ⟨rfl,d,L,ls,rs,rfl,hd,hon,hLn,hLl,hLm,hQ⟩
 show Sts C (Qan P Qen) ⟨[(Qa "_law_onward_here",_)],B,[]⟩ _
 have hcl:∀x∈L,∀z,Fw rs x z->z∈L:=λx hx z hz=>(hLm z).mpr (((hLm x).mp hx).step hz.1)
 refine Qag ?_
 walk_at "m"
 intro fd hfd
 walk_at "m"
 refine Qao F' (λu_=>rfl) ?_
 walk_at "m"
 refine ⟨L.map MV.int,(Qq2 B d L rs fd),⟨d,rfl,.inr (.inl (.inr ⟨_,hd,(Qox hon.keys).symm⟩))⟩,⟨_,.refl _,[],rfl,.slnil,by simp⟩,?_,?_⟩
 . rintro C1 F1 i σ' m ⟨found,rfl,hsub,hiff⟩ hm
   rw [Qaa] at hm
   obtain ⟨x,hx,rfl⟩:=Qad.mp hm
   have hxL:=Qcs hx
   have htx:=Qak hx
   obtain ⟨a,l,e1,e2,e3,e4⟩:=hon.get hxL
   walk_at "m"
   refine Qcz F1 hlim λsn hsn=>?_
   walk_at "m"
   refine Qb5 (.inr hd) e1 ?_
   walk_at "m"
   intro wa hwa
   walk_at "m"
   refine Qdd F1 ((Qq1 B d L rs fd found x sn)) ?_ _ ⟨_,.refl _,wa,[],l,rfl,rfl,.init e3 (hcl x hxL),by exact om17 ‹_›⟩
   rintro k σ' ⟨wa,seen,W,rfl,rfl,hI,hWl⟩
   have hsl:=hI.len
   rcases Qxp W with rfl | ⟨W',o,rfl⟩
   . have hdone:=hI.done
     walk_at "m"
     refine Qbl (by decide) ?_
     walk_at "m"
     rw [Qa0]
     refine Qax (λhc=>?_) (λhc=>?_)
     . have hfl:(found.map MV.int).length+1<=lim:=by
         rw [Qab]
         exact Qb9 (n:=1000) (Qdg hsub.length_le (by rw [Qww];exact om18 ‹_›)) (by decide)
       walk_at "m"
       rw [show found.map MV.int++[MV.int x]=(found++[x]).map MV.int by rw [Qd1];rfl]
       refine ⟨_,.trans (.own (.cons _ (.cons _ (.refl _)))) (.pre [_,_,_] rfl),found++[x],rfl,by rw [htx];exact hsub.append (.refl _),λz=>?_⟩
       rw [htx,Qaz,Qaz,hiff z,Qbq]
       constructor
       . rintro (h | rfl)
         . exact ⟨.inl h.1,h.2⟩
         . exact ⟨.inr rfl,(hdone z).mp hc⟩
       . rintro ⟨h | h,h'⟩
         . exact .inl ⟨h,h'⟩
         . exact .inr h
     . walk_at "m"
       refine ⟨_,.trans (.own (.cons _ (.cons _ (.refl _)))) (.pre [_,_,_] rfl),found,rfl,by rw [htx];exact hsub.trans (Qwt ..),λz=>?_⟩
       rw [htx,Qaz,hiff z,Qbq]
       constructor
       . exact λh=>⟨.inl h.1,h.2⟩
       . rintro ⟨h | rfl,h'⟩
         . exact ⟨h,h'⟩
         . exact absurd ((hdone z).mpr h') hc
   . rw [Qyh] at hI hWl ⊢
     rw [Qey,Qxk] at hWl ⊢
     rw [Qd1]
     walk_at "m"
     refine Qb2 (by rw [Qey];exact Qw9.mpr (Qyg _)) ?_
     walk_at "m"
     refine Qkh F1 rfl rfl ?_
     walk_at "m"
     refine ⟨wa,W'.map MV.int,.int o,_,rfl,.head,?_⟩
     walk_at "m"
     rw [Qa0]
     refine Qc1 (λhc=>?_) (λhc=>?_)
     . have hoL:o∈L:=(hI.snd o (.inr (by simp))).mem
       obtain ⟨a',l',k1,k2,k3,k4⟩:=hon.get hoL
       have hI':=hI.add hc k3 (hcl o hoL)
       have hsl':=hI'.len
       rw [Qey,Qxk] at hsl'
       walk_at "m"
       refine Qa7 F1 (.tail .head) (by rw [Qcl];exact Qb9 (n:=1000) (by exact om19 ‹_› ‹_›) (by decide)) ?_
       walk_at "m"
       refine Qb5 (.inr hd) k1 ?_
       walk_at "m"
       refine Ql1 F1 (by walk_at "m has") (.inr k2) (by rw [Qab,Qab];unfold lim;exact om20 ‹_› ‹_› ‹_› ‹_›) λwa2 hwa2=>?_
       walk_at "m"
       rw [Qfh hc,<-Qd1]
       exact ⟨_,.trans (.own (.cons_cons _ (.cons _ (.refl _)))) (.pre [_] rfl),_,by rw [Qey,Qey,Qxk];exact om21 ‹_› ‹_›,wa2,seen++[o],W'++l',rfl,rfl,hI',by rw [Qey,Qey,Qxk];exact om22 ‹_› ‹_›⟩
     . walk_at "m"
       exact ⟨_,.pre [_] rfl,3*(L.length-seen.length)+W'.length,Qxc _,wa,seen,W',rfl,rfl,hI.drop hc,by exact om23 ‹_›⟩
 . rintro C1 F1 σ' ⟨found,rfl,hsub,hiff⟩
   rw [Qab,Qhi] at hsub hiff
   walk_at "m"
   exact ⟨_,.frz (λh=>nomatch h),hQ fd found _ (Sub0.set hfd.B) setB_self hsub hiff⟩
theorem Cyc.congr {G:Int->Int->Prop}{L L':List Int}(h:∀y,y∈L->y∈L')(hc:Cyc G L):Cyc G L':=by
 obtain ⟨x,hx,hp⟩:=hc
 refine ⟨x,h x hx,?_⟩
 have:∀y,Pl G L x y->Pl G L' x y:=λy hy=>by
   induction hy with
   | one e o=>exact .one e (h _ o)
   | step _ e o ih=>exact .step ih e (h _ o)
 exact this x hp
inductive Qhm (args:List MV)(B:MH)(own:Own)(Q:MV->MH->Own->Prop):Prop
 | mk (h1_:own=[]) (b rb:Addr) (rs:List Rw) (h2_:args=[.ref b,.ref rb]) (h3_:RowsAt B b rs) (h4_:Qal rs) (h5_:(∀L:List Int,(∀y,y∈L↔Live (edge (gsOf rs)) y)->¬Cyc (edge (gsOf rs)) L)) (h6_:∀(d:Addr) (B':MH),Sub0 B B'->B' d=some (.dict [])->Q (.ref d) B' []):Qhm args B own Q
end
section
open PySem
variable {hb:Heap} {w:World} {f:Addr} {n:Nat}
theorem Qvi {l:List Int}{k:Int}{j:Nat}(hk:k=j)(h:j<l.length):(l.map MV.int)[k.toNat]? = some (.int (l.getD j 0)):=by
 subst hk
 rw [Qej,Qaa,Qws h,Qhh,Qws h];rfl
theorem pick4 {a b c d:Int}{m lo hi:Int}(h0:0<=m/\m<4)(ha:lo<=a/\a<=hi)(hb':lo<=b/\b<=hi)(hc:lo<=c/\c<=hi)(hd:lo<=d/\d<=hi):∃v,[MV.int a,.int b,.int c,.int d][m.toNat]? = some (.int v)/\lo<=v/\v<=hi:=by
 have:m=0\/m=1\/m=2\/m=3:=by exact om24 ‹_›
 rcases this with rfl | rfl | rfl | rfl
 . exact ⟨a,rfl,ha⟩
 . exact ⟨b,rfl,hb'⟩
 . exact ⟨c,rfl,hc⟩
 . exact ⟨d,rfl,hd⟩
inductive Qhl (args:List MV)(B:MH)(own:Own)(Q:MV->MH->Own->Prop):Prop
 | mk (h1_:own=[]) (N:Nat) (ca:Addr) (cells:List Int) (h2_:args=[.int N,.ref ca]) (h3_:2<=N) (h4_:N<=19) (h5_:B ca=some (.list (cells.map MV.int))) (h6_:2+N<=cells.length) (h7_:∀(b:Addr) (B':MH) (rs:List Rw),Sub0 B B'->RowsAt B' b rs->Qal rs->rs.length=N+1->Q (.ref b) B' []):Qhl args B own Q
inductive Qls (B:MH)(N:Nat)(ca:Addr)(lr:Addr)(i:Nat)(σ':St):Prop
 | mk (B':MH) (as:List Addr) (rs:List Rw) (h1_:σ'=⟨[(Qa "_law_size",.int N),(Qa "_law_cells",.ref ca),(Qa "_law_rows",.ref lr)],B',[(lr,.list (as.map MV.ref))]⟩) (h2_:Sub0 B B') (h3_:TupsAt B' as rs) (h4_:rs.length=i+1) (h5_:∀r∈rs,Rw.Ok (N+1) r):Qls B N ca lr i σ'
theorem Qne (F:FnAt hb f Qdm)(hlim:hb.NoLimit)(gr:Gl hb "range" (.oth (.type "range"))):Contract P w hb (.ref f) (n+1) Qhl:=by
 refine Contract.of F hlim (by rintro args B own Q ⟨_,_,_,_,e,_⟩;subst e;rfl) ?_
 intro C args B own Q F' hJ_
 refine smG λH_ k_=>?_
 obtain ⟨rfl,N,ca,cells,rfl,hN2,hN9,hca,hcl,hQ⟩:=hJ_
 refine k_ ?_
 clear k_ H_
 show Sts C (Qan P Qdm) ⟨[(Qa "_law_size",_),(Qa "_law_cells",_)],B,[]⟩ _
 have hN0:((N:Nat):Int)≠0:=by exact om25 ‹_› ‹_›
 have hNl:((N:Nat):Int).natAbs.log2<9000:=Qh5 (by omega)
 have hNp:(0:Int)<((N:Nat):Int):=by exact om27 ‹_› ‹_›
 refine Qag ?_
 walk_at "m"
 refine Qae (.inr hca) (by decide) (Qvi (j:=0) rfl (by exact om28 ‹_› ‹_› ‹_›)) ?_
 walk_at "m"
 refine Qae (.inr hca) (by decide) (Qvi (j:=1) rfl (by exact om29 ‹_› ‹_› ‹_›)) ?_
 walk_at "m"
 intro t0 ht0
 have m0:=Qam (cells.getD 0 0) hNp
 have m1:=Qam (cells.getD 1 0) hNp
 generalize (cells.getD 0 0).fmod N=y0 at m0 ⊢
 generalize (cells.getD 1 0).fmod N=y1 at m1 ⊢
 refine Qfm F' [(t0,_)] [] (λu_ u_ h=>nomatch h) λB1 s1 g1=>?_
 have q1:=g1 _ (.head _)
 dsimp only at q1
 clear g1 ht0
 walk_at "m"
 intro lr hlr
 walk_at "m"
 refine Qao F' (λu_=>rfl) ?_
 walk_at "m"
 refine Qar (Qwu _) (by rw [Qej];unfold lim;exact om30 ‹_› ‹_›) λrn=>?_
 rw [Qej]
 refine ⟨_,(Qls B N ca lr),⟨rn,rfl,.inr (.inr ⟨_,.inl (.head _),rfl⟩)⟩,⟨_,.tl,B1,[t0],[⟨false,0,1+y0,1+y1⟩],rfl,s1,TupsAt.snoc (as:=[]) (rs:=[]) ⟨rfl,by simp⟩ q1,rfl,λr hr=>?_⟩,?_,?_⟩
 . rw [Qbq.mp hr]
   exact ⟨Qw0 _,by show (0:Int)<4;decide,by show 0<=1+y1;exact om31 ‹_›,by show 1+y1<=(N:Int)+1;exact om32 ‹_›,λu_=>⟨by show 0<=1+y0;exact om31 ‹_›,by show 1+y0<=(N:Int)+1;exact om32 ‹_›⟩⟩
 . intro C1 F1 i σ' m hJ_ hm
   refine smG λH_ k_=>?_
   obtain ⟨B2,as,rs,rfl,s2,ht,hrl,hro⟩:=hJ_
   refine k_ ?_
   clear k_ H_
   refine smG λH_ k_=>?_
   obtain ⟨hi,rfl⟩:=Qft hm
   refine k_ ?_
   clear k_ H_
   have hca2:=s2 _ _ hca
   have hal:(as.map MV.ref).length+1<=lim:=by rw [Qab,ht.1,hrl];exact Qb9 (n:=20) (by exact om33 ‹_› ‹_› ‹_›) (by decide)
   have hz:=Qvi (l:=cells) (k:=2+(i:Int)) (j:=2+i) (by exact om34) (by exact om35 ‹_› ‹_›)
   have hz0:(0:Int)<=2+(i:Int):=by exact om36
   generalize cells.getD (2+i) 0=z at hz
   have k4:=Qam (i:Int) (b:=4) (by decide)
   have kN:=Qam ((i:Int)+1) hNp
   have z4:=Qam (z.fdiv 4) (b:=4) (by decide)
   have zN:=Qam (z.fdiv 4) hNp
   refine smG λH_ k_=>?_
   obtain ⟨v,hv,hv0,hv1⟩:=pick4 (a:=(N:Int)+1) (b:=1+(z.fdiv 4).fmod N) (c:=0) (d:=(N:Int)+1) (lo:=0) (hi:=(N:Int)+1) z4 (by exact om37 ‹_› ‹_›) (by exact om38 ‹_›) (by exact om39 ‹_› ‹_›) (by exact om37 ‹_› ‹_›)
   refine k_ ?_
   clear k_ H_
   walk_at "m"
   refine Qae (.inr hca2) hz0 hz ?_
   walk_at "m"
   refine Qae (.inr hca2) hz0 hz ?_
   walk_at "m"
   intro sl hsl
   walk_at "m"
   refine Qae (.inr hca2) hz0 hz ?_
   walk_at "m"
   refine Qae (.inl (.head _)) z4.1 hv ?_
   walk_at "m"
   have fin:∀(r:Rw) (t:Addr) (l r':Loc),Rw.Ok (N+1) r->B2 t=none->l=[(Qa "_law_size",.int N),(Qa "_law_cells",.ref ca),(Qa "_law_rows",.ref lr)]++r' ->
       Tn [] (Qls B N ca lr (i+1))
         ⟨l,B2,[(t,.tup (Rw.mv r)),(sl,.list [.int ((N:Int)+1),.int (1+(z.fdiv 4).fmod N),.int 0,.int ((N:Int)+1)]),(lr,.list (as.map MV.ref++[.ref t]))]⟩:=by
     intro r t l r' hr ht0 hl
     have s3:=Sub0.set (o:=.tup (Rw.mv r)) ht0
     rw [show as.map MV.ref++[MV.ref t]=(as++[t]).map MV.ref by rw [Qd1];rfl]
     refine ⟨_,.trans (.frz (λh=>nomatch h)) (.trans .tl (.pre r' hl)),_,as++[t],rs++[r],rfl,s2.trans s3,(ht.mono s3).snoc setB_self,by rw [Qey,hrl];rfl,λr2 h=>?_⟩
     rcases Qaz.mp h with h | h
     . exact hro r2 h
     . rw [Qbq.mp h];exact hr
   refine Qax (λhw=>?_) (λhw=>?_)
   . walk_at "m"
     refine Qae (.inr hca2) hz0 hz ?_
     walk_at "m"
     intro t ht'
     walk_at "m"
     exact fin ⟨true,(i:Int).fmod 4,(z.fdiv 4).fmod 5-2,1+((i:Int)+1).fmod N⟩ t _ [_,_,_] ⟨k4.1,k4.2,by show 0<=1+((i:Int)+1).fmod N;exact om31 ‹_›,by show 1+((i:Int)+1).fmod N<=(N:Int)+1;exact om32 ‹_›,λh=>nomatch h⟩ ht'.B rfl
   . walk_at "m"
     intro t ht'
     walk_at "m"
     exact fin ⟨false,(i:Int).fmod 4,1+((i:Int)+1).fmod N,v⟩ t _ [_,_,_] ⟨k4.1,k4.2,hv0,hv1,λu_=>⟨by show 0<=1+((i:Int)+1).fmod N;exact om31 ‹_›,by show 1+((i:Int)+1).fmod N<=(N:Int)+1;exact om32 ‹_›⟩⟩ ht'.B rfl
 . intro C1 F1 σ' hJ_
   refine smG λH_ k_=>?_
   obtain ⟨B2,as,rs,rfl,s2,ht,hrl,hro⟩:=hJ_
   refine k_ ?_
   clear k_ H_
   rw [Qab,Qxx] at hrl
   refine Qcr λhfa u_=>?_
   have hlr0:B2 lr=none:=hfa lr (by simp)
   have s3:=Sub0.set (o:=.list (as.map MV.ref)) hlr0
   walk_at "m"
   refine ⟨_,.frz (λh=>nomatch h),hQ lr _ rs (s2.trans s3) ⟨as,setB_self,ht.mono s3⟩ ⟨by exact om40 ‹_› ‹_› ‹_›,by exact om41 ‹_› ‹_› ‹_›,λr hr=>?_⟩ (by exact om42 ‹_›)⟩
   rw [hrl];exact hro r hr
end
section
open PySem
structure InRng (gs:Gs):Prop where
 pos:1<=gs.length
 rng:∀(i:Nat) (l:List (Option Int)) (y:Int),gs[i]? = some l->some y∈l->0<=y/\y<gs.length
theorem InRng.eg {gs:Gs}(h:InRng gs){a b:Int}(e:edge gs a b):0<=b/\b<gs.length:=let ⟨_,l,h1,h2⟩:=e;h.rng _ l b h1 h2
theorem Qi0 {gs:Gs}{a b:Int}(e:edge gs a b):0<=a/\a<gs.length:=by
 obtain ⟨h0,l,h1,u_⟩:=e
 have:a.toNat<gs.length:=by
   by_cases h:a.toNat<gs.length
   . exact h
   . rw [Qxj (by exact om44 ‹_›)] at h1;cases h1
 exact om45 ‹_› ‹_›
theorem InRng.live {gs:Gs}(h:InRng gs){x:Int}(hx:Live (edge gs) x):0<=x/\x<gs.length:=by
 have:=h.pos
 cases hx with
 | refl=>exact om43 ‹_›
 | step _ e _=>exact h.eg e
noncomputable def frI (rest:List Int)(N:Nat)(o:Int):Int:=if o∈rest then ((N+rest.idxOf o:Nat):Int) else o
noncomputable def frO (rest:List Int)(N:Nat)(x:Option Int):Option Int:=x.map (frI rest N)
noncomputable def led (gs:Gs)(R rest:List Int):Gs:=gs.mapIdx λi l=>if (i:Int)∈R then l else l.map (frO rest gs.length)
noncomputable def Qfc (gs:Gs)(R rest:List Int):Gs:=led gs R rest++rest.map λo=>(gs.getD o.toNat []).map (frO rest gs.length)
noncomputable def osF (os:List Int)(u:Int):Int:=os.getD u.toNat 0
noncomputable def osC (os rest:List Int):List Int:=os++rest.map (osF os)
noncomputable def Qcg (rest:List Int)(N:Nat):List Int:=rest.map (frI rest N)
noncomputable def frB (rest:List Int)(N:Nat)(u:Int):Int:=if (N:Int)<=u/\u<(N+rest.length:Nat) then rest.getD (u.toNat-N) 0 else u
theorem Qfv (gs:Gs)(R rest:List Int):(led gs R rest).length=gs.length:=by simp [led]
theorem Qca (gs:Gs)(R rest:List Int):(Qfc gs R rest).length=gs.length+rest.length:=by simp [Qfc,Qfv]
theorem Qfb {gs:Gs}{R rest:List Int}{i:Nat}{l:List (Option Int)}(h:gs[i]? = some l):(Qfc gs R rest)[i]? = some (if (i:Int)∈R then l else l.map (frO rest gs.length)):=by
 have hi:=(Qck.mp h).1
 rw [Qfc,Qhn (by rw [Qfv];exact hi),led,Qwg,h];rfl
theorem Qf3 {gs:Gs}{R rest:List Int}{i:Nat}{o:Int}(h:rest[i]? = some o):(Qfc gs R rest)[gs.length+i]? = some ((gs.getD o.toNat []).map (frO rest gs.length)):=by
 rw [Qfc,Qlv (by rw [Qfv];exact om47),Qfv,Qxl,Qaa,h];rfl
theorem Qha {rest:List Int}{N:Nat}{y:Int}(h:y<N):frB rest N (frI rest N y)=y:=by
 unfold frI
 by_cases hy:y∈rest
 . rw [if_pos hy]
   have hl:=Qwc hy
   unfold frB
   rw [if_pos (by exact om49 ‹_›),Qej,Qxl,Qhh,getElem?_pos rest _ hl,Qxd,Qzy]
 . rw [if_neg hy];unfold frB;rw [if_neg (by exact om46 ‹_›)]
theorem Qes {rest:List Int}{N:Nat}{u:Int}(h:u<N):frB rest N u=u:=by unfold frB;rw [if_neg (by exact om46 ‹_›)]
theorem Qbd {rest:List Int}{N:Nat}(hn:rest.Nodup){u:Int}:u∈Qcg rest N↔(N:Int)<=u/\u<(N+rest.length:Nat):=by
 unfold Qcg
 rw [Qc6]
 constructor
 . rintro ⟨o,ho,rfl⟩
   have hl:=Qwc ho
   unfold frI;rw [if_pos ho];exact om49 ‹_›
 . rintro ⟨h1,h2⟩
   have hl:u.toNat-N<rest.length:=by exact om51 ‹_› ‹_›
   refine ⟨rest[u.toNat-N],Qwp hl,?_⟩
   unfold frI
   rw [if_pos (Qwp hl),List.Nodup.idxOf_getElem hn];exact om56 ‹_›
theorem Qo5 {rest:List Int}{N:Nat}{y:Int}(hr:∀o∈rest,o<(N:Int)):frI rest N y∉rest:=by
 unfold frI
 by_cases hy:y∈rest
 . rw [if_pos hy];intro h;have:=hr _ h;exact (om48 ‹_›).elim
 . rw [if_neg hy];exact hy
theorem Qb3 {gs:Gs}(hg:InRng gs){R rest:List Int}(hr:∀o∈rest,0<=o/\o<(gs.length:Int)){u v:Int}:edge (Qfc gs R rest) u v ↔
   (u<gs.length/\u∈R/\edge gs u v)\/(u<gs.length/\u∉R/\∃y,edge gs u y/\v=frI rest gs.length y)\/((gs.length:Int)<=u/\∃o,rest[u.toNat-gs.length]? = some o/\∃y,edge gs o y/\v=frI rest gs.length y):=by
 constructor
 . rintro ⟨h0,l,h1,h2⟩
   by_cases hu:u<gs.length
   . have hi:u.toNat<gs.length:=by exact om50 ‹_› ‹_›
     rw [Qfb (getElem?_pos gs _ hi),show ((u.toNat:Nat):Int)=u by exact om54 ‹_›] at h1
     by_cases hR:u∈R
     . rw [if_pos hR] at h1
       exact .inl ⟨hu,hR,h0,_,(getElem?_pos gs _ hi).trans h1,h2⟩
     . rw [if_neg hR] at h1
       cases h1
       obtain ⟨x,hx,e⟩:=Qc6.mp h2
       cases x with
       | none=>cases e
       | some y=>cases e;exact .inr (.inl ⟨hu,hR,y,⟨h0,_,getElem?_pos gs _ hi,hx⟩,rfl⟩)
   . have hlt:=(Qck.mp h1).1
     rw [Qca] at hlt
     have hi:u.toNat-gs.length<rest.length:=by exact om59 ‹_› ‹_› ‹_›
     have e:=Qf3 (gs:=gs) (R:=R) (getElem?_pos rest _ hi)
     rw [show gs.length+(u.toNat-gs.length)=u.toNat by exact om62 ‹_› ‹_›,h1] at e
     cases e
     have ho:=hr _ (Qwp hi)
     obtain ⟨x,hx,e⟩:=Qc6.mp h2
     cases x with
     | none=>cases e
     | some y =>
       cases e
       refine .inr (.inr ⟨by exact om63 ‹_› ‹_›,_,getElem?_pos rest _ hi,y,⟨ho.1,_,getElem?_pos gs _ (by omega),?_⟩,rfl⟩)
       rwa [Qhh,getElem?_pos gs _ (by omega),Qxd] at hx
 . rintro (⟨hu,hR,h0,l,h1,h2⟩ | ⟨hu,hR,y,⟨h0,l,h1,h2⟩,rfl⟩ | ⟨hu,o,ho,y,⟨h0,l,h1,h2⟩,rfl⟩)
   . exact ⟨h0,l,by rw [Qfb h1,show ((u.toNat:Nat):Int)=u by exact om54 ‹_›,if_pos hR],h2⟩
   . exact ⟨h0,_,by rw [Qfb h1,show ((u.toNat:Nat):Int)=u by exact om54 ‹_›,if_neg hR],Qc6.mpr ⟨some y,h2,rfl⟩⟩
   . refine ⟨by exact om72 ‹_›,_,by have:=Qf3 (gs:=gs) (R:=R) ho;rwa [show gs.length+(u.toNat-gs.length)=u.toNat by exact om73 ‹_›] at this,?_⟩
     rw [Qhh,h1,Qxd]
     exact Qc6.mpr ⟨some y,h2,rfl⟩
theorem Qr1 {gs:Gs}(hg:InRng gs){R rest:List Int}{h:Int}(hR:h∈R)(hRr:∀x∈R,0<=x/\x<(gs.length:Int))(hre:∀x,x∈rest↔x∈R/\x≠h)(hn:rest.Nodup) :
   Split (edge gs) (edge (Qfc gs R rest)) R rest (Qcg rest gs.length) h (frB rest gs.length) where
 hR:=hR
 re:=hre
 old:=λu hu=>by
   unfold frB
   rw [if_neg λhh=>hu ((Qbd hn).mpr hh)]
 new:=λu hu=>by
   have hu':=(Qbd hn).mp hu
   unfold frB
   rw [if_pos hu',Qhh,getElem?_pos rest _ (by exact om55 ‹_›)]
   exact Qwp _
 fwd:=λu v e=>by
   have hr:∀o∈rest,0<=o/\o<(gs.length:Int):=λo ho=>hRr o ((hre o).mp ho).1
   rcases (Qb3 hg hr).mp e with ⟨hu,u_,e⟩ | ⟨hu,u_,y,e1,rfl⟩ | ⟨hu,o,ho,y,e1,rfl⟩
   . rw [Qes hu,Qes (hg.eg e).2];exact e
   . rw [Qes hu,Qha (hg.eg e1).2];exact e1
   . have hl:=(Qck.mp ho).1
     rw [Qha (hg.eg e1).2]
     unfold frB
     rw [if_pos (by exact om61 ‹_› ‹_›),Qhh,ho];exact e1
 lift:=λu y e=>by
   have hr:∀o∈rest,0<=o/\o<(gs.length:Int):=λo ho=>hRr o ((hre o).mp ho).1
   have hy:=hg.eg e
   by_cases hu:u<gs.length
   . rw [Qes hu] at e
     by_cases huR:u∈R
     . exact ⟨y,Qes hy.2,(Qb3 hg hr).mpr (.inl ⟨hu,huR,e⟩)⟩
     . exact ⟨_,Qha hy.2,(Qb3 hg hr).mpr (.inr (.inl ⟨hu,huR,y,e,rfl⟩))⟩
   . by_cases hu2:u<(gs.length+rest.length:Nat)
     . have hl:u.toNat-gs.length<rest.length:=by exact om64 ‹_› ‹_› ‹_›
       unfold frB at e
       rw [if_pos (by exact om65 ‹_› ‹_›),Qhh,getElem?_pos rest _ hl,Qxd] at e
       exact ⟨_,Qha hy.2,(Qb3 hg hr).mpr (.inr (.inr ⟨by exact om67 ‹_›,_,getElem?_pos rest _ hl,y,e,rfl⟩))⟩
     . unfold frB at e
       rw [if_neg (by exact om68 ‹_›)] at e
       have:=Qi0 e
       omega
 inR:=λu v e hv=>by
   have hr:∀o∈rest,0<=o/\o<(gs.length:Int):=λo ho=>hRr o ((hre o).mp ho).1
   rcases (Qb3 hg hr).mp e with ⟨u_,huR,u_⟩ | ⟨u_,u_,y,u_,rfl⟩ | ⟨u_,o,u_,y,u_,rfl⟩
   . exact huR
   . exact absurd hv (Qo5 λo ho=>(hr o ho).2)
   . exact absurd hv (Qo5 λo ho=>(hr o ho).2)
 inK:=λu v e hv huR=>by
   have hr:∀o∈rest,0<=o/\o<(gs.length:Int):=λo ho=>hRr o ((hre o).mp ho).1
   have hv':=(Qbd hn).mp hv
   rcases (Qb3 hg hr).mp e with ⟨u_,u_,e⟩ | ⟨u_,huR',u_⟩ | ⟨hu,u_⟩
   . have:=(hg.eg e).2;exact (om70 ‹_› ‹_›).elim
   . exact huR' huR
   . have:=(hRr u huR).2;omega
 fresh:=λu hu hl=>by
   have hv':=(Qbd hn).mp hu
   have:=(hg.live hl).2
   exact (om70 ‹_› ‹_›).elim
theorem InRng.copy {gs:Gs}(hg:InRng gs){R rest:List Int}(hr:∀o∈rest,0<=o/\o<(gs.length:Int)):InRng (Qfc gs R rest) where
 pos:=by rw [Qca];have:=hg.pos;exact om52 ‹_›
 rng:=λi l y h1 h2=>by
   rw [Qca]
   have e:edge (Qfc gs R rest) i y:=⟨by exact om53,l,by rw [Qej];exact h1,h2⟩
   have fb:∀z,0<=z->z<(gs.length:Int)->0<=frI rest gs.length z/\frI rest gs.length z<(gs.length+rest.length:Nat):=λz z0 z1=>by
     unfold frI
     by_cases hz:z∈rest
     . rw [if_pos hz];have:=Qwc hz;exact om57 ‹_› ‹_› ‹_›
     . rw [if_neg hz];exact om58 ‹_› ‹_›
   rcases (Qb3 hg hr).mp e with ⟨u_,u_,e1⟩ | ⟨u_,u_,z,e1,rfl⟩ | ⟨u_,o,u_,z,e1,rfl⟩
   . have:=hg.eg e1;exact om60 ‹_›
   . exact fb z (hg.eg e1).1 (hg.eg e1).2
   . exact fb z (hg.eg e1).1 (hg.eg e1).2
end
section
open PySem
noncomputable def wgt:Nat->Nat
 | 0=>0 | 1=>0 | 2=>1 | 3=>4 | 4=>11 | 5=>26 | 6=>57
 | n+7=>10*(n+7)
theorem Qn5 (k:Nat):wgt k<=10*k:=by
 match k with
 | 0 | 1 | 2 | 3 | 4 | 5 | 6=>decide
 | n+7=>exact Qwb _
theorem Qt4 {k:Nat}(h:7<=k):wgt k=10*k:=by
 obtain ⟨n,rfl⟩:∃n,k=n+7:=⟨k-7,by exact om74 ‹_›⟩
 rfl
theorem Qn6 (a b:Nat):wgt a+wgt b<=wgt (a+b):=by
 by_cases h:7<=a+b
 . rw [Qt4 h];have:=Qn5 a;have:=Qn5 b;exact om77 ‹_› ‹_›
 . have h:a+b<7:=Nat.not_le.mp h
   exact (by decide:∀a b:_root_.Fin 7,a.1+b.1<7->wgt a.1+wgt b.1<=wgt (a.1+b.1)) ⟨a,Qxa (Qx3 ..) h⟩ ⟨b,Qxa (Qx7 ..) h⟩ h
theorem Ql4 {a b:Nat}(h:a<=b):wgt a<=wgt b:=by
 have:=Qn6 a (b-a)
 rw [show a+(b-a)=b by exact om75 ‹_›] at this;exact om76 ‹_›
theorem Qt3 {k:Nat}(h:1<=k)(h6:k<=6):(k-1)+(wgt (k-1)+wgt (k-1))<=wgt k :=
 (by decide:∀k:_root_.Fin 7,1<=k.1->(k.1-1)+(wgt (k.1-1)+wgt (k.1-1))<=wgt k.1) ⟨k,Nat.lt_succ_of_le h6⟩ h
noncomputable def wsum (W:List (List Int)):Nat:=(W.map λT=>wgt T.length).sum
theorem Qcn (T:List Int)(W:List (List Int)):wsum (T::W)=wgt T.length+wsum W:=rfl
theorem Qkq (W V:List (List Int)):wsum (W++V)=wsum W+wsum V:=by simp [wsum]
theorem Qn0 {W V:List (List Int)}(h:W.Perm V):wsum W=wsum V:=(h.map _).sum_nat
theorem Qjk:∀(W:List (List Int)),wsum W<=wgt W.flatten.length
 | []=>Qwb _
 | T::W=>by
   rw [Qcn,Qwz,Qey]
   have:=Qjk W
   have:=Qn6 T.length W.flatten.length
   exact om78 ‹_› ‹_›
noncomputable def msum (W:List (List Int)):Nat:=(W.map λT=>3 ^ T.length).sum
theorem Qe3 (T:List Int)(W:List (List Int)):msum (T::W)=3 ^ T.length+msum W:=rfl
theorem Qek (W V:List (List Int)):msum (W++V)=msum W+msum V:=by simp [msum]
theorem Qil (k:Nat):1<=3 ^ k:=Qyx (by simp)
theorem Qr6 {a b:Nat}(ha:1<=a)(hb:1<=b):3 ^ a+3 ^ b<=3 ^ (a+b):=by
 rw [Nat.pow_add]
 have h1:3<=3 ^ a:=by
   have:=Qyn (n:=3) (by decide) ha
   simpa using this
 have h2:3<=3 ^ b:=by
   have:=Qyn (n:=3) (by decide) hb
   simpa using this
 generalize 3 ^ a=x at *
 generalize 3 ^ b=y at *
 have h3:x*3<=x*y:=Qyr x h2
 have h4:3*y<=x*y:=Nat.mul_le_mul_right y h1
 omega
theorem Qju:∀(W:List (List Int)),W≠[]->(∀T∈W,1<=T.length)->msum W<=3 ^ W.flatten.length
 | [],h,_=>absurd rfl h
 | [T],_,_=>by simp [msum]
 | T::T'::W,_,h=>by
   rw [Qe3,Qwz,Qey]
   have h1:=Qju (T'::W) (by simp) λS hS=>h S (Qdx _ hS)
   have h2:1<=(T'::W).flatten.length:=by rw [Qwz,Qey];have:=h T' (by simp);exact om52 ‹_›
   have:=Qr6 (h T (by simp)) h2
   exact om78 ‹_› ‹_›
theorem Qm5 {W:List (List Int)}{n:Nat}(h:∀T∈W,1<=T.length)(hl:W.flatten.length<=n):msum W<=3 ^ n:=by
 by_cases e:W=[]
 . subst e;exact Qwv _
 . exact Qdg (Qju W e h) (Qyn (by decide) hl)
theorem Qr5 {k:Nat}(h:1<=k):3 ^ (k-1)+3 ^ (k-1)<3 ^ k:=by
 obtain ⟨j,rfl⟩:∃j,k=j+1:=⟨k-1,by exact om80 ‹_›⟩
 rw [Qyw,Nat.pow_succ]
 have:=Qil j
 omega
end
section
open PySem
abbrev rowG (rs:List Rw):Int->Int->Prop:=edge (gsOf rs)
noncomputable def Six (rs:List Rw):Prop:=∀(L:List Int) (y:Int),L.Nodup->Xr (rowG rs) y->(∀x∈L,Rch (rowG rs) (λu_=>True) x y/\Rch (rowG rs) (λu_=>True) y x)->L.length<=6
structure PS (rs:List Rw)(gs₀:Gs)(os₀:List Int)(gs:Gs)(os:List Int)(W:List (List Int)):Prop where
 rng:InRng gs
 len:os.length=gs.length
 row:∀(u:Nat) (l:List (Option Int)),gs[u]? = some l->(gsOf rs)[(osF os u).toNat]? = some (l.map (Option.map (osF os)))
 orng:∀o∈os,0<=o
 zero:osF os 0=0
 uniq:∀u v:Int,(0<=u/\u<gs.length)->(0<=v/\v<gs.length)->u≠v->osF os u=osF os v->Xr (rowG rs) (osF os u)
 pi:PI (edge gs) W
 inj:∀T∈W,∀a∈T,∀b∈T,osF os a=osF os b->a=b
 win:∀T∈W,∀x∈T,0<=x/\x<(gs.length:Int)
 size:gs.length+wsum W<=220
 same:(∃x,Xr (rowG rs) x)\/(os=os₀/\gs=gs₀)
theorem Qc0 {os:List Int}{u:Int}(h:u.toNat<os.length):os[u.toNat]? = some (osF os u):=by
 unfold osF;rw [Qhh,getElem?_pos os _ h];rfl
section
variable {rs:List Rw} {gs₀ gs:Gs} {os₀ os:List Int} {W:List (List Int)}
theorem PS.pos (p:PS rs gs₀ os₀ gs os W){u:Int}(h:0<=u/\u<gs.length):0<=osF os u :=
 p.orng _ (Qcs (Qc0 (by rw [p.len];exact om90 ‹_›)))
theorem PS.cov (p:PS rs gs₀ os₀ gs os W):Cov (rowG rs) (edge gs) (osF os) (λu=>0<=u/\u<gs.length) where
 fwd:=λu v e=>by
   have hs:=Qi0 e
   obtain ⟨h0,l,h1,h2⟩:=e
   have hr:=p.row u.toNat l h1
   rw [show ((u.toNat:Nat):Int)=u by exact om91 ‹_›] at hr
   exact ⟨p.pos hs,_,hr,Qc6.mpr ⟨some v,h2,rfl⟩⟩
 lift:=λu y hu e=>by
   have hi:u.toNat<gs.length:=by exact om90 ‹_›
   have hr:=p.row u.toNat _ (getElem?_pos gs _ hi)
   rw [show ((u.toNat:Nat):Int)=u by exact om91 hu] at hr
   obtain ⟨h0,l,h1,h2⟩:=e
   rw [hr] at h1
   cases h1
   obtain ⟨x,hx,e⟩:=Qc6.mp h2
   cases x with
   | none=>cases e
   | some v=>exact ⟨v,Option.some.inj e,hu.1,_,getElem?_pos gs _ hi,hx⟩
 zero:=p.zero
 node:=λu hu=>p.rng.live hu
theorem PS.perm (p:PS rs gs₀ os₀ gs os W){W':List (List Int)}(h:W.Perm W'):PS rs gs₀ os₀ gs os W' :=
 { p with
   pi:=p.pi.perm h
   inj:=λT hT=>p.inj T (h.mem_iff.mpr hT)
   win:=λT hT=>p.win T (h.mem_iff.mpr hT)
   size:=by rw [<-Qn0 h];exact p.size }
theorem Qsq {S:List Int}{RL:List (List Int)}(hn:RL.flatten.Nodup)(h:∀R∈RL,∀x∈R,x∈S):RL.flatten.length<=S.length :=
 Qbs _ _ hn λx hx=>let ⟨R,h1,h2⟩:=Qwi.mp hx;h R h1 x h2
theorem PS.rings {S S':List Int}{RL:List (List Int)}(p:PS rs gs₀ os₀ gs os (S::W))(hS:∀x,x∈S'↔x∈S/\Live (edge gs) x)(hR:Rings (edge gs) S' RL) :
   PS rs gs₀ os₀ gs os (RL++W)/\(∀R∈RL,Qex (edge gs) R/\2<=R.length/\R.Nodup)/\RL.flatten.length<=S.length:=by
 have hin:∀R∈RL,∀x∈R,x∈S:=λR hR1 x hx=>((hS x).mp ((hR.ring R hR1).1.sub hx)).1
 have hfl:=Qsq hR.nd hin
 refine ⟨{ p with
   pi:=p.pi.rings hS hR
   inj:=λT hT=>?_
   win:=λT hT=>?_
   size:=?_ },λR hR1=>⟨⟨λa ha b hb=>(hR.ring R hR1).1.inside ha hb,λx hx=>((hS x).mp ((hR.ring R hR1).1.sub hx)).2⟩,(hR.ring R hR1).2⟩,hfl⟩
 . rcases Qaz.mp hT with hT | hT
   . exact λa ha b hb=>p.inj S (by simp) a (hin T hT a ha) b (hin T hT b hb)
   . exact p.inj T (Qdx _ hT)
 . rcases Qaz.mp hT with hT | hT
   . exact λx hx=>p.win S (by simp) x (hin T hT x hx)
   . exact p.win T (Qdx _ hT)
 . have h1:=p.size
   rw [Qcn] at h1
   rw [Qkq]
   have:=Qjk RL
   have:=Ql4 hfl
   exact om92 ‹_› ‹_› ‹_›
theorem PS.single {R rest:List Int}{h:Int}(p:PS rs gs₀ os₀ gs os (R::W))(K:Qex (edge gs) R)(I:IsIns (edge gs) R [h])(hrest:∀x,x∈rest↔x∈R/\x≠h)(hn:rest.Nodup)(hl:rest.length<=R.length):PS rs gs₀ os₀ gs os (rest::W) :=
 { p with
   pi:=p.pi.single K I hrest hn
   inj:=λT hT=>by
     rcases Qch.mp hT with rfl | hT
     . exact λa ha b hb=>p.inj R (by simp) a ((hrest a).mp ha).1 b ((hrest b).mp hb).1
     . exact p.inj T (Qdx _ hT)
   win:=λT hT=>by
     rcases Qch.mp hT with rfl | hT
     . exact λx hx=>p.win R (by simp) x ((hrest x).mp hx).1
     . exact p.win T (Qdx _ hT)
   size:=by
     have h1:=p.size
     rw [Qcn] at h1 ⊢
     have:=Ql4 hl
     exact om93 ‹_› ‹_› }
end
end
section
open PySem
theorem Qui (os rest:List Int):(osC os rest).length=os.length+rest.length:=by simp [osC]
theorem Qgc {os rest:List Int}{N:Nat}(hN:os.length=N){u:Int}(h0:0<=u)(h1:u<(N+rest.length:Nat)):osF (osC os rest) u=osF os (frB rest N u):=by
 unfold frB
 by_cases hu:u<N
 . rw [if_neg (by exact om46 ‹_›)]
   unfold osF osC
   rw [Qhh,Qhn (by exact om96 ‹_› ‹_› ‹_›),<-Qhh]
 . rw [if_pos (by exact om98 ‹_› ‹_›)]
   have hl:u.toNat-N<rest.length:=by exact om99 ‹_› ‹_› ‹_› ‹_›
   show (osC os rest).getD u.toNat 0=osF os (rest.getD (u.toNat-N) 0)
   unfold osC
   rw [Qhh,Qlv (by exact om101 ‹_› ‹_› ‹_›),hN,Qaa,Qhh,getElem?_pos rest _ hl];rfl
theorem osC_fr {os rest:List Int}{N:Nat}(hN:os.length=N){y:Int}(h0:0<=y)(h1:y<(N:Int)):osF (osC os rest) (frI rest N y)=osF os y:=by
 have hb:0<=frI rest N y/\frI rest N y<(N+rest.length:Nat):=by
   unfold frI
   by_cases hy:y∈rest
   . rw [if_pos hy];have:=Qwc hy;exact om95 ‹_› ‹_›
   . rw [if_neg hy];exact om58 ‹_› ‹_›
 rw [Qgc hN hb.1 hb.2,Qha h1]
theorem Qim {os rest:List Int}{N:Nat}(hN:os.length=N){u:Int}(h0:0<=u)(h1:u<(N:Int)):osF (osC os rest) u=osF os u:=by
 rw [Qgc hN h0 (by exact om94 ‹_›),Qes h1]
theorem Qmx {u v:Int}{N:Nat}(h1:(N:Int)<=u)(h2:(N:Int)<=v)(e:u.toNat-N=v.toNat-N):u=v:=by
 obtain ⟨k,rfl⟩:=Int.le.dest h1
 obtain ⟨l,rfl⟩:=Int.le.dest h2
 have e:N+k-N=N+l-N:=e
 rw [Qxl,Qxl] at e
 rw [e]
theorem Qve {rest:List Int}{N:Nat}(hn:rest.Nodup){u v:Int}(hu:(N:Int)<=u/\u<(N+rest.length:Nat))(hv:(N:Int)<=v/\v<(N+rest.length:Nat))(e:frB rest N u=frB rest N v):u=v:=by
 unfold frB at e
 rw [if_pos hu,if_pos hv,Qhh,Qhh,getElem?_pos rest _ (by exact om97 ‹_› ‹_›),getElem?_pos rest _ (by exact om100 ‹_› ‹_›),Qxd,Qxd] at e
 exact Qmx hu.1 hv.1 ((Zaa hn).mp e)
section
variable {rs:List Rw} {gs₀ gs:Gs} {os₀ os:List Int} {W:List (List Int)}
theorem Split.ring {G G':Int->Int->Prop}{R rest K T:List Int}{h:Int}{p:Int->Int}(s:Split G G' R rest K h p)(hT:Qex G T)(hTR:∀x∈T,x∉R):Qex G' T:=by
 have out:∀x∈T,x∉rest:=λx hx hx'=>hTR x hx ((s.re x).mp hx').1
 refine ⟨λa ha b hb=>?_,λx hx=>?_⟩
 . have hpa:p a=a:=by
     refine s.old a λhaK=>s.fresh a haK (hT.live a ha)
   obtain ⟨v,hv,r⟩:=s.liftR (hT.con a ha b hb) hpa
   obtain rfl:=s.fib hv (out b hb)
   refine r.weak λz hz=>?_
   have:z=p z:=s.fib rfl (out _ hz)
   rw [this];exact hz
 . obtain ⟨v,hv,r⟩:=s.liftR (hT.live x hx) s.zero
   obtain rfl:=s.fib hv (out x hx)
   exact r.weak λu_ u_=>trivial
theorem PS.ringX {R ins:List Int}{a b:Int}(p:PS rs gs₀ os₀ gs os (R::W))(K:Qex (edge gs) R)(I:IsIns (edge gs) R ins)(ha:a∈ins)(hb:b∈ins)(hne:a≠b):∀r∈R,Xr (rowG rs) (osF os r):=by
 obtain ⟨A,r⟩:=p.pi.reg R (by simp)
 exact Quc p.cov K p.uniq ((I.mem a).mp ha).1 ((I.mem b).mp hb).1 hne (r.entry I ha) (r.entry I hb)
theorem PS.six {R ins:List Int}{a b:Int}(hS:Six rs)(p:PS rs gs₀ os₀ gs os (R::W))(K:Qex (edge gs) R)(hRn:R.Nodup)(I:IsIns (edge gs) R ins)(ha:a∈ins)(hb:b∈ins)(hne:a≠b):R.length<=6:=by
 have hX:=p.ringX K I ha hb hne
 have haR:=((I.mem a).mp ha).1
 have con:∀x∈R,∀y∈R,Rch (rowG rs) (λu_=>True) (osF os x) (osF os y):=λx hx y hy=>p.cov.proj (λu_ u_=>trivial) (K.con x hx y hy)
 have:=hS (R.map (osF os)) (osF os a) ?_ (hX a haR) λx hx=>?_
 . simpa using this
 . have hinj:=p.inj R (by simp)
   clear con hX
   induction R with
   | nil=>exact Qzp
   | cons r R ih=>exact List.Pairwise.map _ (λx y h=>h) (List.Pairwise.imp_of_mem (λ{x y} hx hy hxy e=>hxy (hinj x hx y hy e)) hRn)
 . obtain ⟨r,hr,rfl⟩:=Qc6.mp hx
   exact ⟨con r hr a haR,con a haR r hr⟩
theorem PS.split {R rest ins:List Int}{h b:Int}(hS:Six rs)(p:PS rs gs₀ os₀ gs os (R::W))(K:Qex (edge gs) R)(hRn:R.Nodup)(I:IsIns (edge gs) R ins)(hh:h∈ins)(hb:b∈ins)(hne:h≠b)(h0:0∈R->h=0)
   (hrest:∀x,x∈rest↔x∈R/\x≠h) (hn:rest.Nodup) (hl:rest.length+1=R.length) :
   PS rs gs₀ os₀ (Qfc gs R rest) (osC os rest) (Qcg rest gs.length::rest::W)/\(∀T∈W,Qex (edge gs) T->Qex (edge (Qfc gs R rest)) T):=by
 obtain ⟨d1,d2,hWR⟩:=p.pi.apart
 have hhR:=((I.mem h).mp hh).1
 have hRr:=p.win R (by simp)
 have hrr:∀o∈rest,0<=o/\o<(gs.length:Int):=λo ho=>hRr o ((hrest o).mp ho).1
 have s:=Qr1 p.rng hhR hRr hrest hn
 have hX:=p.ringX K I hh hb hne
 have h6:=p.six hS K hRn I hh hb hne
 have hWr:∀T∈W,∀x∈T,0<=x/\x<(gs.length:Int):=λT hT=>p.win T (Qdx _ hT)
 have hKn:(Qcg rest gs.length).Nodup:=by
   unfold Qcg
   rw [Qxy,Qz1]
   refine hn.imp_of_mem λ{x y} hx hy hxy e=>hxy ?_
   have:=congrArg (frB rest gs.length) e
   rwa [Qha (hrr x hx).2,Qha (hrr y hy).2] at this
 refine ⟨{
   rng:=p.rng.copy hrr
   len:=by rw [Qui,Qca,p.len]
   row:=λu l hu=>?_
   orng:=λo ho=>?_
   zero:=?_
   uniq:=λu v hu hv huv e=>?_
   pi:=p.pi.split K s I hh h0 hn hKn λT hT x hx hxK=>?_
   inj:=λT hT a ha b hb e=>?_
   win:=λT hT x hx=>?_
   size:=?_
   same:=.inl ⟨_,hX h hhR⟩ },λT hT hTR=>s.ring hTR λx hx=>hWR T hT x hx⟩
 . have key:∀l':List (Option Int),(∀y,some y∈l'->0<=y/\y<(gs.length:Int))->(l'.map (frO rest gs.length)).map (Option.map (osF (osC os rest)))=l'.map (Option.map (osF os)):=λl' hl'=>by
     rw [Qxw]
     refine Qx6 λx hx=>?_
     cases x with
     | none=>rfl
     | some y=>exact congrArg some (osC_fr p.len (hl' y hx).1 (hl' y hx).2)
   have hlt:=(Qck.mp hu).1
   rw [Qca] at hlt
   by_cases hul:u<gs.length
   . rw [Qfb (getElem?_pos gs u hul)] at hu
     rw [Qim p.len (by exact om53) (by exact Qu2 ‹_›),p.row u _ (getElem?_pos gs u hul)]
     have hrg:∀y,some y∈gs[u]->0<=y/\y<(gs.length:Int):=λy hy=>p.rng.rng u _ y (getElem?_pos gs u hul) hy
     by_cases huR:(u:Int)∈R
     . rw [if_pos huR] at hu
       cases hu
       congr 1
       refine Qx6 λx hx=>?_
       cases x with
       | none=>rfl
       | some y=>exact congrArg some (Qim p.len (hrg y hx).1 (hrg y hx).2).symm
     . rw [if_neg huR] at hu
       cases hu
       rw [key _ hrg]
   . have hi:u-gs.length<rest.length:=by exact om104 ‹_› ‹_› ‹_›
     have ho:=hrr _ (Qwp hi)
     have e:=Qf3 (gs:=gs) (R:=R) (getElem?_pos rest _ hi)
     rw [show gs.length+(u-gs.length)=u by exact om105 ‹_› ‹_›,hu] at e
     cases e
     have e2:osF (osC os rest) u=osF os rest[u-gs.length]:=by
       rw [Qgc p.len (by exact om106 ‹_›) (by exact om107 ‹_› ‹_› ‹_›)]
       unfold frB
       rw [if_pos (by exact om108 ‹_› ‹_› ‹_› ‹_›),Qej,Qhh,getElem?_pos rest _ hi];rfl
     have ho':(rest[u-gs.length]).toNat<gs.length:=by exact om109 ‹_› ‹_›
     have hr:=p.row _ _ (getElem?_pos gs _ ho')
     rw [show (((rest[u-gs.length]).toNat:Nat):Int)=rest[u-gs.length] by exact om110 ‹_› ‹_›] at hr
     rw [e2,Qhh,getElem?_pos gs _ ho',Qxd,key _ λy hy=>p.rng.rng _ _ y (getElem?_pos gs _ ho') hy]
     exact hr
 . rcases Qaz.mp ho with ho | ho
   . exact p.orng o ho
   . obtain ⟨x,hx,rfl⟩:=Qc6.mp ho
     exact p.pos (hrr x hx)
 . have:=p.rng.pos
   rw [Qim p.len (by exact om111) (by exact om112 ‹_›)];exact p.zero
 . rw [Qca] at hu hv
   rw [Qgc p.len hu.1 hu.2,Qgc p.len hv.1 hv.2] at e
   rw [Qgc p.len hu.1 hu.2]
   have rngB:∀u:Int,0<=u/\u<(gs.length+rest.length:Nat)->0<=frB rest gs.length u/\frB rest gs.length u<(gs.length:Int):=λu hu=>by
     by_cases h1:u<gs.length
     . rw [Qes h1];exact om113 ‹_› ‹_›
     . exact hrr _ (s.new u ((Qbd hn).mpr ⟨by exact om67 ‹_›,hu.2⟩))
   by_cases hq:frB rest gs.length u=frB rest gs.length v
   . have inRest:frB rest gs.length u∈rest:=by
       by_cases h1:u∈Qcg rest gs.length
       . exact s.new u h1
       . by_cases h2:v∈Qcg rest gs.length
         . rw [hq];exact s.new v h2
         . exact absurd ((s.old u h1).symm.trans (hq.trans (s.old v h2))) huv
     exact hX _ ((hrest _).mp inRest).1
   . exact p.uniq _ _ (rngB u hu) (rngB v hv) hq e
 . have h1:=(Qbd hn).mp hxK
   have h2:=hWr T hT x hx
   exact (om114 ‹_› ‹_›).elim
 . have low:∀x:Int,0<=x/\x<(gs.length:Int)->osF (osC os rest) x=osF os x:=λx hx=>Qim p.len hx.1 hx.2
   rcases Qch.mp hT with rfl | hT
   . have ha':=(Qbd hn).mp ha
     have hb':=(Qbd hn).mp hb
     rw [Qgc p.len (by exact om115 ‹_›) ha'.2,Qgc p.len (by exact om115 ‹_›) hb'.2] at e
     have:=p.inj R (by simp) _ ((hrest _).mp (s.new a ha)).1 _ ((hrest _).mp (s.new b hb)).1 e
     exact Qve hn ha' hb' this
   . rcases Qch.mp hT with rfl | hT
     . rw [low a (hrr a ha),low b (hrr b hb)] at e
       exact p.inj R (by simp) a ((hrest a).mp ha).1 b ((hrest b).mp hb).1 e
     . rw [low a (hWr T hT a ha),low b (hWr T hT b hb)] at e
       exact p.inj T (Qdx _ hT) a ha b hb e
 . rw [Qca]
   rcases Qch.mp hT with rfl | hT
   . have:=(Qbd hn).mp hx;exact om116 ‹_› ‹_› ‹_›
   . rcases Qch.mp hT with rfl | hT
     . have:=hrr x hx;exact om117 ‹_› ‹_› ‹_›
     . have:=hWr T hT x hx;exact om118 ‹_› ‹_› ‹_›
 . have h1:=p.size
   rw [Qcn] at h1
   rw [Qca,Qcn,Qcn,show (Qcg rest gs.length).length=rest.length by simp [Qcg]]
   have:=Qt3 (k:=R.length) (by exact om119 ‹_› ‹_›) h6
   rw [show R.length-1=rest.length by exact om120 ‹_› ‹_›] at this
   exact om121 ‹_› ‹_› ‹_›
end
end
section
open PySem
variable {hb:Heap} {w:World} {f:Addr} {n:Nat}
theorem Qna {gs:Gs}(hg:InRng gs){x:Int}:Rch (edge gs) (inD (tks (Qat gs.length))) 0 x↔Live (edge gs) x:=by
 refine ⟨λh=>h.weak λu_ u_=>trivial,λh=>?_⟩
 induction h with
 | refl=>exact .refl
 | step _ e _ ih=>exact .step ih e (inD_nums0.mpr (hg.eg e))
inductive Qei (args:List MV)(B:MH)(own:Own)(Q:MV->MH->Own->Prop):Prop
 | mk (h1_:own=[]) (g:Addr) (gs:Gs) (h2_:args=[.ref g]) (h3_:GoesAt B g gs) (h4_:InRng gs) (h5_:gs.length<=300) (h6_:∀(a:Addr) (ns:List Int) (B':MH),Sub0 B B'->B' a=some (.list (ns.map MV.int))->ns.Pairwise (·<=·)->ns.Nodup->ns.length<=gs.length->(∀x,x∈ns↔Live (edge gs) x)->Q (.ref a) B' []):Qei args B own Q
theorem Qlm (F:FnAt hb f Qf2)(hlim:hb.NoLimit)(h3:FnC P w hb "come_to" 1 Qdf)(gd:GlD hb)(glen:Gl hb "len" (.oth (.builtin "len")))(gr:Gl hb "range" (.oth (.type "range")))(gli:Gl hb "list" (.oth (.type "list")))(gso:Gl hb "sorted" (.oth (.builtin "sorted"))):Contract P w hb (.ref f) 2 Qei:=by
 refine Contract.of F hlim (by rintro args B own Q ⟨_,_,_,e,_⟩;subst e;rfl) ?_
 rintro C args B own Q F' ⟨rfl,g,gs,rfl,hg,hin,h20,hQ⟩
 show Sts C (Qan P Qf2) ⟨[(Qa "goes",_)],B,[]⟩ _
 have h01:=hin.pos
 obtain ⟨as,hb1,hal,ht⟩:=id hg
 have el:((as.map MV.ref).length:Int)=(gs.length:Nat):=by simp [hal]
 refine Qag ?_
 walk_at "m"
 refine Qct F' hlim gd rfl (by walk_at "m compok") (λu_=>rfl) (by decide) ?_
 walk_at "m"
 rw [el]
 refine Qar (Qwu _) (Qay h20) λra=>?_
 refine ⟨Qat gs.length,⟨ra,rfl,.inr (.inr ⟨_,.inl (.head _),by rw [Qej];exact (Qav _).symm⟩)⟩,Qa8 _,by rw [Qai];exact Qay h20,λB2 d hs2 hd hdm hdo=>?_⟩
 have hs3:Sub0 B (setB B2 d (.dict (tks (Qat gs.length)))):=hs2.trans (Sub0.set hd)
 have hd3:(setB B2 d (.dict (tks (Qat gs.length)))) d=some (.dict (tks (Qat gs.length))):=setB_self
 refine Qcx F' (.trans (.frz hdm) Cv.none) ?_
 revert hs3 hd3
 generalize setB B2 d (.dict (tks (Qat gs.length)))=B3
 intro hs3 hd3
 walk_at "m"
 refine ⟨rfl,g,d,0,gs,_,rfl,hg.mono hs3,hd3,k300 h20,Qw0 _,Qw9.mpr h01,λi hi=>inD_nums0.mp hi,λfound hnd hfo hrng e he=>?_⟩
 have hs5:Sub0 B3 (setB B3 e (.dict (tks found))):=Sub0.set he
 have he5:(setB B3 e (.dict (tks found))) e=some (.dict (tks found)):=setB_self
 revert hs5 he5
 generalize setB B3 e (.dict (tks found))=B5
 intro hs5 he5
 have hfl:found.length<=gs.length:=Qaf gs.length found hnd hrng
 walk_at "m"
 refine Qby F' (.inr he5) λl1 hl1=>?_
 rw [Qgp]
 walk_at "m"
 refine Qba F' (.inl (.head _)) λns l2 hp hso hl2=>?_
 refine ⟨_,.trans (.frz hl2.md) Cv.none,hQ l2 ns _ ((hs3.trans hs5).trans (Sub0.set hl2.B)) setB_self hso (hp.nodup_iff.mpr hnd) (by rw [hp.length_eq];exact hfl) λx=>?_⟩
 rw [hp.mem_iff,hfo x]
 exact Qna hin
end
section
open PySem
variable {hb:Heap} {w:World} {f:Addr} {n:Nat}
noncomputable def Qas (R:List Int)(h:Int):List Int:=R.filter (λx=>decide (x≠h))
noncomputable def frKV (N:Nat)(rest:List Int):KV:=rest.zipIdx.map λp=>(some p.1,.int ((N+p.2:Nat):Int))
theorem Qgm (N:Nat)(rest:List Int):(frKV N rest).length=rest.length:=by simp [frKV]
theorem Qo4 (N:Nat)(rest:List Int)(o:Int):frKV N (rest++[o])=frKV N rest++[(some o,.int ((N+rest.length:Nat):Int))]:=by simp [frKV,List.zipIdx_append]
theorem Qg9 (N:Nat)(rest:List Int):(frKV N rest).map (·.1)=rest.map some:=by
 unfold frKV
 rw [Qxw]
 have:((λx:Option Int×MV=>x.1) ∘ λp:Int×Nat=>(some p.1,MV.int ((N+p.2:Nat):Int)))=some ∘ Prod.fst:=rfl
 rw [this,<-Qxw,List.zipIdx_map_fst]
theorem Qsp {N:Nat}{rest:List Int}{i:Nat}{o:Int}(hn:rest.Nodup)(ho:rest[i]? = some o):some o∉(frKV N (rest.take i)).map (·.1):=by
 rw [Qg9]
 intro hm
 obtain ⟨y,hy,e⟩:=Qc6.mp hm
 cases e
 obtain ⟨j,hj,e⟩:=Qx2.mp hy
 obtain ⟨hi,e'⟩:=Qck.mp ho
 have:=(Zaa hn).mp (e.trans e'.symm)
 exact (om122 ‹_› ‹_› ‹_›).elim
theorem Qfg (N:Nat):∀(rest:List Int) (k:Nat) (o:Int),dget (rest.zipIdx k |>.map λp=>(some p.1,MV.int ((N+p.2:Nat):Int))) (some o)=if o∈rest then some (.int ((N+(k+rest.idxOf o):Nat):Int)) else none
 | [],k,o=>by simp [dget]
 | r::rest,k,o=>by
   rw [Qz7,Qwk]
   by_cases h:r=o
   . subst h;simp [dget]
   . have ih:=Qfg N rest (k+1) o
     have e:dget ((some r,MV.int ((N+k:Nat):Int))::(rest.zipIdx (k+1)).map λp=>(some p.1,MV.int ((N+p.2:Nat):Int))) (some o)=dget ((rest.zipIdx (k+1)).map λp=>(some p.1,MV.int ((N+p.2:Nat):Int))) (some o):=by simp [dget,h]
     rw [e,ih]
     by_cases h2:o∈rest
     . rw [if_pos h2,if_pos (Qdx _ h2),List.idxOf_cons,show (r == o)=false by simpa using h,cond_false,show k+1+rest.idxOf o=k+(rest.idxOf o+1) by exact om127]
     . rw [if_neg h2,if_neg (by simp [h2,Ne.symm h])]
theorem Qmf (N:Nat)(rest:List Int)(x:Option Int):(dget (frKV N rest) x).getD (Qau x)=Qau (frO rest N x):=by
 cases x with
 | none =>
   have:dget (frKV N rest) none=none:=by
     unfold frKV
     generalize rest.zipIdx=l
     induction l with
     | nil=>rfl
     | cons p l ih=>simpa [dget] using ih
   rw [this];rfl
 | some o =>
   have:=Qfg N rest 0 o
   unfold frKV
   rw [this]
   show _=Qau (some (frI rest N o))
   unfold frI
   by_cases h:o∈rest
   . rw [if_pos h,if_pos h];simp [Qau]
   . rw [if_neg h,if_neg h];rfl
noncomputable def ledI (gs:Gs)(R rest:List Int)(i:Nat):Gs:=gs.mapIdx λj l=>if j<i/\(j:Int)∉R then l.map (frO rest gs.length) else l
theorem Qow (gs:Gs)(R rest:List Int):ledI gs R rest 0=gs:=by
 apply Qxm
 intro k
 unfold ledI
 rw [Qwg]
 cases gs[k]? <;> simp
theorem Qsm (gs:Gs)(R rest:List Int):ledI gs R rest gs.length=led gs R rest:=by
 apply Qxm
 intro k
 unfold ledI led
 rw [Qwg,Qwg]
 by_cases hk:k<gs.length
 . rw [getElem?_pos gs k hk]
   by_cases hR:(k:Int)∈R <;> simp [hk,hR]
 . rw [getElem?_neg gs k hk];rfl
theorem Qu7 {gs:Gs}{R rest:List Int}{i:Nat}(h:(i:Int)∈R):ledI gs R rest (i+1)=ledI gs R rest i:=by
 apply Qxm
 intro k
 unfold ledI
 rw [Qwg,Qwg]
 cases gs[k]? with
 | none=>rfl
 | some l =>
   show some (if k<i+1/\(k:Int)∉R then _ else _)=some (if k<i/\(k:Int)∉R then _ else _)
   by_cases hk:k=i
   . subst hk;rw [if_neg (by simp [h]),if_neg (by simp [h])]
   . by_cases h1:k<i/\(k:Int)∉R
     . rw [if_pos h1,if_pos ⟨by omega,h1.2⟩]
     . rw [if_neg h1,if_neg λh2=>h1 ⟨by omega,h2.2⟩]
theorem Qsl {gs:Gs}{R rest:List Int}{i:Nat}{l:List (Option Int)}(h:(i:Int)∉R)(hl:gs[i]? = some l):ledI gs R rest (i+1)=(ledI gs R rest i).set i (l.map (frO rest gs.length)):=by
 apply Qxm
 intro k
 rw [Qz2]
 have hi:=(Qck.mp hl).1
 have hlen:(ledI gs R rest i).length=gs.length:=by simp [ledI]
 by_cases hk:i=k
 . subst hk
   rw [if_pos rfl,if_pos (by exact om123 ‹_› ‹_›)]
   unfold ledI
   rw [Qwg,hl]
   simp [h]
 . rw [if_neg hk]
   unfold ledI
   rw [Qwg,Qwg]
   cases gs[k]? with
   | none=>rfl
   | some l' =>
     show some (if k<i+1/\(k:Int)∉R then _ else _)=some (if k<i/\(k:Int)∉R then _ else _)
     by_cases h1:k<i/\(k:Int)∉R
     . rw [if_pos h1,if_pos ⟨by omega,h1.2⟩]
     . rw [if_neg h1,if_neg λh2=>h1 ⟨by omega,h2.2⟩]
theorem LsAt.set {B:MH}{as:List Addr}{gs:Gs}{c:Addr}{l:List (Option Int)}{k:Nat}(h:LsAt B as gs)(hc:B c=some (.list (l.map Qau))):LsAt B (as.set k c) (gs.set k l):=by
 refine ⟨by simp [h.1],λi d m h1 h2=>?_⟩
 rw [Qz2] at h1 h2
 by_cases hk:k=i
 . subst hk
   rw [if_pos rfl] at h1 h2
   split at h1
   . split at h2
     . cases h1;cases h2;exact hc
     . cases h2
   . cases h1
 . rw [if_neg hk] at h1 h2
   exact h.2 i d m h1 h2
end
section
open PySem
variable {hb:Heap} {w:World} {f:Addr} {n:Nat}
inductive Qjf (args:List MV)(B:MH)(own:Own)(Q:MV->MH->Own->Prop):Prop
 | mk (oa ga ra:Addr) (os:List Int) (gs:Gs) (as:List Addr) (R:List Int) (h:Int) (h1_:args=[.ref oa,.ref ga,.ref ra,.int h]) (h2_:own=[(oa,.list (os.map MV.int)),(ga,.list (as.map MV.ref))]) (h3_:LsAt B as gs) (h4_:B ra=some (.list (R.map MV.int))) (h5_:InRng gs) (h6_:(∀l∈gs,l.length<=2)) (h7_:gs.length<=300) (h8_:R.length<=300) (h9_:os.length=gs.length) (h10_:R.Nodup) (h11_:(∀x∈R,0<=x/\x<(gs.length:Int))) (h12_:∀(la:Addr) (B':MH) (as':List Addr),Sub0 B B'->LsAt B' as' (Qfc gs R (Qas R h))->B' la=some (.list ((Qcg (Qas R h) gs.length).map MV.int))->Q (.ref la) B' [(oa,.list ((osC os (Qas R h)).map MV.int)),(ga,.list (as'.map MV.ref))]):Qjf args B own Q
inductive Qqv (oa:Addr)(ga:Addr)(os:List Int)(gs:Gs)(rest:List Int)(fd:Addr)(B3:MH)(as3:List Addr)(j:Nat)(ys:List MV)(B':MH)(own':Own):Prop
 | mk (h1_:own'=[(fd,.dict (frKV gs.length rest)),(oa,.list ((os++rest.map (osF os)).map MV.int)),(ga,.list (as3.map MV.ref))]) (h2_:B'=B3) (h3_:ys=((rest.take j).map (frI rest gs.length)).map MV.int):Qqv oa ga os gs rest fd B3 as3 j ys B' own'
inductive Qqw (oa:Addr)(ga:Addr)(os:List Int)(gs:Gs)(rest:List Int)(fd:Addr)(i:Nat)(B3:MH)(as3:List Addr)(o:Int)(hoN:o.toNat<List.length gs)(j:Nat)(ys:List MV)(B':MH)(own':Own):Prop
 | mk (h1_:own'=[(fd,.dict (frKV gs.length rest)),(oa,.list ((os++(rest.take i).map (osF os)).map MV.int++[.int (osF os o)])),(ga,.list (as3.map MV.ref))]) (h2_:B'=B3) (h3_:ys=((gs[o.toNat].take j).map (frO rest gs.length)).map Qau):Qqw oa ga os gs rest fd i B3 as3 o hoN j ys B' own'
inductive Qqx (oa:Addr)(ga:Addr)(ra:Addr)(os:List Int)(gs:Gs)(R:List Int)(h:Int)(la:Addr)(rest:List Int)(B1:MH)(fd:Addr)(i:Nat)(σ':St):Prop
 | mk (B3:MH) (as3:List Addr) (h1_:σ'=⟨[(Qa "origins",.ref oa),(Qa "goes",.ref ga),(Qa "ring",.ref ra),(Qa "stays",.int h),(Qa "rest",.ref la),(Qa "fresh",.ref fd)],B3,[(fd,.dict (frKV gs.length rest)),(oa,.list ((os++(rest.take i).map (osF os)).map MV.int)),(ga,.list (as3.map MV.ref))]⟩) (h2_:Sub0 B1 B3) (h3_:LsAt B3 as3 (led gs R rest++(rest.take i).map λo=>(gs.getD o.toNat []).map (frO rest gs.length))):Qqx oa ga ra os gs R h la rest B1 fd i σ'
inductive Qqy (oa:Addr)(ga:Addr)(os:List Int)(gs:Gs)(rest:List Int)(fd:Addr)(rr:Addr)(i:Nat)(B2:MH)(as2:List Addr)(hi:i<List.length gs)(j:Nat)(ys:List MV)(B':MH)(own':Own):Prop
 | mk (h1_:own'=[(rr,.range gs.length),(fd,.dict (frKV gs.length rest)),(oa,.list (os.map MV.int)),(ga,.list (as2.map MV.ref))]) (h2_:B'=B2) (h3_:ys=((gs[i].take j).map (frO rest gs.length)).map Qau):Qqy oa ga os gs rest fd rr i B2 as2 hi j ys B' own'
inductive Qqz (oa:Addr)(ga:Addr)(ra:Addr)(os:List Int)(gs:Gs)(R:List Int)(h:Int)(la:Addr)(rest:List Int)(B1:MH)(fd:Addr)(rr:Addr)(i:Nat)(σ':St):Prop
 | mk (B2:MH) (as2:List Addr) (h1_:σ'=⟨[(Qa "origins",.ref oa),(Qa "goes",.ref ga),(Qa "ring",.ref ra),(Qa "stays",.int h),(Qa "rest",.ref la),(Qa "fresh",.ref fd)],B2,[(rr,.range gs.length),(fd,.dict (frKV gs.length rest)),(oa,.list (os.map MV.int)),(ga,.list (as2.map MV.ref))]⟩) (h2_:Sub0 B1 B2) (h3_:LsAt B2 as2 (ledI gs R rest i)):Qqz oa ga ra os gs R h la rest B1 fd rr i σ'
inductive Qq0 (B:MH)(oa:Addr)(ga:Addr)(os:List Int)(as:List Addr)(R:List Int)(h:Int)(j:Nat)(ys:List MV)(B':MH)(own':Own):Prop
 | mk (h1_:own'=[(oa,.list (os.map MV.int)),(ga,.list (as.map MV.ref))]) (h2_:B'=B) (h3_:ys=(Qas (R.take j) h).map MV.int):Qq0 B oa ga os as R h j ys B' own'
theorem Qpe (F:FnAt hb f Qiy)(hlim:hb.NoLimit)(glen:Gl hb "len" (.oth (.builtin "len")))(gr:Gl hb "range" (.oth (.type "range")))(ge:Gl hb "enumerate" (.oth (.type "enumerate"))):Contract P w hb (.ref f) (n+1) Qjf:=by
 refine Contract.of F hlim (by rintro args B own Q ⟨_,_,_,_,_,_,_,_,e,_⟩;subst e;rfl) ?_
 rintro C args B own Q F' ⟨oa,ga,ra,os,gs,as,R,h,rfl,rfl,hls,hra,hin,hl2s,hgl,hRl,hol,hRn,hRr,hQ⟩
 show Sts C (Qan P Qiy) ⟨[(Qa "origins",_),(Qa "goes",_),(Qa "ring",_),(Qa "stays",_)],B,_⟩ _
 refine Qag ?_
 refine Qef F' (by walk_at "m compok") (λu_=>rfl) (Qco F' rfl rfl (by decide)) ?_
 walk_at "m"
 refine ⟨R.map MV.int,(Qq0 B oa ga os as R h),⟨ra,rfl,.inl hra⟩,by rw [Qab];exact Qay hRl,⟨rfl,rfl,rfl⟩,?_,?_⟩
 . rintro C3 F3 j ys B' own' m ⟨rfl,rfl,rfl⟩ hm
   rw [Qaa] at hm
   obtain ⟨y,hy,rfl⟩:=Qad.mp hm
   have ht:=Qak hy
   refine Qdu ?_
   walk_at "m cex"
   walk_at "m"
   refine Qc1 (λhc=>?_) (λhc=>?_)
   . walk_at "m"
     refine Qap ?_
     refine Qbz ?_
     walk_at "m"
     refine ⟨_,.refl _,rfl,rfl,?_⟩
     rw [ht];simp [Qas,hc]
   . walk_at "m"
     refine ⟨_,.refl _,rfl,rfl,?_⟩
     rw [ht];simp [Qas,hc]
 rintro ys B' own' ⟨rfl,rfl,rfl⟩ C1 F1 la hla
 rw [Qab,Qhi]
 generalize hrest:Qas R h=rest at hQ ⊢
 refine Qa2 F1 [(la,_)] _ (by rintro p hp;rw [Qbq.mp hp];exact hla.md) λB1 s1 g1=>?_
 have q1:=g1 _ (.head _)
 dsimp only at q1
 have hrn:rest.Nodup:=hrest ▸ hRn.sublist Qxo
 have hrl:rest.length<=300:=Qdg (hrest ▸ Qyi _ _) hRl
 replace hls:=hls.mono s1
 replace hra:=s1 _ _ hra
 walk_at "m"
 refine Qcz F' hlim λfd hfd=>?_
 walk_at "m"
 refine Qpu F' ge (by rfl) (by rfl) (by rfl) (by intro _;rfl) ?_
 walk_at "m"
 refine ⟨la,rest.map MV.int,λi σ'=>σ'=⟨[(Qa "origins",.ref oa),(Qa "goes",.ref ga),(Qa "ring",.ref ra),(Qa "stays",.int h),(Qa "rest",.ref la),(Qa "fresh",.ref fd)],B1,[(fd,.dict (frKV gs.length (rest.take i))),(oa,.list (os.map MV.int)),(ga,.list (as.map MV.ref))]⟩,rfl,q1,⟨_,.refl _,rfl⟩,?_,?_⟩
 . rintro C2 F2 i σ' m rfl hm
   rw [Qaa] at hm
   obtain ⟨o,ho,rfl⟩:=Qad.mp hm
   have ht:=Qak ho
   walk_at "m"
   refine Qa7 F2 .head (by rw [Qgm];exact Qb9 (n:=300) (by rw [Qww];exact om128 ‹_›) (by decide)) ?_
   walk_at "m"
   refine ⟨⟨[(Qa "origins",.ref oa),(Qa "goes",.ref ga),(Qa "ring",.ref ra),(Qa "stays",.int h),(Qa "rest",.ref la),(Qa "fresh",.ref fd)],_,_⟩,Cv.pre [(Qa "k",_),(Qa "one",_)] rfl,?_⟩
   rw [ht,Qo4,show ((as.map MV.ref).length:Int)+(i:Nat)=((gs.length+(rest.take i).length:Nat):Int) by rw [Qab,hls.1,Qww,Qw1 (Qxb (Qck.mp ho).1)];exact om129]
   rw [Qi2 (Qsp hrn ho)]
 intro C2 F2 σ' e
 subst e
 rw [Qab,Qhi]
 walk_at "m"
 refine Qao F' (λu_=>rfl) ?_
 walk_at "m"
 refine Qar (by exact om53) (by rw [Qab,hls.1];exact Qay hgl) λrr=>?_
 have hla2:LsAt B1 as (ledI gs R rest 0):=by rw [Qow];exact hls
 refine ⟨_,(Qqz oa ga ra os gs R h la rest B1 fd rr),⟨rr,rfl,.inr (.inr ⟨_,.inl (.head _),(Qav _).symm⟩)⟩,⟨_,.refl _,B1,as,by rw [Qab,hls.1];rfl,Sub0.rfl' _,hla2⟩,?_,?_⟩
 . rintro C3 F3 i σ' m ⟨B2,as2,rfl,s2,hl2⟩ hm
   rw [Qaa] at hm
   obtain ⟨z,hz,rfl⟩:=Qad.mp hm
   obtain ⟨hi0,rfl⟩:=Qdb hz
   have hi:i<gs.length:=by rw [Qej,Qab,hls.1] at hi0;exact hi0
   walk_at "m"
   refine Qhr (.inr (s2 _ _ hra)) ?_
   walk_at "m"
   have hlen2:as2.length=gs.length:=by rw [hl2.1];simp [ledI]
   refine Qc1 (λhc=>?_) (λhc=>?_)
   . obtain ⟨c,hcc⟩:∃c,as2[i]? = some c:=⟨as2[i]'(by exact om130 ‹_› ‹_› ‹_›),getElem?_pos as2 i (by exact om130 ‹_› ‹_› ‹_›)⟩
     have hgi:(ledI gs R rest i)[i]? = some gs[i]:=by
       unfold ledI;rw [Qwg,getElem?_pos gs i hi];simp
     have hcB:=hl2.2 i c _ hcc hgi
     walk_at "m"
     refine Qa9 F3 (by walk_at "m compok") (λu_=>rfl) ?_
     walk_at "m"
     refine Qae (.inl (.tail _ (.tail _ (.tail _ (.head _))))) (by exact om53) (m:=.ref c) (by rw [Qej,Qaa,hcc];rfl) ?_
     refine ⟨gs[i].map Qau,(Qqy oa ga os gs rest fd rr i B2 as2 hi),⟨c,rfl,.inl hcB⟩,by rw [Qab];exact Qdg (hl2s _ (Qwp hi)) (by unfold lim;decide),⟨rfl,rfl,rfl⟩,?_,?_⟩
     . rintro C4 F4 j ys B' own' m ⟨rfl,rfl,rfl⟩ hm
       rw [Qaa] at hm
       obtain ⟨y,hy,rfl⟩:=Qad.mp hm
       have ht:gs[i].take (j+1)=gs[i].take j++[y]:=by rw [Qwy,hy];rfl
       refine Qap ?_
       try dsimp only
       refine Qbz ?_
       walk_at "m cex"
       refine Qmr F4 (by rfl) (by rfl) (by rfl) ?_
       walk_at "m"
       refine ⟨fd,_,rfl,.inl (.tail _ (.head _)),?_⟩
       walk_at "m"
       refine ⟨y,_,rfl,.inl (.tail _ (.head _)),?_⟩
       refine ⟨_,.refl _,rfl,rfl,?_⟩
       rw [ht,Qd1,Qd1,Qmf];rfl
     . rintro ys B' own' ⟨rfl,rfl,rfl⟩ a ha
       rw [Qab,Qhi]
       walk_at "m"
       refine Qkf F3 (.tail (.tail (.tail (.tail .head)))) (by exact om53) (by rw [Qab];exact om131 ‹_› ‹_› ‹_›) ?_
       walk_at "m"
       have sa:Sub0 B' (setB B' a (.list ((gs[i].map (frO rest gs.length)).map Qau))):=Sub0.set ha.B
       have e1:(as2.map MV.ref).set ((i:Int).toNat) (.ref a)=(as2.set i a).map MV.ref:=by rw [Qej,List.map_set]
       rw [e1]
       refine ⟨⟨[(Qa "origins",.ref oa),(Qa "goes",.ref ga),(Qa "ring",.ref ra),(Qa "stays",.int h),(Qa "rest",.ref la),(Qa "fresh",.ref fd)],_,_⟩,.trans (.frz ha.md) (Cv.pre [(Qa "one",_)] rfl),_,as2.set i a,rfl,s2.trans sa,?_⟩
       rw [Qsl hc (getElem?_pos gs i hi)]
       exact (hl2.mono sa).set setB_self
   . walk_at "m"
     rw [<-Qu7 (rest:=rest) (gs:=gs) hc] at hl2
     exact ⟨⟨[(Qa "origins",.ref oa),(Qa "goes",.ref ga),(Qa "ring",.ref ra),(Qa "stays",.int h),(Qa "rest",.ref la),(Qa "fresh",.ref fd)],_,_⟩,Cv.pre [(Qa "one",_)] rfl,B2,as2,rfl,s2,hl2⟩
 rintro C3 F3 σ' ⟨B2,as2,rfl,s2,hl2⟩
 rw [Qej] at hl2
 rw [Qab,Qai,Qab,hls.1,Qsm] at hl2
 have hrr:∀o∈rest,o∈R/\0<=o/\o<(gs.length:Int):=λo ho=>by
   have:o∈R:=by rw [<-hrest] at ho;exact (Qx8.mp ho).1
   exact ⟨this,hRr o this⟩
 walk_at "m"
 refine Qao F' (λu_=>rfl) ?_
 walk_at "m"
 refine ⟨rest.map MV.int,(Qqx oa ga ra os gs R h la rest B1 fd),⟨la,rfl,.inl (s2 _ _ q1)⟩,⟨_,.own (Qxe ..),B2,as2,by simp,s2,by simpa using hl2⟩,?_,?_⟩
 . rintro C4 F4 i σ' m ⟨B3,as3,rfl,s3,hl3⟩ hm
   rw [Qaa] at hm
   obtain ⟨o,ho,rfl⟩:=Qad.mp hm
   obtain ⟨hoR,ho0,ho1⟩:=hrr o (Qcs ho)
   have ht:=Qak ho
   have hti:(rest.take i).length<=300:=by rw [Qww];exact om128 ‹_›
   walk_at "m"
   have hoN:o.toNat<gs.length:=by exact om132 ‹_› ‹_› ‹_›
   have eo:((os++(rest.take i).map (osF os)).map MV.int)[o.toNat]? = some (.int (osF os o)):=by
     rw [Qaa,Qhn (by exact om133 ‹_› ‹_›),Qc0 (by exact om133 ‹_› ‹_›)];rfl
   refine Qae (.inl (.tail _ (.head _))) ho0 (m:=.int (osF os o)) eo ?_
   refine Qid (.tail .head) (by simp only [Qab,Qey];exact Qb9 (n:=600) (by omega) (by decide)) ?_
   walk_at "m"
   have hgo:(led gs R rest++(rest.take i).map λo=>(gs.getD o.toNat []).map (frO rest gs.length))[o.toNat]? = some gs[o.toNat]:=by
     rw [Qhn (by rw [Qfv];exact hoN),led,Qwg,getElem?_pos gs _ hoN,show ((o.toNat:Nat):Int)=o by exact om54 ‹_›]
     simp [hoR]
   have hl3':as3.length=gs.length+(rest.take i).length:=by rw [hl3.1];simp [Qfv]
   obtain ⟨c,hcc⟩:∃c,as3[o.toNat]? = some c:=⟨as3[o.toNat]'(by omega),getElem?_pos as3 _ (by omega)⟩
   have hcB:=hl3.2 _ c _ hcc hgo
   refine Qa9 F4 (by walk_at "m compok") (λu_=>rfl) ?_
   walk_at "m"
   refine Qae (.inl (.tail _ (.tail _ (.head _)))) ho0 (m:=.ref c) (by rw [Qaa,hcc];rfl) ?_
   refine ⟨gs[o.toNat].map Qau,(Qqw oa ga os gs rest fd i B3 as3 o hoN),⟨c,rfl,.inl hcB⟩,by rw [Qab];exact Qdg (hl2s _ (Qwp hoN)) (by unfold lim;decide),⟨rfl,rfl,rfl⟩,?_,?_⟩
   . rintro C5 F5 j ys B' own' m ⟨rfl,rfl,rfl⟩ hm
     rw [Qaa] at hm
     obtain ⟨y,hy,rfl⟩:=Qad.mp hm
     have ht:gs[o.toNat].take (j+1)=gs[o.toNat].take j++[y]:=by rw [Qwy,hy];rfl
     refine Qap ?_
     try dsimp only
     refine Qbz ?_
     walk_at "m cex"
     refine Qmr F5 (by rfl) (by rfl) (by rfl) ?_
     walk_at "m"
     refine ⟨fd,_,rfl,.inl (.head _),?_⟩
     walk_at "m"
     refine ⟨y,_,rfl,.inl (.head _),?_⟩
     refine ⟨_,.refl _,rfl,rfl,?_⟩
     rw [ht,Qd1,Qd1,Qmf];rfl
   . rintro ys B' own' ⟨rfl,rfl,rfl⟩ a ha
     rw [Qab,Qhi]
     refine Qid (.tail (.tail (.tail .head))) (by rw [Qab];exact Qb9 (n:=600) (by omega) (by decide)) ?_
     walk_at "m"
     have sa:Sub0 B' (setB B' a (.list ((gs[o.toNat].map (frO rest gs.length)).map Qau))):=Sub0.set ha.B
     refine ⟨⟨[(Qa "origins",.ref oa),(Qa "goes",.ref ga),(Qa "ring",.ref ra),(Qa "stays",.int h),(Qa "rest",.ref la),(Qa "fresh",.ref fd)],_,_⟩,.trans (.frz ha.md) (Cv.pre [(Qa "one",_)] rfl),_,as3++[a],?_,s3.trans sa,?_⟩
     . rw [ht];simp
     . have hs:=(hl3.mono sa).snoc (l:=gs[o.toNat].map (frO rest gs.length)) setB_self
       rw [ht,Qd1,<-Qwr]
       have e2:gs.getD o.toNat []=gs[o.toNat]:=by rw [Qhh,getElem?_pos gs _ hoN];rfl
       simp only [Qwk,List.map_nil,e2]
       exact hs
 rintro C4 F4 σ' ⟨B3,as3,rfl,s3,hl3⟩
 rw [Qab,Qhi] at hl3 ⊢
 walk_at "m"
 refine Qa9 F' (by walk_at "m compok") (λu_=>rfl) ?_
 walk_at "m"
 refine ⟨rest.map MV.int,(Qqv oa ga os gs rest fd B3 as3),⟨la,rfl,.inl (s3 _ _ q1)⟩,by rw [Qab];exact Qay hrl,⟨rfl,rfl,rfl⟩,?_,?_⟩
 . rintro C5 F5 j ys B' own' m ⟨rfl,rfl,rfl⟩ hm
   rw [Qaa] at hm
   obtain ⟨o,ho,rfl⟩:=Qad.mp hm
   have ht:=Qak ho
   have hom:=Qcs ho
   refine Qap ?_
   try dsimp only
   refine Qbz ?_
   walk_at "m cex"
   walk_at "m"
   refine Qb5 (.inl (.head _)) (m:=.int (frI rest gs.length o)) (by have:=Qfg gs.length rest 0 o;rw [if_pos hom,Qxu] at this;unfold frI;rw [if_pos hom];exact this) ?_
   refine ⟨_,.refl _,rfl,rfl,?_⟩
   rw [ht];simp
 . rintro ys B' own' ⟨rfl,rfl,rfl⟩ a ha
   rw [Qab,Qhi]
   have sa:=Sub0.set (o:=.list ((rest.map (frI rest gs.length)).map MV.int)) ha.B
   have hfq:=hQ a _ as3 ((s1.trans s3).trans sa) (hl3.mono sa) setB_self
   refine ⟨_,.trans (.frz ha.md) (.own (Qxe ..)),?_⟩
   exact hfq
end
section
open PySem
variable {hb:Heap} {w:World} {f:Addr} {n:Nat}
theorem PS.two {rs:List Rw}{gs₀ gs:Gs}{os₀ os:List Int}{W:List (List Int)}(p:PS rs gs₀ os₀ gs os W):∀l∈gs,l.length<=2:=λl hl=>by
 refine smG λH_ k_=>?_
 obtain ⟨i,hi,rfl⟩:=List.mem_iff_getElem.mp hl
 refine k_ ?_
 clear k_ H_
 have hr:=p.row i _ (getElem?_pos gs i hi)
 unfold gsOf at hr
 rw [Qaa] at hr
 refine smG λH_ k_=>?_
 obtain ⟨r,u_,e⟩:=Qad.mp hr
 refine k_ ?_
 clear k_ H_
 have:=congrArg List.length e
 simp only [Qab] at this
 rw [<-this];exact Qh4 r
theorem Qfa {B:MH}{ga:Addr}{as:List Addr}{gs:Gs}(hn:B ga=none)(h:LsAt B as gs):GoesAt (setB B ga (.list (as.map MV.ref))) ga gs :=
 ⟨as,setB_self,h.1,λi c l h1 h2=>by
   have hc:=h.2 i c l h1 h2
   rw [Qbp λe=>by subst e;rw [hn] at hc;cases hc];exact hc⟩
theorem Qou {B:MH}{ga la:Addr}{as:List Addr}{ns:List Int}(h1:B ga=some (.list (as.map MV.ref)))(h2:B la=some (.list (ns.map MV.int)))(h3:1<=as.length):la≠ga:=λe=>by
 subst e
 rw [h1] at h2
 injection h2 with h2
 injection h2 with h2
 cases as with
 | nil=>simp at h3
 | cons a as=>cases ns with
   | nil=>simp at h2
   | cons n ns=>simp at h2
theorem Qg2 {B B2:MH}{ga la:Addr}{as:List Addr}{ns:List Int}(hn:B ga=none)(s:Sub0 (setB B ga (.list (as.map MV.ref))) B2)(h2:B2 la=some (.list (ns.map MV.int)))(h3:1<=as.length):Sub0 B (unB B2 ga)/\unB B2 ga la=some (.list (ns.map MV.int)) :=
 ⟨Sub0.unB ((Sub0.set hn).trans s) hn,by rw [Qgb (Qou (s _ _ setB_self) h2 h3)];exact h2⟩
theorem Qt5 {B:MH}{ga:Addr}{as1:List Addr}(h1:B ga=some (.list (as1.map MV.ref)))(h3:1<=as1.length){as:List Addr}{ls:List (List Int)}(g:LsI B as ls):LsI (unB B ga) as ls:=by
 induction g with
 | nil=>exact .nil
 | cons h _ ih=>exact .cons (by rw [Qgb (Qou h1 h h3)];exact h) ih
theorem Qlg {L:List Int}(hs:L.Pairwise (·<=·))(h0:0∈L)(hp:∀x∈L,0<=x):L[0]? = some 0:=by
 match L,hs,h0 with
 | a::L,hs,h0 =>
   have ha:=hp a (by simp)
   rcases Qch.mp h0 with rfl | h
   . rfl
   . have:=(Qyy.mp hs).1 0 h
     have:a=0:=by exact om137 ‹_› ‹_›
     subst this;rfl
theorem Qm8 (R:List Int)(h:Int):∀x,x∈Qas R h↔x∈R/\x≠h:=λx=>by unfold Qas;rw [Qx8,decide_eq_true_iff]
theorem Qh2:∀{R:List Int} {h:Int},R.Nodup->h∈R->(Qas R h).length+1=R.length
 | a::R,h,hn,hm=>by
   have hn':=Qnn.mp hn
   unfold Qas
   by_cases e:a=h
   . subst e
     have hf:R.filter (λx=>decide (x≠a))=R:=List.filter_eq_self.mpr λx hx=>decide_eq_true λ(e:x=a)=>hn'.1 (e ▸ hx)
     rw [List.filter_cons_of_neg (by simp),hf];rfl
   . rw [List.filter_cons_of_pos (by simpa using e),Qwo,Qwo]
     have:=Qh2 hn'.2 ((Qch.mp hm).resolve_left λe'=>e e'.symm)
     unfold Qas at this;exact om139 ‹_›
theorem Qmd:∀(RL:List (List Int)),(∀R∈RL,1<=R.length)->RL.length<=RL.flatten.length
 | [],_=>Qwb _
 | R::RL,h=>by
   have:=Qmd RL λS hS=>h S (Qdx _ hS)
   have:=h R (by simp)
   rw [Qwz,Qey,Qwo];exact om138 ‹_› ‹_›
theorem PS.count {rs:List Rw}{gs₀ gs:Gs}{os₀ os:List Int}{V W:List (List Int)}(p:PS rs gs₀ os₀ gs os (V++W))(h:∀T∈W,1<=T.length):W.length<=220:=by
 have hd:=p.pi.disj
 rw [Qw7] at hd
 have h1:=Qaf gs.length W.flatten (Qdi.mp hd).2.1 λx hx=>by
   refine smG λH_ k_=>?_
   obtain ⟨T,hT,hx⟩:=Qwi.mp hx
   refine k_ ?_
   clear k_ H_
   exact p.win T (Qbv _ hT) x hx
 have h2:=Qmd W h
 have:=p.size
 omega
theorem Ql5:∀(RL:List (List Int)),(∀R∈RL,2<=R.length)->2*RL.length<=RL.flatten.length
 | [],_=>Qwb _
 | R::RL,h=>by
   have:=Ql5 RL λS hS=>h S (Qdx _ hS)
   have:=h R (by simp)
   rw [Qwz,Qey,Qwo];exact om141 ‹_› ‹_›
theorem Qlp {C:Cx}{y:Str}{m:MV}{σ:St}{Q:St->Prop}(h:(∀a∈σ.own.map (·.1),σ.B a=none)->(σ.own.map (·.1)).Nodup->Qb6 C y m σ Q):Qb6 C y m σ Q:=λv hv=>Tr.facts λh1 h2=>h h1 h2 v hv
inductive Qpw (args:List MV)(B:MH)(own:Own)(Q:MV->MH->Own->Prop):Prop
 | mk (oa ga:Addr) (rs:List Rw) (os:List Int) (gs:Gs) (as:List Addr) (h1_:args=[.ref oa,.ref ga]) (h2_:own=[(oa,.list (os.map MV.int)),(ga,.list (as.map MV.ref))]) (h3_:LsAt B as gs) (h4_:Six rs) (h5_:PS rs gs os gs os [Qat gs.length]) (h6_:∀(B':MH) (as':List Addr) (gs':Gs) (os':List Int),Sub0 B B'->LsAt B' as' gs'->PS rs gs os gs' os' []->Q .none B' [(oa,.list (os'.map MV.int)),(ga,.list (as'.map MV.ref))]):Qpw args B own Q
inductive Qqq (oa:Addr)(ga:Addr)(wa:Addr)(R:List Int)(h:Int)(B12:MH)(was3:List Addr)(as3:List Addr)(os3:List Int)(j:Nat)(ys:List MV)(B':MH)(own':Own):Prop
 | mk (h1_:own'=[(ga,.list (as3.map MV.ref)),(wa,.list (was3.map MV.ref)),(oa,.list (os3.map MV.int))]) (h2_:B'=B12) (h3_:ys=(Qas (R.take j) h).map MV.int):Qqq oa ga wa R h B12 was3 as3 os3 j ys B' own'
inductive Qqr (oa:Addr)(ga:Addr)(rs:List Rw)(os:List Int)(gs:Gs)(wa:Addr)(WL':List (List Int))(la:Addr)(sa:Addr)(RL:List (List Int))(i:Nat)(ra:Addr)(R:List Int)(ia:Addr)(B11:MH)(h:Int)(σ':St):Prop
 | mk (B12:MH) (own3:Own) (was3 as3:List Addr) (WL3:List (List Int)) (gs3:Gs) (os3:List Int) (h1_:σ'=⟨[(Qa "origins",.ref oa),(Qa "goes",.ref ga),(Qa "regions",.ref wa),(Qa "live",.ref la),(Qa "some",.ref sa),(Qa "ring",.ref ra),(Qa "ins",.ref ia)],B12,own3⟩) (h2_:own3.Perm [(ga,.list (as3.map MV.ref)),(wa,.list (was3.map MV.ref)),(oa,.list (os3.map MV.int))]) (h3_:Sub0 B11 B12) (h4_:LsI B12 was3 WL3) (h5_:LsAt B12 as3 gs3) (h6_:PS rs gs os gs3 os3 (Qas R h::(RL.drop (i+1)++WL3))) (h7_:(∀R'∈RL.drop (i+1),Qex (edge gs3) R')) (h8_:msum (RL.drop (i+1))+3 ^ (Qas R h).length+msum WL3+(i+1)<=msum RL+msum WL') (h9_:∀T∈WL3,1<=T.length):Qqr oa ga rs os gs wa WL' la sa RL i ra R ia B11 h σ'
inductive Qqs (oa:Addr)(ga:Addr)(rs:List Rw)(os:List Int)(gs:Gs)(wa:Addr)(WL':List (List Int))(la:Addr)(sa:Addr)(RL:List (List Int))(B6:MH)(i:Nat)(σ':St):Prop
 | mk (B7:MH) (was2 as2:List Addr) (WL2:List (List Int)) (gs2:Gs) (os2:List Int) (h1_:σ'=⟨[(Qa "origins",.ref oa),(Qa "goes",.ref ga),(Qa "regions",.ref wa),(Qa "live",.ref la),(Qa "some",.ref sa)],B7,[(ga,.list (as2.map MV.ref)),(wa,.list (was2.map MV.ref)),(oa,.list (os2.map MV.int))]⟩) (h2_:Sub0 B6 B7) (h3_:LsI B7 was2 WL2) (h4_:LsAt B7 as2 gs2) (h5_:PS rs gs os gs2 os2 (RL.drop i++WL2)) (h6_:(∀R∈RL.drop i,Qex (edge gs2) R)) (h7_:msum (RL.drop i)+msum WL2+i<=msum RL+msum WL') (h8_:∀T∈WL2,1<=T.length):Qqs oa ga rs os gs wa WL' la sa RL B6 i σ'
inductive Qqt (oa:Addr)(ga:Addr)(wa:Addr)(as1:List Addr)(os1:List Int)(was':List Addr)(T:List Int)(ns:List Int)(B3:MH)(j:Nat)(ys:List MV)(B':MH)(own':Own):Prop
 | mk (h1_:own'=[(ga,.list (as1.map MV.ref)),(wa,.list (was'.map MV.ref)),(oa,.list (os1.map MV.int))]) (h2_:B'=B3) (h3_:ys=((T.take j).filter (λx=>decide (x∈ns))).map MV.int):Qqt oa ga wa as1 os1 was' T ns B3 j ys B' own'
inductive Qqu (B:MH)(oa:Addr)(ga:Addr)(rs:List Rw)(os:List Int)(gs:Gs)(wa:Addr)(k:Nat)(σ':St):Prop
 | mk (B1:MH) (was as1:List Addr) (WL:List (List Int)) (gs1:Gs) (os1:List Int) (h1_:σ'=⟨[(Qa "origins",.ref oa),(Qa "goes",.ref ga),(Qa "regions",.ref wa)],B1,[(wa,.list (was.map MV.ref)),(oa,.list (os1.map MV.int)),(ga,.list (as1.map MV.ref))]⟩) (h2_:k=msum WL) (h3_:Sub0 B B1) (h4_:LsI B1 was WL) (h5_:LsAt B1 as1 gs1) (h6_:PS rs gs os gs1 os1 WL) (h7_:∀T∈WL,1<=T.length):Qqu B oa ga rs os gs wa k σ'
theorem Qvj (F:FnAt hb f Qoz)(hlim:hb.NoLimit)(h1:FnO P w hb "all_live" 2 (Qov Qei))(h2:FnO P w hb "rings_of" 2 (Qov Qde))(h3:FnO P w hb "entries" 1 (Qov Qfk))(h4:FnO P w hb "copied" 1 Qjf)
   (glen:Gl hb "len" (.oth (.builtin "len"))) (gr:Gl hb "range" (.oth (.type "range"))) (gli:Gl hb "list" (.oth (.type "list"))):Contract P w hb (.ref f) 3 Qpw:=by
 refine Contract.of F hlim (by rintro args B own Q ⟨_,_,_,_,_,_,e,_⟩;subst e;rfl) ?_
 intro C args B own Q F' hJ_
 refine smG λH_ k_=>?_
 obtain ⟨oa,ga,rs,os,gs,as,rfl,rfl,hls,h6,hps,hQ⟩:=hJ_
 refine k_ ?_
 clear k_ H_
 show Sts C (Qan P Qoz) ⟨[(Qa "origins",_),(Qa "goes",_)],B,_⟩ _
 refine Qag ?_
 walk_at "m"
 have hN:gs.length<=220:=by have:=hps.size;exact Qsh ‹_›
 refine Qar (by exact om53) (by rw [Qab,hls.1];exact Qay (by exact om143 ‹_›)) λrr=>?_
 rw [Qej,Qab,hls.1]
 walk_at "m"
 refine Qh0 F' (.inl (.head _)) λr0 hr0=>?_
 walk_at "m"
 intro wa hwa
 have e0:r0≠wa:=λe=>hwa.own (by simp [e])
 refine Qcx F' (.trans (.perm (List.Perm.swap ..)) (.trans (.frz hr0.md) (.own (.cons_cons _ (Qxe ..))))) ?_
 have s1:Sub0 B (setB B r0 (.list ((Qat gs.length).map MV.int))):=Sub0.set hr0.B
 have q1:setB B r0 (.list ((Qat gs.length).map MV.int)) r0=some (.list ((Qat gs.length).map MV.int)):=setB_self
 revert s1 q1
 generalize setB B r0 (.list ((Qat gs.length).map MV.int))=B1
 intro s1 q1
 walk_at "m"
 refine Qdd F' ((Qqu B oa ga rs os gs wa)) ?_ _ ⟨_,.refl _,B1,[r0],as,[Qat gs.length],gs,os,rfl,rfl,s1,.cons q1 .nil,hls.mono s1,hps,λT hT=>by rw [Qbq.mp hT,Qai];exact hps.rng.pos⟩
 clear hwa q1 s1 e0
 intro k σ' hJ_
 refine smG λH_ k_=>?_
 obtain ⟨B1,was,as1,WL,gs1,os1,rfl,rfl,s1,hlw,hla,hp,hne⟩:=hJ_
 refine k_ ?_
 clear k_ H_
 refine Qmm λhfa u_=>?_
 have hga0:B1 ga=none:=hfa ga (by simp)
 clear hfa
 have hN1:gs1.length<=220:=by have:=hp.size;exact Qsh ‹_›
 have has1:1<=as1.length:=by rw [hla.1];exact hp.rng.pos
 rcases Qxp was with rfl | ⟨was',a,rfl⟩
 . cases hlw
   walk_at "m"
   refine Qbl (by decide) ?_
   walk_at "m"
   exact ⟨_,.own (Qxe ..),hQ B1 as1 gs1 os1 s1 hla hp⟩
 . rw [Qyh] at hlw ⊢
   refine smG λH_ k_=>?_
   obtain ⟨WL',T,rfl,hlw',hT⟩:=hlw.unsnoc
   refine k_ ?_
   clear k_ H_
   rw [Qd1]
   walk_at "m"
   refine Qb2 (by rw [Qey];exact Qw9.mpr (Qyg _)) ?_
   walk_at "m"
   refine ⟨[(ga,.list (as1.map MV.ref))],[(wa,.list (was'.map MV.ref++[.ref a])),(oa,.list (os1.map MV.int))],?_,?_⟩
   . exact List.Perm.trans (Qwf (l₁:=[_,_]) (l₂:=[_])) (List.Perm.refl _)
   refine ⟨ga,_,rfl,rfl,ga,gs1,rfl,Qfa hga0 hla,hp.rng,by exact Qm3 ‹_›,λla ns B2 s2 hla2 hso hnd hlen hlive=>⟨rfl,?_⟩⟩
   refine smG λH_ k_=>?_
   obtain ⟨t2,hl2⟩:=Qg2 hga0 s2 hla2 has1
   refine k_ ?_
   clear k_ H_
   have hga2:unB B2 ga ga=none:=Qee
   revert t2 hl2 hga2
   generalize unB B2 ga=B3
   intro t2 hl2 hga2
   clear s2 hla2
   try dsimp only [SpK2,SpO2,Qld,Qwx]
   walk_at "m"
   refine Qef F' (by walk_at "m compok") (λu_=>rfl) (Qco F' rfl rfl (by decide)) ?_
   refine Qkh F' rfl rfl ?_
   walk_at "m"
   refine ⟨wa,was'.map MV.ref,.ref a,_,rfl,.tail .head,?_⟩
   have hT3:=t2 _ _ hT
   have hTd:T.Nodup:=by
     have:=hp.pi.disj
     rw [Qw7] at this
     have h2:=(Qdi.mp this).2.1
     simpa using h2
   have hTr:=hp.win T (by simp)
   have hTl:T.length<=220:=Qdg (Qaf gs1.length T hTd hTr) hN1
   refine ⟨T.map MV.int,(Qqt oa ga wa as1 os1 was' T ns B3),⟨a,rfl,.inl hT3⟩,by rw [Qab];exact Qay (by exact Qm3 ‹_›),⟨rfl,rfl,rfl⟩,?_,?_⟩
   . intro C4 F4 j ys B' own' m hJ_ hm
     refine smG λH_ k_=>?_
     obtain ⟨rfl,rfl,rfl⟩:=hJ_
     refine k_ ?_
     clear k_ H_
     rw [Qaa] at hm
     refine smG λH_ k_=>?_
     obtain ⟨y,hy,rfl⟩:=Qad.mp hm
     refine k_ ?_
     clear k_ H_
     have ht:=Qak hy
     refine Qdu ?_
     walk_at "m cex"
     walk_at "m"
     refine Qax (λhc=>?_) (λhc=>?_)
     . walk_at "m"
       refine Qap ?_
       refine Qbz ?_
       walk_at "m"
       refine ⟨_,.refl _,rfl,rfl,?_⟩
       rw [ht];simp [hc]
     . walk_at "m"
       refine ⟨_,.refl _,rfl,rfl,?_⟩
       rw [ht];simp [hc]
   intro ys B' own' hJ_ C4 F4 sa hsa
   refine smG λH_ k_=>?_
   obtain ⟨rfl,rfl,rfl⟩:=hJ_
   refine k_ ?_
   clear k_ H_
   rw [Qab,Qhi]
   refine Qa2 F4 [(sa,_)] _ (by rintro p hp';rw [Qbq.mp hp'];exact hsa.md) λB4 s4 g4=>?_
   have q4:=g4 _ (.head _)
   dsimp only at q4
   clear g4
   walk_at "m"
   refine Qps λhfa4 u_=>?_
   have hga4:B4 ga=none:=hfa4 ga (by simp)
   clear hfa4
   refine Qao F' (λu_=>rfl) ?_
   walk_at "m"
   have hSn:(T.filter (λx=>decide (x∈ns))).Nodup:=hTd.sublist Qxo
   have hSl:(T.filter (λx=>decide (x∈ns))).length<=T.length:=Qyi _ _
   have hSm:∀x,x∈T.filter (λx=>decide (x∈ns))↔x∈T/\Live (edge gs1) x:=λx=>by rw [Qx8,decide_eq_true_eq,hlive x]
   have hla4:=(hla.mono t2).mono s4
   refine ⟨[(ga,.list (as1.map MV.ref))],[(wa,.list (was'.map MV.ref)),(oa,.list (os1.map MV.int))],List.Perm.refl _,ga,_,rfl,rfl,ga,sa,gs1,_,rfl,Qfa hga4 hla4,by rw [Qbp (λe=>by subst e;rw [hga4] at q4;cases q4)];exact q4,by exact om145 ‹_›,hSn,by exact om146 ‹_› ‹_›,λx hx=>hTr x ((hSm x).mp hx).1,λrl ras RL B5 s5 hrl hras hR=>⟨rfl,?_⟩⟩
   have hB5:B5 ga=some (.list (as1.map MV.ref)):=s5 _ _ setB_self
   refine smG λH_ k_=>?_
   obtain ⟨hp2,hrings,hfl⟩:=(hp.perm (Qwf (l₁:=WL') (l₂:=[T]))).rings hSm hR
   refine k_ ?_
   clear k_ H_
   have hrn:rl≠ga:=λe=>by
     subst e
     rw [hB5] at hrl
     have el:(as1.map MV.ref).length=(ras.map MV.ref).length:=by
       injection hrl with h;injection h with h;rw [h]
     rw [Qab,Qab,hras.length,hla.1] at el
     have h1:=Ql5 RL λR h=>(hrings R h).2.1
     have h2:=Qaf gs1.length T hTd hTr
     have h3:=hp.rng.pos
     omega
   have hras':=Qt5 hB5 has1 hras
   have hrl':unB B5 ga rl=some (.list (ras.map MV.ref)):=by rw [Qgb hrn];exact hrl
   have t5:Sub0 B4 (unB B5 ga):=Sub0.unB ((Sub0.set hga4).trans s5) hga4
   revert hras' hrl' t5
   generalize unB B5 ga=B6
   intro hras' hrl' t5
   clear hB5 hrl hras s5 hrn
   try dsimp only [SpK2,SpO2,Qld,Qwx]
   refine ⟨ras.map MV.ref,(Qqs oa ga rs os gs wa WL' la sa RL B6),⟨rl,rfl,.inl hrl'⟩,⟨_,.refl _,B6,was',as1,WL',gs1,os1,rfl,Sub0.rfl' _,((hlw'.mono t2).mono s4).mono t5,hla4.mono t5,hp2,λR h=>(hrings R h).1,Qwb _,λS hS=>hne S (Qaq _ hS)⟩,?_,?_⟩
   . intro C5 F5 i σ' m hJ_ hm
     refine smG λH_ k_=>?_
     obtain ⟨B7,was2,as2,WL2,gs2,os2,rfl,s7,hlw2,hla7,hp7,hr7,hm7,hne7⟩:=hJ_
     refine k_ ?_
     clear k_ H_
     rw [Qaa] at hm
     refine smG λH_ k_=>?_
     obtain ⟨ra,hra,rfl⟩:=Qad.mp hm
     refine k_ ?_
     clear k_ H_
     refine smG λH_ k_=>?_
     obtain ⟨R,hRi,hRB⟩:=hras'.get hra
     refine k_ ?_
     clear k_ H_
     have hRm:R∈RL:=Qcs hRi
     have hdr:RL.drop i=R::RL.drop (i+1):=by
       refine smG λH_ k_=>?_
       obtain ⟨hlt,e⟩:=Qck.mp hRi
       refine k_ ?_
       clear k_ H_
       rw [Qwn hlt,e]
     rw [hdr] at hp7 hr7 hm7
     have hRB7:=s7 _ _ hRB
     refine smG λH_ k_=>?_
     obtain ⟨u_,hR2,hRnd⟩:=hrings R hRm
     refine k_ ?_
     clear k_ H_
     have hRp:=hr7 R (by simp)
     have hN7:gs2.length<=220:=by have:=hp7.size;exact Qsh ‹_›
     have hRr:=hp7.win R (by simp)
     have hRl:=Qaf gs2.length R hRnd hRr
     have has2:1<=as2.length:=by rw [hla7.1];exact hp7.rng.pos
     refine Qlp λhfa7 u_=>?_
     have hga7:B7 ga=none:=hfa7 ga (by simp)
     clear hfa7
     walk_at "m"
     refine ⟨[(ga,.list (as2.map MV.ref))],[(wa,.list (was2.map MV.ref)),(oa,.list (os2.map MV.int))],List.Perm.refl _,ga,_,rfl,rfl,ga,gs2,rfl,Qfa hga7 hla7,hp7.rng,by exact Qm3 ‹_›,λlb nl B8 s8 hlb hso8 hnd8 hlen8 hlive8=>⟨rfl,?_⟩⟩
     refine smG λH_ k_=>?_
     obtain ⟨t8,hlb8⟩:=Qg2 hga7 s8 hlb has2
     refine k_ ?_
     clear k_ H_
     have hga8:unB B8 ga ga=none:=Qee
     revert t8 hlb8 hga8
     generalize unB B8 ga=B9
     intro t8 hlb8 hga8
     clear s8 hlb
     try dsimp only [SpK2,SpO2,Qld,Qwx]
     walk_at "m"
     have neq:∀{c:Addr} {l:List Int},B9 c=some (.list (l.map MV.int))->setB B9 ga (.list (as2.map MV.ref)) c=some (.list (l.map MV.int)):=λ{c l} h=>by
       rw [Qbp λe=>by subst e;rw [hga8] at h;cases h];exact h
     refine ⟨[(ga,.list (as2.map MV.ref))],[(wa,.list (was2.map MV.ref)),(oa,.list (os2.map MV.int))],List.Perm.refl _,ga,_,rfl,rfl,ga,lb,ra,gs2,nl,R,rfl,Qfa hga8 (hla7.mono t8),neq hlb8,neq (t8 _ _ hRB7),hRnd,by exact om146 ‹_› ‹_›,λx hx=>hp7.rng.live ((hlive8 x).mp hx),λia ins B10 s10 hia hiso hin himem=>⟨rfl,?_⟩⟩
     refine smG λH_ k_=>?_
     obtain ⟨t10,hia10⟩:=Qg2 hga8 s10 hia has2
     refine k_ ?_
     clear k_ H_
     have hga10:unB B10 ga ga=none:=Qee
     revert t10 hia10 hga10
     generalize unB B10 ga=B11
     intro t10 hia10 hga10
     clear s10 hia
     try dsimp only [SpK2,SpO2,Qld,Qwx]
     have I:IsIns (edge gs2) R ins:=⟨λx=>by rw [himem x];unfold Qlc;simp only [hlive8]⟩
     walk_at "m"
     rw [Qab]
     have hge:1<=ins.length:=by
       obtain ⟨x,hx⟩:∃x,x∈R:=List.exists_mem_of_length_pos (by exact om148 ‹_›)
       refine smG λH_ k_=>?_
       obtain ⟨z,hz,u_⟩:=I.some hx (hRp.live x hx)
       refine k_ ?_
       clear k_ H_
       exact Qya hz
     obtain ⟨h,hh0⟩:∃h,ins[0]? = some h:=⟨ins[0]'(by exact Qu1 ‹_›),getElem?_pos ins 0 (by exact Qu1 ‹_›)⟩
     have hhm:h∈ins:=Qcs hh0
     have hhR:h∈R:=((I.mem h).mp hhm).1
     have h00:0∈R->h=0:=λh0=>by
       have:=Qlg hiso ((I.mem 0).mpr ⟨h0,.inr rfl⟩) λx hx=>(hRr x ((I.mem x).mp hx).1).1
       rw [hh0] at this;exact Option.some.inj this
     have hrest:=Qm8 R h
     have hrn:(Qas R h).Nodup:=hRnd.sublist Qxo
     have hrl:=Qh2 hRnd hhR
     have hwl:=hp7.count (V:=R::RL.drop (i+1)) hne7
     have eh:(ins.map MV.int)[((0:Int)).toNat]? = some (.int h):=Qio (i:=0) hh0
     rw [Qe3] at hm7
     have hp3:=Qr5 (k:=R.length) (by exact om150 ‹_› ‹_›)
     have hp4:=Qil (R.length-1)
     rw [show R.length-1=(Qas R h).length by exact om151 ‹_› ‹_›] at hp3 hp4
     refine Qk8 ((Qqr oa ga rs os gs wa WL' la sa RL i ra R ia B11 h)) (λhc=>?_) (λhc=>?_) ?_
     . refine smG λH_ k_=>?_
       obtain ⟨one,other,e0,e1,hlt⟩:=Qn8 (by exact om152 ‹_›) hiso hin
       refine k_ ?_
       clear k_ H_
       have e2:h=one:=Option.some.inj (hh0.symm.trans e0)
       refine smG λH_ k_=>?_
       obtain ⟨k1,k2⟩:=hp7.split (W:=RL.drop (i+1)++WL2) h6 hRp hRnd I hhm (Qcs e1) (by exact om153 ‹_› ‹_›) h00 hrest hrn hrl
       refine k_ ?_
       clear k_ H_
       walk_at "m"
       refine Qae (.inr hia10) (by decide) (m:=.int h) eh ?_
       walk_at "m"
       refine ⟨[(oa,.list (os2.map MV.int)),(ga,.list (as2.map MV.ref))],[(wa,.list (was2.map MV.ref))],Qwf (l₁:=[_,_]) (l₂:=[_]),oa,ga,ra,os2,gs2,as2,R,h,rfl,rfl,(hla7.mono t8).mono t10,t10 _ _ (t8 _ _ hRB7),hp7.rng,hp7.two,by omega,by omega,hp7.len,hRnd,hRr,λca B12 as3 s12 hls12 hca=>?_⟩
       try dsimp only [SpK2,SpO2,Qld,Qwx]
       refine Qid (.tail (.tail .head)) (by rw [Qab,hlw2.length];exact Qb9 (n:=300) (by exact Qm3 ‹_›) (by decide)) ?_
       walk_at "m"
       have ecl:(Qcg (Qas R h) gs2.length).length=(Qas R h).length:=by simp [Qcg]
       rw [show was2.map MV.ref++[MV.ref ca]=(was2++[ca]).map MV.ref by simp]
       refine ⟨rfl,B12,_,was2++[ca],as3,WL2++[Qcg (Qas R h) gs2.length],Qfc gs2 R (Qas R h),osC os2 (Qas R h),rfl,Qwf (l₁:=[_]) (l₂:=[_,_]),s12,(((hlw2.mono t8).mono t10).mono s12).snoc hca,hls12,k1.perm ?_,λR' hR'=>k2 R' (Qaq _ hR') (hr7 R' (Qdx _ hR')),?_,?_⟩
       . rw [show Qas R h::(RL.drop (i+1)++(WL2++[Qcg (Qas R h) gs2.length]))=(Qas R h::(RL.drop (i+1)++WL2))++[Qcg (Qas R h) gs2.length] by simp]
         exact Qwf (l₁:=[_])
       . rw [Qek,Qe3,ecl]
         have:msum ([]:List (List Int))=0:=rfl
         exact om155 ‹_› ‹_› ‹_›
       . intro T hT
         rcases Qaz.mp hT with hT | hT
         . exact hne7 T hT
         . rw [Qbq.mp hT,ecl];exact om156 ‹_› ‹_› ‹_›
     . walk_at "m"
       have e1:ins=[h]:=by
         match ins,hh0,hge,hc with
         | [a],hh0,_,_=>cases hh0;rfl
         | a::b::r,_,_,hc=>exact absurd (by simp only [Qwo];exact om157) hc
       rw [e1] at I
       exact ⟨rfl,B11,_,was2,as2,WL2,gs2,os2,rfl,.refl _,Sub0.rfl' _,(hlw2.mono t8).mono t10,(hla7.mono t8).mono t10,hp7.single hRp I hrest hrn (by exact om158 ‹_›),λR' hR'=>hr7 R' (Qdx _ hR'),by exact om159 ‹_› ‹_› ‹_›,hne7⟩
     intro u_ hJ_
     refine smG λH_ k_=>?_
     obtain ⟨B12,own3,was3,as3,WL3,gs3,os3,rfl,hperm,s12,hlw3,hla3,hps3,hr3,hm3,hne3⟩:=hJ_
     refine k_ ?_
     clear k_ H_
     have hwl3:=hps3.count (V:=Qas R h::RL.drop (i+1)) hne3
     have hRB12:=s12 _ _ (t10 _ _ (t8 _ _ hRB7))
     have hia12:=s12 _ _ hia10
     try dsimp only
     refine Qkd F5 (.perm hperm) ?_
     walk_at "m"
     refine Qa9 F5 (by walk_at "m compok") (λu_=>rfl) ?_
     walk_at "m"
     refine ⟨R.map MV.int,(Qqq oa ga wa R h B12 was3 as3 os3),⟨ra,rfl,.inl hRB12⟩,by rw [Qab];exact Qay (by omega),⟨rfl,rfl,rfl⟩,?_,?_⟩
     . intro C6 F6 j ys B' own' m hJ_ hm
       refine smG λH_ k_=>?_
       obtain ⟨rfl,rfl,rfl⟩:=hJ_
       refine k_ ?_
       clear k_ H_
       rw [Qaa] at hm
       refine smG λH_ k_=>?_
       obtain ⟨y,hy,rfl⟩:=Qad.mp hm
       refine k_ ?_
       clear k_ H_
       have ht:=Qak hy
       refine Qdu ?_
       walk_at "m cex"
       walk_at "m"
       refine Qae (.inr hia12) (by decide) (m:=.int h) eh ?_
       walk_at "m"
       refine Qc1 (λhc=>?_) (λhc=>?_)
       . walk_at "m"
         refine Qap ?_
         refine Qbz ?_
         walk_at "m"
         refine ⟨_,.refl _,rfl,rfl,?_⟩
         rw [ht];simp [Qas,hc]
       . walk_at "m"
         refine ⟨_,.refl _,rfl,rfl,?_⟩
         rw [ht];simp [Qas,hc]
     intro ys B' own' hJ_ na hna
     refine smG λH_ k_=>?_
     obtain ⟨rfl,rfl,rfl⟩:=hJ_
     refine k_ ?_
     clear k_ H_
     rw [Qab,Qhi]
     refine Qid (.tail (.tail .head)) (by rw [Qab,hlw3.length];exact Qb9 (n:=300) (by exact Qm3 ‹_›) (by decide)) ?_
     walk_at "m"
     have s13:=Sub0.set (o:=.list ((Qas R h).map MV.int)) hna.B
     rw [show was3.map MV.ref++[MV.ref na]=(was3++[na]).map MV.ref by simp]
     refine ⟨⟨[(Qa "origins",.ref oa),(Qa "goes",.ref ga),(Qa "regions",.ref wa),(Qa "live",.ref la),(Qa "some",.ref sa)],_,_⟩,.trans (.frz hna.md) (Cv.pre [(Qa "ring",_),(Qa "ins",_)] rfl),_,was3++[na],as3,WL3++[Qas R h],gs3,os3,rfl,(((s7.trans t8).trans t10).trans s12).trans s13,(hlw3.mono s13).snoc setB_self,hla3.mono s13,hps3.perm ?_,hr3,?_,?_⟩
     . rw [show RL.drop (i+1)++(WL3++[Qas R h])=(RL.drop (i+1)++WL3)++[Qas R h] by simp]
       exact Qwf (l₁:=[_])
     . rw [Qek,Qe3]
       have:msum ([]:List (List Int))=0:=rfl
       exact om160 ‹_› ‹_›
     . intro T hT
       rcases Qaz.mp hT with hT | hT
       . exact hne3 T hT
       . rw [Qbq.mp hT];exact om161 ‹_› ‹_›
   . intro C5 F5 σ' hJ_
     refine smG λH_ k_=>?_
     obtain ⟨B7,was2,as2,WL2,gs2,os2,rfl,s7,hlw2,hla7,hp7,hr7,hm7,hne7⟩:=hJ_
     refine k_ ?_
     clear k_ H_
     walk_at "m"
     rw [Qab,hras'.length,Qy7] at hp7 hm7
     have hlt:msum WL2<msum (WL'++[T]):=by
       have h1:msum RL<=3 ^ T.length:=Qm5 (λR h=>by have:=(hrings R h).2.1;exact om162 ‹_›) hfl
       have h2:msum [T]=3 ^ T.length:=by simp [msum]
       have h3:=Qil T.length
       rw [Qek,h2]
       by_cases e:RL=[]
       . subst e
         have h4:msum ([]:List (List Int))=0:=rfl
         rw [h4] at hm7
         exact om163 ‹_› ‹_›
       . have h5:1<=RL.length:=List.length_pos_iff.mpr e
         have h4:msum ([]:List (List Int))=0:=rfl
         rw [h4] at hm7
         exact om164 ‹_› ‹_› ‹_› ‹_›
     exact ⟨⟨[(Qa "origins",.ref oa),(Qa "goes",.ref ga),(Qa "regions",.ref wa)],_,_⟩,.trans (.perm (Qwf (l₁:=[_]) (l₂:=[_,_]))) (Cv.pre [(Qa "live",_),(Qa "some",_)] rfl),msum WL2,hlt,B7,was2,as2,WL2,gs2,os2,rfl,rfl,(((s1.trans t2).trans s4).trans t5).trans s7,hlw2,hla7,hp7,hne7⟩
end
section
open PySem
noncomputable def plc (L:List Int):Option Int->Int
 | none=>L.length
 | some v=>(L.idxOf v:Nat)
noncomputable def tRw (r:Rw)(bl:List Int):Rw:=if r.add then ⟨true,r.box,r.z,bl.getD 0 0⟩ else ⟨false,r.box,bl.getD 0 0,bl.getD 1 0⟩
noncomputable def Qge (rs:List Rw)(gs:Gs)(os L:List Int)(u:Int):Rw:=tRw (rowZ rs (osF os u)) ((gs.getD u.toNat []).map (plc L))
noncomputable def told (rs:List Rw)(gs:Gs)(os L:List Int):List Rw:=L.map (Qge rs gs os L)
theorem Qci (rs:List Rw)(gs:Gs)(os L:List Int):(told rs gs os L).length=L.length:=by simp [told]
theorem Qof (r:Rw)(bl:List Int):(tRw r bl).add=r.add:=by unfold tRw;cases h:r.add <;> simp [h]
theorem Qoe (r:Rw)(bl:List Int):(tRw r bl).box=r.box:=by unfold tRw;cases h:r.add <;> simp [h]
theorem tRw_z {r:Rw}(h:r.add=true)(bl:List Int):(tRw r bl).z=r.z:=by unfold tRw;simp [h]
theorem tRw_nx {r:Rw}{bl:List Int}(h:bl.length=r.nx.length):(tRw r bl).nx=bl:=by
 unfold Rw.nx at h ⊢
 rw [Qof]
 cases e:r.add with
 | true =>
   rw [e] at h
   match bl,h with
   | [a],_=>simp [tRw,e]
 | false =>
   rw [e] at h
   match bl,h with
   | [a,b],_=>simp [tRw,e]
theorem getD_some {α:Type}{l:List α}{i:Nat}{d x:α}(h:l[i]? = some x):l.getD i d=x:=by rw [Qhh,h];rfl
theorem Qme {rs:List Rw}{i:Nat}{r:Rw}(h:rs[i]? = some r):(gsOf rs)[i]? = some (r.nx.map (goO rs.length)):=by unfold gsOf;rw [Qaa,h];rfl
section
variable {rs:List Rw} {gs₀ gs:Gs} {os₀ os:List Int} {W:List (List Int)}
theorem PS.row' (p:PS rs gs₀ os₀ gs os W){u:Int}(hu:0<=u/\u<gs.length):∃l r,gs[u.toNat]? = some l/\rs[(osF os u).toNat]? = some r/\rowZ rs (osF os u)=r/\l.map (Option.map (osF os))=r.nx.map (goO rs.length)/\l.length=r.nx.length/\osF os u<rs.length/\0<=osF os u:=by
 have hi:u.toNat<gs.length:=by exact om90 ‹_›
 have hr:=p.row u.toNat _ (getElem?_pos gs _ hi)
 rw [show ((u.toNat:Nat):Int)=u by exact om91 ‹_›] at hr
 have h1:=(Qck.mp hr).1
 rw [Qaj] at h1
 rw [Qme (getElem?_pos rs _ h1)] at hr
 have hr:=Option.some.inj hr
 refine ⟨gs[u.toNat],rs[(osF os u).toNat],getElem?_pos gs _ hi,getElem?_pos rs _ h1,getD_some (getElem?_pos rs _ h1),hr.symm,?_,?_,p.pos hu⟩
 . have:=congrArg List.length hr;simpa using this.symm
 . have:=p.pos hu;exact om211 ‹_› ‹_›
structure LvL (gs:Gs)(L:List Int):Prop where
 sorted:L.Pairwise (·<=·)
 nd:L.Nodup
 mem:∀x,x∈L↔Live (edge gs) x
theorem Qjn {L:List Int}(hs:L.Pairwise (·<=·))(h0:0∈L)(hp:∀x∈L,0<=x):L[0]? = some 0:=by
 match L,hs,h0 with
 | a::L,hs,h0 =>
   have ha:=hp a (by simp)
   rcases Qch.mp h0 with rfl | h
   . rfl
   . have:=(Qyy.mp hs).1 0 h
     have:a=0:=by exact om137 ‹_› ‹_›
     subst this;rfl
theorem LvL.zero {L:List Int}(hg:InRng gs)(h:LvL gs L):L[0]? = some 0:=Qjn h.sorted ((h.mem 0).mpr .refl) λx hx=>(hg.live ((h.mem x).mp hx)).1
theorem LvL.pos {L:List Int}(h:LvL gs L):1<=L.length:=Qya ((h.mem 0).mpr .refl)
theorem LvL.len {L:List Int}(hg:InRng gs)(h:LvL gs L):L.length<=gs.length:=Qaf _ _ h.nd λx hx=>hg.live ((h.mem x).mp hx)
theorem Qfx {L:List Int}{v:Int}(h:v∈L):L[L.idxOf v]? = some v:=by
 rw [getElem?_pos L _ (Qwc h),Qzy]
theorem Qdn {L:List Int}(hn:L.Nodup){i:Nat}{v:Int}(h:L[i]? = some v):L.idxOf v=i:=by
 obtain ⟨h1,rfl⟩:=Qck.mp h
 exact List.Nodup.idxOf_getElem hn i h1
theorem Ql7 {L:List Int}{k:Nat}{u:Int}(h:L[k]? = some u):(told rs gs os L)[k]? = some (Qge rs gs os L u):=by unfold told;rw [Qaa,h];rfl
theorem Qgj (p:PS rs gs₀ os₀ gs os W){L:List Int}{u:Int}(hu:0<=u/\u<gs.length){l:List (Option Int)}(hl:gs[u.toNat]? = some l):(Qge rs gs os L u).nx=l.map (plc L):=by
 obtain ⟨l',r,h1,h2,h3,h4,h5,u_⟩:=p.row' hu
 rw [hl] at h1;cases h1
 unfold Qge
 rw [h3,getD_some hl]
 exact tRw_nx (by rw [Qab];exact h5)
theorem Qoa (p:PS rs gs₀ os₀ gs os W){L:List Int}(hL:LvL gs L){k:Nat}{u:Int}(h:L[k]? = some u){l:List (Option Int)}(hl:gs[u.toNat]? = some l):(gsOf (told rs gs os L))[k]? = some (l.map (Option.map λv=>((L.idxOf v:Nat):Int))):=by
 have hul:=(hL.mem u).mp (Qcs h)
 have hu:=p.rng.live hul
 rw [Qme (Ql7 h),Qgj p hu hl,Qci,Qxw]
 congr 1
 refine Qx6 λx hx=>?_
 cases x with
 | none=>simp [plc,goO]
 | some v =>
   have hv:v∈L:=(hL.mem v).mpr (hul.step ⟨hu.1,l,hl,hx⟩)
   have:=Qwc hv
   show goO L.length (((L.idxOf v:Nat)):Int)=_
   unfold goO
   rw [if_neg (by exact om215 ‹_›)];rfl
theorem Qez (p:PS rs gs₀ os₀ gs os W){L:List Int}(hL:LvL gs L){i j:Int}:edge (gsOf (told rs gs os L)) i j↔(0<=i/\i<L.length)/\(0<=j/\j<L.length)/\edge gs (osF L i) (osF L j):=by
 have at':∀i:Int,0<=i->i<L.length->L[i.toNat]? = some (osF L i):=λi h0 h1=>Qc0 (by exact om50 ‹_› ‹_›)
 constructor
 . rintro e
   have hs:=Qi0 e
   rw [Qaj,Qci] at hs
   obtain ⟨h0,l',h1,h2⟩:=e
   have hi:=at' i hs.1 hs.2
   have hul:=(hL.mem _).mp (Qcs hi)
   have hu:=p.rng.live hul
   obtain ⟨l,u_,hl,u_⟩:=p.row' hu
   rw [Qoa p hL hi hl] at h1
   cases h1
   obtain ⟨x,hx,e⟩:=Qc6.mp h2
   cases x with
   | none=>cases e
   | some v =>
     have ee:edge gs (osF L i) v:=⟨hu.1,l,hl,hx⟩
     have hv:v∈L:=(hL.mem v).mpr (hul.step ee)
     have hlt:=Qwc hv
     have e:((L.idxOf v:Nat):Int)=j:=Option.some.inj e
     refine ⟨hs,by exact om216 ‹_› ‹_›,?_⟩
     have:osF L j=v:=by
       rw [<-e];unfold osF;rw [Qej];exact getD_some (Qfx hv)
     rw [this];exact ee
 . rintro ⟨hi,hj,e⟩
   have hi':=at' i hi.1 hi.2
   have hj':=at' j hj.1 hj.2
   obtain ⟨h0,l,h1,h2⟩:=e
   refine ⟨hi.1,_,Qoa p hL hi' h1,Qc6.mpr ⟨_,h2,?_⟩⟩
   show some (((L.idxOf (osF L j):Nat)):Int)=some j
   rw [Qdn hL.nd hj']
   congr 1;exact om91 ‹_›
theorem Qk3 {L:List Int}(hn:L.Nodup){i j:Int}(hi:0<=i/\i<L.length)(hj:0<=j/\j<L.length)(e:osF L i=osF L j):i=j:=by
 have h1:=Qdn hn (Qc0 (os:=L) (u:=i) (by exact om90 ‹_›))
 have h2:=Qdn hn (Qc0 (os:=L) (u:=j) (by exact om212 ‹_› ‹_›))
 rw [e,h2] at h1
 exact om214 ‹_› ‹_› ‹_› ‹_›
theorem Qn9 (p:PS rs gs₀ os₀ gs os W){L:List Int}(hL:LvL gs L){i:Int}(hi:0<=i/\i<L.length):Live (edge (gsOf (told rs gs os L))) i:=by
 have z0:=hL.zero p.rng
 have key:∀x,Live (edge gs) x->Live (edge (gsOf (told rs gs os L))) ((L.idxOf x:Nat):Int):=by
   intro x hx
   induction hx with
   | refl=>rw [Qdn hL.nd z0];exact .refl
   | @step a b ha e _ ih =>
     have ma:=(hL.mem a).mpr ha
     have mb:=(hL.mem b).mpr (Live.step ha e)
     have la:=Qwc ma
     have lb:=Qwc mb
     refine Live.step ih ((Qez p hL).mpr ⟨by exact Quz ‹_›,by exact Quz ‹_›,?_⟩)
     have oa:osF L ((L.idxOf a:Nat):Int)=a:=by unfold osF;rw [Qej];exact getD_some (Qfx ma)
     have ob:osF L ((L.idxOf b:Nat):Int)=b:=by unfold osF;rw [Qej];exact getD_some (Qfx mb)
     rw [oa,ob];exact e
 have h1:=Qc0 (os:=L) (u:=i) (by exact om90 ‹_›)
 have:=key _ ((hL.mem _).mp (Qcs h1))
 rw [Qdn hL.nd h1] at this
 rwa [show ((i.toNat:Nat):Int)=i by exact om91 ‹_›] at this
theorem Qob (p:PS rs gs₀ os₀ gs os []){L:List Int}(hL:LvL gs L){L':List Int}(hL':∀y∈L',Live (edge (gsOf (told rs gs os L))) y):¬Cyc (edge (gsOf (told rs gs os L))) L':=by
 have z0:osF L 0=0:=getD_some (hL.zero p.rng)
 have rng:∀y,Live (edge (gsOf (told rs gs os L))) y->0<=y/\y<L.length:=λy hy=>by
   cases hy with
   | refl=>have:=hL.pos;exact om43 ‹_›
   | step _ e _=>exact ((Qez p hL).mp e).2.1
 have lv:∀y,Live (edge (gsOf (told rs gs os L))) y->Live (edge gs) (osF L y):=λy hy=>(hL.mem _).mp (Qcs (Qc0 (by have:=rng y hy;exact om90 ‹_›)))
 have hfw:∀u v,fw (edge (gsOf (told rs gs os L))) u v->fw (edge gs) (osF L u) (osF L v):=by
   rintro u v ⟨e,h0,hr⟩
   obtain ⟨hu,hv,e'⟩:=(Qez p hL).mp e
   have ne:∀b:Int,(0<=b/\b<L.length)->b∉[v]->osF L b∉[osF L v]:=λb hb hn h=>hn (by rw [Qbq] at h ⊢;exact Qk3 hL.nd hb hv h)
   refine ⟨e',by have:=ne 0 (by have:=hL.pos;exact om43 ‹_›) h0;rwa [z0] at this,?_⟩
   have key:∀z,Rch (edge (gsOf (told rs gs os L))) (·∉[v]) 0 z->Rch (edge gs) (·∉[osF L v]) 0 (osF L z):=by
     intro z hz
     induction hz with
     | refl=>rw [z0];exact .refl
     | step _ e o ih =>
       obtain ⟨u_,hb,e'⟩:=(Qez p hL).mp e
       exact .step ih e' (ne _ hb o)
   exact key u hr
 have hpl:∀a b,Pl (edge (gsOf (told rs gs os L))) L' a b->Pl (edge gs) (L'.map (osF L)) (osF L a) (osF L b):=by
   intro a b h
   induction h with
   | one e o=>exact .one (hfw _ _ e) (Qc6.mpr ⟨_,o,rfl⟩)
   | step _ e o ih=>exact .step ih (hfw _ _ e) (Qc6.mpr ⟨_,o,rfl⟩)
 rintro ⟨x,hx,h⟩
 refine p.pi.done (L:=L'.map (osF L)) (λy hy=>?_) ⟨osF L x,Qc6.mpr ⟨x,hx,rfl⟩,hpl _ _ h⟩
 obtain ⟨y',hy',rfl⟩:=Qc6.mp hy
 exact lv y' (hL' y' hy')
theorem Qrx (p:PS rs gs₀ os₀ gs os W){L:List Int}(hL:LvL gs L){k:Nat}{u:Int}(h:L[k]? = some u){j:Nat}{b:Int}(hb:(rowZ rs (osF os u)).nx[j]? = some b) :
   ∃b',(Qge rs gs os L u).nx[j]? = some b'/\((b'=L.length/\b=rs.length)\/(0<=b'/\b'<L.length/\b≠rs.length/\(L.map (osF os))[b'.toNat]? = some b)):=by
 have hul:=(hL.mem u).mp (Qcs h)
 have hu:=p.rng.live hul
 obtain ⟨l,r,hl,hr,h3,h4,h5,u_⟩:=p.row' hu
 rw [h3] at hb
 rw [Qgj p hu hl]
 have hj:j<l.length:=by rw [h5];exact (Qck.mp hb).1
 refine ⟨plc L l[j],by rw [Qaa,getElem?_pos l j hj];rfl,?_⟩
 have e:(l.map (Option.map (osF os)))[j]? = (r.nx.map (goO rs.length))[j]?:=by rw [h4]
 rw [Qaa,Qaa,getElem?_pos l j hj,hb] at e
 have e:=Option.some.inj e
 cases hx:l[j] with
 | none =>
   rw [hx] at e
   left
   refine ⟨rfl,?_⟩
   have e:none=goO rs.length b:=e
   unfold goO at e
   split at e
   . assumption
   . cases e
 | some v =>
   rw [hx] at e
   right
   have hv:v∈L:=(hL.mem v).mpr (hul.step ⟨hu.1,l,hl,by rw [<-hx];exact Qwp hj⟩)
   have:=Qwc hv
   have e:some (osF os v)=goO rs.length b:=e
   unfold goO at e
   split at e
   . cases e
   . have e:=Option.some.inj e
     show 0<=(((L.idxOf v:Nat)):Int)/\(((L.idxOf v:Nat)):Int)<L.length/\_/\(L.map (osF os))[(((L.idxOf v:Nat)):Int).toNat]? = some b
     refine ⟨by exact om53,by exact Qu2 ‹_›,by assumption,?_⟩
     rw [Qej,Qaa,Qfx hv,<-e];rfl
theorem Qt7 (p:PS rs gs₀ os₀ gs os W)(hok:Qal rs){L:List Int}(hL:LvL gs L):Qal (told rs gs os L):=by
 have hl:=hL.len p.rng
 have hs:=p.size
 refine ⟨by rw [Qci];exact hL.pos,by rw [Qci];exact om217 ‹_› ‹_›,λr' hr'=>?_⟩
 obtain ⟨u,hu,rfl⟩:=Qc6.mp hr'
 obtain ⟨k,hk⟩:=Qx1 hu
 have hul:=(hL.mem u).mp hu
 have hu':=p.rng.live hul
 obtain ⟨l,r,hl,hr,h3,h4,h5,h6,h7⟩:=p.row' hu'
 have ok:Rw.Ok rs.length (rowZ rs (osF os u)):=Qub hok h7 h6
 have hn:=Qgj p (L:=L) hu' hl
 have rg:∀b∈(Qge rs gs os L u).nx,0<=b/\b<=(L.length:Int):=λb hb=>by
   rw [hn] at hb
   obtain ⟨x,hx,rfl⟩:=Qc6.mp hb
   cases x with
   | none=>simp [plc]
   | some v =>
     have:=Qwc ((hL.mem v).mpr (hul.step ⟨hu'.1,l,hl,hx⟩))
     simp only [plc];exact om218 ‹_›
 have hbox:(Qge rs gs os L u).box=(rowZ rs (osF os u)).box:=Qoe _ _
 rw [Qci]
 unfold Rw.nx at rg
 refine ⟨by rw [hbox];exact ok.1,by rw [hbox];exact ok.2.1,?_⟩
 cases e:(Qge rs gs os L u).add with
 | true =>
   rw [e] at rg
   have:=rg (Qge rs gs os L u).y (by simp)
   exact ⟨this.1,this.2,λh=>nomatch h⟩
 | false =>
   rw [e] at rg
   have h1:=rg (Qge rs gs os L u).y (by simp)
   have h2:=rg (Qge rs gs os L u).z (by simp)
   exact ⟨h1.1,h1.2,λu_=>h2⟩
theorem Qmw (p:PS rs gs₀ os₀ gs os W){L:List Int}(hL:LvL gs L){x:Int}{i j:Nat}(hij:i≠j)(hi:(L.map (osF os))[i]? = some x)(hj:(L.map (osF os))[j]? = some x):Xr (rowG rs) x:=by
 rw [Qaa] at hi hj
 obtain ⟨u,hu,rfl⟩:=Qad.mp hi
 obtain ⟨v,hv,e⟩:=Qad.mp hj
 have hne:u≠v:=λe=>by
   subst e
   exact hij ((Qdn hL.nd hu).symm.trans (Qdn hL.nd hv))
 exact p.uniq u v (p.rng.live ((hL.mem u).mp (Qcs hu))) (p.rng.live ((hL.mem v).mp (Qcs hv))) hne e.symm
end
theorem Xr.ring {G:Int->Int->Prop}{x:Int}(h:Xr G x):∃s,G x s/\Rch G (λu_=>True) s x:=by
 obtain ⟨y,u_,⟨L,u_,hp⟩,h1,h2⟩:=h
 have fst:∀a b,Rch G (λu_=>True) a b->∀c,G b c->Rch G (λu_=>True) c a->∃s,G a s/\Rch G (λu_=>True) s a:=by
   intro a b hab
   induction hab with
   | refl=>intro c e h;exact ⟨c,e,h⟩
   | @step b' b _ e _ ih=>intro c e' h;exact ih b e (Rch.front e' trivial h)
 have lst:∃c,G y c/\Rch G (λu_=>True) c y:=by
   have:∀z,Pl G L y z->Rch G (λu_=>True) z y->∃c,G y c/\Rch G (λu_=>True) c y:=by
     intro z hz
     induction hz with
     | one e _=>intro h;exact ⟨_,e.1,h⟩
     | step _ e _ ih=>intro h;exact ih (Rch.front e.1 trivial h)
   exact this y hp .refl
 obtain ⟨c,e,hc⟩:=lst
 exact fst x y h1 c e (hc.trans h2)
theorem Xr.live {G:Int->Int->Prop}{x:Int}(h:Xr G x):Live G x:=let ⟨_,h1,_,_,h2⟩:=h;h1.trans h2
noncomputable def Qhb (ns:List Int):Option Int->Option Int:=Option.map λx=>((ns.idxOf x:Nat):Int)
noncomputable def Qdw (rs:List Rw)(ns:List Int):Gs:=ns.map λo=>((gsOf rs).getD o.toNat []).map (Qhb ns)
theorem Qbg (rs:List Rw)(ns:List Int):(Qdw rs ns).length=ns.length:=by simp [Qdw]
section
variable {rs:List Rw} {ns:List Int}
theorem Qfd {k:Nat}{o:Int}(h:ns[k]? = some o):(Qdw rs ns)[k]? = some (((gsOf rs).getD o.toNat []).map (Qhb ns)):=by unfold Qdw;rw [Qaa,h];rfl
theorem Qgr (hok:Qal rs)(hL:LvL (gsOf rs) ns){o x:Int}(ho:o∈ns)(hx:some x∈(gsOf rs).getD o.toNat []):x∈ns:=by
 have hl:=(hL.mem o).mp ho
 have hr:=Qbr hok hl
 have hi:o.toNat<(gsOf rs).length:=by rw [Qaj];exact om90 ‹_›
 rw [getD_some (getElem?_pos (gsOf rs) _ hi)] at hx
 exact (hL.mem x).mpr (hl.step ⟨hr.1,_,getElem?_pos (gsOf rs) _ hi,hx⟩)
theorem InRng.gsOf (hok:Qal rs):InRng (gsOf rs):=⟨by rw [Qaj];exact hok.1,λi l y h1 h2=>by
 rw [Qaj];exact Qmi hok (a:=i) ⟨by exact om53,l,by rw [Qej];exact h1,h2⟩⟩
theorem Qgq (hok:Qal rs)(hL:LvL (gsOf rs) ns):InRng (Qdw rs ns):=⟨by rw [Qbg];exact hL.pos,λi l y h1 h2=>by
 have hi:=(Qck.mp h1).1
 rw [Qbg] at hi
 rw [Qfd (getElem?_pos ns _ hi)] at h1
 cases h1
 obtain ⟨x,hx,e⟩:=Qc6.mp h2
 cases x with
 | none=>cases e
 | some x =>
   have hm:=Qgr hok hL (Qwp hi) hx
   have:=Qwc hm
   have e:((ns.idxOf x:Nat):Int)=y:=Option.some.inj e
   rw [Qbg];exact om216 ‹_› ‹_›⟩
theorem Qmz (hok:Qal rs)(hL:LvL (gsOf rs) ns){x:Int}(hx:x∈ns):Live (edge (Qdw rs ns)) ((ns.idxOf x:Nat):Int):=by
 have z0:=hL.zero (.gsOf hok)
 have key:∀x,Live (edge (Mine.gsOf rs)) x->Live (edge (Qdw rs ns)) ((ns.idxOf x:Nat):Int):=by
   intro x hx
   induction hx with
   | refl=>rw [Qdn hL.nd z0];exact .refl
   | @step a b ha e _ ih =>
     have ma:=(hL.mem a).mpr ha
     refine Live.step ih ?_
     obtain ⟨h0,l,h1,h2⟩:=e
     refine ⟨by exact om53,_,by rw [Qej];exact Qfd (Qfx ma),Qc6.mpr ⟨some b,?_,rfl⟩⟩
     rw [getD_some h1];exact h2
 exact key x ((hL.mem x).mp hx)
theorem Qog (hok:Qal rs)(hL:LvL (gsOf rs) ns){i:Int}(hi:0<=i/\i<ns.length):Live (edge (Qdw rs ns)) i:=by
 have h1:=Qc0 (os:=ns) (u:=i) (by exact om90 ‹_›)
 have:=Qmz hok hL (Qcs h1)
 rw [Qdn hL.nd h1] at this
 rwa [show ((i.toNat:Nat):Int)=i by exact om91 ‹_›] at this
theorem Qr0 (hok:Qal rs)(h20:rs.length<=20)(hL:LvL (gsOf rs) ns):PS rs (Qdw rs ns) ns (Qdw rs ns) ns [Qat (Qdw rs ns).length] where
 rng:=Qgq hok hL
 len:=(Qbg _ _).symm
 row:=λu l hu=>by
   have hi:=(Qck.mp hu).1
   rw [Qbg] at hi
   rw [Qfd (getElem?_pos ns _ hi)] at hu
   cases hu
   have e:osF ns u=ns[u]:=by unfold osF;rw [Qej];exact getD_some (getElem?_pos ns _ hi)
   have hm:ns[u]∈ns:=Qwp hi
   have hr:=Qbr hok ((hL.mem _).mp hm)
   have hj:(ns[u]).toNat<(gsOf rs).length:=by rw [Qaj];exact om221 ‹_› ‹_›
   rw [e,getElem?_pos (gsOf rs) _ hj,getD_some (getElem?_pos (gsOf rs) _ hj),Qxw]
   congr 1
   symm
   conv=>rhs;rw [<-List.map_id (gsOf rs)[ns[u].toNat]]
   refine Qx6 λx hx=>?_
   cases x with
   | none=>rfl
   | some x =>
     have:=Qgr hok hL hm (x:=x) (by rw [getD_some (getElem?_pos (gsOf rs) _ hj)];exact hx)
     show some (osF ns ((ns.idxOf x:Nat):Int))=some x
     unfold osF;rw [Qej,getD_some (Qfx this)]
 orng:=λo ho=>(Qbr hok ((hL.mem o).mp ho)).1
 zero:=getD_some (hL.zero (.gsOf hok))
 uniq:=λu v hu hv hne e=>by
   rw [Qbg] at hu hv
   exact absurd (Qk3 hL.nd hu hv e) hne
 pi:=.init (Qa8 _) λx hx=>by rw [mem_nums0];exact (Qgq hok hL).live hx
 inj:=λT hT a ha b hb e=>by
   rw [Qbq.mp hT,mem_nums0,Qbg] at ha hb
   exact Qk3 hL.nd ha hb e
 win:=λT hT x hx=>by rw [Qbq.mp hT,mem_nums0] at hx;exact hx
 size:=by
   have h1:ns.length<=rs.length:=Qaf _ _ hL.nd λx hx=>Qbr hok ((hL.mem x).mp hx)
   have h2:=Qn5 ns.length
   rw [Qcn,Qai,Qbg]
   show _+(_+0)<=220
   exact om222 ‹_› ‹_› ‹_›
 same:=.inr ⟨rfl,rfl⟩
theorem Qgs:∀{l m:List Int},l.Pairwise (·<=·)->m.Pairwise (·<=·)->l.Nodup->m.Nodup->(∀x,x∈l↔x∈m)->l=m:=by
 intro l m h1 h2 n1 n2 h
 exact ((List.perm_ext_iff_of_nodup n1 n2).mpr h).eq_of_pairwise (λa b u_ u_ h1 h2=>by exact om220 ‹_› ‹_›) h1 h2
theorem Qdz (k:Nat):(Qat k).Pairwise (·<=·):=by
 unfold Qat
 refine List.Pairwise.map _ ?_ (List.pairwise_lt_range (n:=k))
 intro a b h;exact om219 ‹_›
theorem Qmy (hok:Qal rs)(hL:LvL (gsOf rs) ns){L:List Int}(hL2:LvL (Qdw rs ns) L):L.map (osF ns)=ns:=by
 have hn:=Qdz ns.length
 have e:L=Qat ns.length:=Qgs hL2.sorted hn hL2.nd (Qa8 _) λx=>by
   rw [hL2.mem x,mem_nums0]
   exact ⟨λh=>by have:=(Qgq hok hL).live h;rwa [Qbg] at this,λh=>Qog hok hL h⟩
 rw [e]
 refine Qxm λi=>?_
 unfold Qat
 rw [Qxw,Qaa]
 by_cases hi:i<ns.length
 . rw [getElem?_pos (List.range ns.length) i (by simpa using hi),getElem?_pos ns i hi,Qzx]
   show some (osF ns (i:Int))=_
   unfold osF;rw [Qej,getD_some (getElem?_pos ns i hi)]
 . rw [Qxj (by simpa using hi),Qxj (by exact om13 ‹_›)];rfl
end
end
section
open PySem
noncomputable def mut2 (rs:List Rw)(x y:Int):Prop:=Rch (rowG rs) (λu_=>True) x y/\Rch (rowG rs) (λu_=>True) y x
theorem mut2.symm {rs:List Rw}{x y:Int}(h:mut2 rs x y):mut2 rs y x:=⟨h.2,h.1⟩
theorem mut2.trans {rs:List Rw}{x y z:Int}(h:mut2 rs x y)(h':mut2 rs y z):mut2 rs x z:=⟨h.1.trans h'.1,h'.2.trans h.2⟩
open Classical in
noncomputable def tang (rs:List Rw)(x:Int):List Int:=(Qat rs.length).filter λz=>decide (mut2 rs x z)
open Classical in
theorem tang_mem {rs:List Rw}{x z:Int}:z∈tang rs x↔(0<=z/\z<rs.length)/\mut2 rs x z:=by unfold tang;rw [Qx8,mem_nums0,decide_eq_true_iff]
open Classical in
theorem Qt9 {rs:List Rw}{x y:Int}(h:mut2 rs x y):tang rs x=tang rs y:=by
 unfold tang
 refine List.filter_congr λz u_=>?_
 rw [decide_eq_decide]
 exact ⟨λg=>h.symm.trans g,λg=>h.trans g⟩
theorem Qrz (rs:List Rw)(x:Int):(tang rs x).length<=rs.length:=by
 unfold tang
 exact Qdg (Qyi _ _) (by rw [Qai];exact Qwb _)
open Classical in
theorem Qt8 {rs:List Rw}{x:Int}{ts:List Int}(hs:ts.Sublist (Qat rs.length))(hm:∀z,z∈ts↔z∈Qat rs.length/\mut2 rs x z):ts=tang rs x:=by
 refine Qgs ?_ ?_ (hs.nodup (Qa8 _)) ((Qxo (l:=Qat rs.length)).nodup (Qa8 _)) λz=>by rw [hm z,tang_mem,mem_nums0]
 . exact (Qdz _).sublist hs
 . exact (Qdz _).sublist Qxo
theorem Qgw {rs:List Rw}(hok:Qal rs){a b:Int}:Rch (goTo rs) (inR rs []) a b↔Rch (rowG rs) (λu_=>True) a b :=
 ⟨λh=>h.mono λa b e o=>⟨((Qbh hok [] a b).mpr ⟨e,o⟩).1,trivial⟩,λh=>h.mono λa b e u_=>(Qbh hok [] a b).mp ⟨e,by simp⟩⟩
theorem Qtn {rs:List Rw}(hok:Qal rs)(h:∀x,Xr (rowG rs) x->(tang rs x).length<=6):Six rs:=λL y hn hx hm =>
 Qdg (Qbs L _ hn λx hxL=>tang_mem.mpr ⟨Qbr hok (hx.live.trans (hm x hxL).2),(hm x hxL).2,(hm x hxL).1⟩) (h y hx)
theorem Qoi {rs:List Rw}(hok:Qal rs)(h:rs.length<=6):Six rs:=Qtn hok λx u_=>Qdg (Qrz rs x) h
theorem Qua {rs:List Rw}(h:∀a b,rowG rs a b->a<b):Six rs:=λL y u_ hx u_=>by
 obtain ⟨s,e,hs⟩:=hx.ring
 have key:∀a b,Rch (rowG rs) (λu_=>True) a b->a<=b:=by
   intro a b r
   induction r with
   | refl=>exact Qw0 _
   | step _ e _ ih=>have:=h _ _ e;exact om223 ‹_› ‹_›
 have:=key _ _ hs
 have:=h _ _ e
 omega
theorem xr_iff {rs:List Rw}(hok:Qal rs){Lv:List Int}(hLv:∀y,y∈Lv↔Live (rowG rs) y){x:Int}:(∃one,(one∈Lv/\Pl (rowG rs) Lv one one)/\x∈tang rs one)↔Xr (rowG rs) x:=by
 constructor
 . rintro ⟨one,⟨h1,h2⟩,h3⟩
   obtain ⟨u_,h4,h5⟩:=tang_mem.mp h3
   exact ⟨one,(hLv one).mp h1,⟨Lv,λz hz=>(hLv z).mp hz,h2⟩,h5,h4⟩
 . rintro ⟨y,h1,⟨L,h2,h3⟩,h4,h5⟩
   exact ⟨y,⟨(hLv y).mpr h1,h3.weak λz hz=>(hLv z).mpr (h2 z hz)⟩,tang_mem.mpr ⟨Qbr hok (h1.trans h5),h5,h4⟩⟩
theorem Qkz {rs:List Rw}(h6:Six rs){S R:List Int}(hS:∀x∈S,Live (rowG rs) x)(K:IsRing (rowG rs) S R)(hn:R.Nodup)(hl:6<R.length):¬Cyc (rowG rs) R:=by
 rintro ⟨x,hx,hp⟩
 have lv:∀z∈R,Live (rowG rs) z:=λz hz=>hS z (K.sub hz)
 have:=h6 R x hn ⟨x,lv x hx,⟨R,lv,hp⟩,.refl,.refl⟩ λz hz=>⟨(K.mut hz hx).weak λu_ u_=>trivial,(K.mut hx hz).weak λu_ u_=>trivial⟩
 exact (om225 ‹_› ‹_›).elim
theorem Qr3 {G:Int->Int->Prop}{S R:List Int}(hS:∀x,x∈S↔Live G x)(K:IsRing G S R):Phi G R:=by
 intro x s hx hn hs e
 have inS:∀a b,Live G a->Rch G (λu_=>True) a b->RS G S a b:=by
   intro a b ha r
   induction r with
   | refl=>exact .refl
   | step r e _ ih=>exact .step ih e ((hS _).mpr (Live.step (ha.trans r) e))
 have out:∀z,Live G z->Rch G (λu_=>True) z x->z∉R:=λz hz hzx hzR=>hn (K.mem hzR ((hS x).mpr hx) (inS z x hz hzx) ((Rch.front e (K.sub hs) .refl:RS G S x s).trans (K.mut hs hzR)))
 have key:∀z,Live G z->Rch G (λu_=>True) z x->Rch G (·∉R) 0 z:=by
   intro z hz
   induction hz with
   | refl=>intro _;exact .refl
   | @step a b ha e' _ ih=>intro hb;exact .step (ih (Rch.front e' trivial hb)) e' (out b (Live.step ha e') hb)
 exact ⟨out 0 .refl hx,key x hx .refl⟩
theorem Crossed.cyc {gs:Gs}{R ins:List Int}(h:Crossed gs R ins):Cyc (edge gs) R:=by
 obtain ⟨S,hphi,hS,K⟩:=h.S
 obtain ⟨a,b,ha,hb,hne⟩:∃a b,a∈ins/\b∈ins/\a≠b:=by
   have h2:=h.two
   have hn:=h.nd
   match ins,h2,hn with
   | a::b::r,_,hn=>exact ⟨a,b,by simp,by simp,λe=>(Qnn.mp hn).1 (by simp [e])⟩
 have haR:=((h.isIns.mem a).mp ha).1
 have hbR:=((h.isIns.mem b).mp hb).1
 have rv:∀c∈ins,RvP (edge gs) (λx=>x∈R/\x≠c) c:=λc hc=>by
   obtain ⟨h0,hr⟩:=way_in hphi hS K h.isIns hc
   exact ⟨λhh=>hh.2 (h0 hh.1),hr.weak λb hb hh=>hh.2 (hb hh.1)⟩
 exact Qn7 ⟨⟨a,haR⟩,λx hx y hy=>K.inside hx hy⟩ haR hbR hne (rv a ha) (rv b hb)
theorem Xr.nx {rs:List Rw}(hok:Qal rs){x:Int}(h:Xr (rowG rs) x):∃s,s∈(rowZ rs x).nx/\s<rs.length/\0<=s/\Rch (goTo rs) (inR rs []) s x:=by
 obtain ⟨s,e,hs⟩:=h.ring
 obtain ⟨⟨h0,r,hr,hn⟩,hi⟩:=(Qbh hok [] x s).mp ⟨e,by simp⟩
 refine ⟨s,?_,hi.1,(Qgd hok hr hn).1,(Qgw hok).mpr hs⟩
 have:rowZ rs x=r:=getD_some hr
 rw [this];exact hn
theorem fwd_lt {rs:List Rw}(h:∀(k:Nat) (r:Rw),rs[k]? = some r->∀b∈r.nx,(k:Int)<b){a b:Int}(e:rowG rs a b):a<b:=by
 obtain ⟨h0,l,h1,h2⟩:=e
 unfold gsOf at h1
 rw [Qaa] at h1
 obtain ⟨r,hr,rfl⟩:=Qad.mp h1
 obtain ⟨z,hz,e⟩:=Qc6.mp h2
 unfold goO at e
 split at e
 . cases e
 . cases e
   have:=h _ r hr _ hz
   exact om226 ‹_› ‹_›
end
section
open PySem
noncomputable def Parted (rs rs':List Rw)(og:List Int):Prop:=∃(ns:List Int) (gs:Gs) (os L:List Int),LvL (gsOf rs) ns/\PS rs (Qdw rs ns) ns gs os []/\LvL gs L/\rs'=told rs gs os L/\og=L.map (osF os)
structure LikeP (rs rs':List Rw)(og:List Int)(o:Int)(r r':Rw):Prop where
 add:r'.add=r.add
 box:r'.box=r.box
 z:r.add=true->r'.z=r.z
 len:r'.nx.length=r.nx.length
 pos:∀(j:Nat) (b:Int),r.nx[j]? = some b->∃b',r'.nx[j]? = some b'/\((b'=rs'.length/\b=rs.length)\/(0<=b'/\b'<rs'.length/\b≠rs.length/\og[b'.toNat]? = some b))
structure PF (rs rs':List Rw)(og:List Int):Prop where
 ok:Qal rs'
 len:og.length=rs'.length
 zero:og[0]? = some 0
 like:∀(k:Nat) (r':Rw),rs'[k]? = some r'->∃o,og[k]? = some o/\0<=o/\o<rs.length/\LikeP rs rs' og o (rowZ rs o) r'
 live:∀i:Int,0<=i->i<rs'.length->Live (rowG rs') i
 acyc:∀L:List Int,(∀y∈L,Live (rowG rs') y)->¬Cyc (rowG rs') L
 twice:∀x,1<og.count x->Xr (rowG rs) x
 same:(∀x,¬Xr (rowG rs) x)->∀ls:List Int,ls.Pairwise (·<=·)->ls.Nodup->(∀x,x∈ls↔Live (rowG rs) x)->og=ls
theorem Qj9:∀{l:List Int} {x:Int},1<l.count x->∃i j:Nat,i≠j/\l[i]? = some x/\l[j]? = some x
 | [],x,h=>by simp at h
 | a::l,x,h=>by
   rw [List.count_cons] at h
   by_cases e:a=x
   . subst e
     have h1:a∈l:=by simpa using h
     refine smG λH_ k_=>?_
     obtain ⟨j,hj⟩:=Qx1 h1
     refine k_ ?_
     clear k_ H_
     exact ⟨0,j+1,by exact om235,rfl,hj⟩
   . have h1:1<l.count x:=by simpa [e] using h
     refine smG λH_ k_=>?_
     obtain ⟨i,j,h2,h3,h4⟩:=Qj9 h1
     refine k_ ?_
     clear k_ H_
     exact ⟨i+1,j+1,by exact om236 ‹_›,h3,h4⟩
theorem Parted.facts {rs rs':List Rw}{og:List Int}(hok:Qal rs)(h:Parted rs rs' og):PF rs rs' og:=by
 refine smG λH_ k_=>?_
 obtain ⟨ns,gs,os,L,hns,p,hL,rfl,rfl⟩:=h
 refine k_ ?_
 clear k_ H_
 refine ⟨Qt7 p hok hL,by rw [Qci,Qab],?_,λk r' hr'=>?_,λi h0 h1=>?_,λL' hL'=>Qob p hL hL',λx hx=>?_,λhno ls h1 h2 h3=>?_⟩
 . rw [Qaa,hL.zero p.rng]
   show some (osF os 0)=_
   rw [p.zero]
 . unfold told at hr'
   rw [Qaa] at hr'
   refine smG λH_ k_=>?_
   obtain ⟨u,hu,rfl⟩:=Qad.mp hr'
   refine k_ ?_
   clear k_ H_
   have hur:=p.rng.live ((hL.mem u).mp (Qcs hu))
   refine smG λH_ k_=>?_
   obtain ⟨l,r,g1,g2,g3,g4,g5,g6,g7⟩:=p.row' hur
   refine k_ ?_
   clear k_ H_
   refine ⟨osF os u,by rw [Qaa,hu];rfl,g7,g6,⟨Qof _ _,Qoe _ _,λhz=>tRw_z hz _,?_,λj b hb=>?_⟩⟩
   . rw [Qgj p hur g1,Qab,g3,g5]
   . have:=Qrx p hL hu hb
     rw [Qci];exact this
 . rw [Qci] at h1
   exact Qn9 p hL ⟨h0,h1⟩
 . refine smG λH_ k_=>?_
   obtain ⟨i,j,hij,hi,hj⟩:=Qj9 hx
   refine k_ ?_
   clear k_ H_
   exact Qmw p hL hij hi hj
 . rcases p.same with ⟨x,hx⟩ | ⟨e1,e2⟩
   . exact absurd hx (hno x)
   . subst e1 e2
     rw [Qmy hok hns hL]
     exact Qgs hns.sorted h1 hns.nd h2 λx=>by rw [hns.mem x,h3 x]
end
section
open PySem
variable {hb:Heap} {w:World} {f:Addr} {n:Nat}
inductive Qce (args:List MV)(B:MH)(own:Own)(Q:MV->MH->Own->Prop):Prop
 | mk (h1_:own=[]) (b:Addr) (rs:List Rw) (h2_:args=[.ref b]) (h3_:RowsAt B b rs) (h4_:Qal rs) (h5_:rs.length<=20) (h6_:Six rs) (h7_:∀B':MH,Sub0 B B'->Q .none B' []):Qce args B own Q
inductive Qqh (b:Addr)(g:Addr)(la:Addr)(B3:MH)(i:Nat)(σ':St):Prop
 | mk (B':MH) (h1_:σ'=⟨[(Qa "rows",.ref b),(Qa "goes",.ref g),(Qa "live",.ref la)],B',[]⟩) (h2_:Sub0 B3 B'):Qqh b g la B3 i σ'
theorem Qf4 (F:FnAt hb f Qcd)(hlim:hb.NoLimit)(h1:FnC P w hb "goings" 2 Qeh)(h2:FnC P w hb "live_rows" 3 Qev)(h3:FnC P w hb "rings_of" 2 Qde)(h4:FnC P w hb "crossed_ring" 3 Qc5)
   (glen:Gl hb "len" (.oth (.builtin "len"))) (gm:Gl hb "MOST_TANGLED" (.int 6)):Contract P w hb (.ref f) 4 Qce:=by
 refine Contract.of F hlim (by rintro args B own Q ⟨_,_,_,e,_⟩;subst e;rfl) ?_
 rintro C args B own Q F' ⟨rfl,b,rs,rfl,hR,hok,h20,h6,hQ⟩
 show Sts C (Qan P Qcd) ⟨[(Qa "rows",_)],B,[]⟩ _
 refine Qag ?_
 walk_at "m"
 refine ⟨rfl,b,rs,rfl,hR,hok.2.1,λg B1 s1 hg=>?_⟩
 walk_at "m"
 refine ⟨rfl,b,rs,rfl,hR.mono s1,hok,λla ns B2 s2 hla hso hnd hlen hlive=>?_⟩
 have hlv:∀y,y∈ns↔Live (edge (gsOf rs)) y:=λy=>(hlive y).trans (Qgl hok)
 have hrg:∀x∈ns,0<=x/\x<((gsOf rs).length:Int):=λx hx=>by rw [Qaj];exact Qbr hok ((hlv x).mp hx)
 walk_at "m"
 refine Qao F' (λu_=>rfl) ?_
 walk_at "m"
 refine ⟨rfl,g,la,gsOf rs,ns,rfl,hg.mono s2,hla,by rw [Qaj];exact om228 ‹_›,hnd,by exact om229 ‹_› ‹_›,hrg,λrl ras RL B3 s3 hrl hras hR3=>?_⟩
 try dsimp only [SpK2,SpO2,Qld]
 refine ⟨ras.map MV.ref,(Qqh b g la B3),⟨rl,rfl,.inl hrl⟩,⟨_,.refl _,B3,rfl,Sub0.rfl' _⟩,?_,?_⟩
 . rintro C1 F1 i σ' m ⟨B4,rfl,s4⟩ hm
   rw [Qaa] at hm
   obtain ⟨ra,hra,rfl⟩:=Qad.mp hm
   obtain ⟨R,hRi,hRB⟩:=(hras.mono s4).get hra
   obtain ⟨hring,hR2,hRn⟩:=hR3.ring R (Qcs hRi)
   have hRns:∀x∈R,x∈ns:=λx hx=>hring.sub hx
   have hRl:=Qbs R ns hRn hRns
   walk_at "m"
   rw [Qab]
   refine Qax (λhc=>?_) (λhc=>?_)
   . have hno:=Qkz h6 (λx hx=>(hlv x).mp hx) hring hRn (by exact om230 ‹_›)
     walk_at "m"
     refine ⟨rfl,g,la,ra,gsOf rs,ns,R,rfl,((hg.mono s2).mono s3).mono s4,s4 _ _ (s3 _ _ hla),hRB,by rw [Qaj];exact om228 ‹_›,hrg,hlv,⟨hRn,by exact om231 ‹_› ‹_› ‹_›,hRns,Qr3 hlv hring,λx hx=>hx⟩,λu_ B5 s5=>?_,λra' R' ins B5 s5 u_ u_ u_ hsub u_ hX=>absurd (hX.cyc.congr hsub) hno⟩
     walk_at "m"
     exact ⟨⟨[(Qa "rows",.ref b),(Qa "goes",.ref g),(Qa "live",.ref la)],_,_⟩,Cv.pre [(Qa "ring",_)] rfl,B5,rfl,s4.trans s5⟩
   . walk_at "m"
     exact ⟨⟨[(Qa "rows",.ref b),(Qa "goes",.ref g),(Qa "live",.ref la)],_,_⟩,Cv.pre [(Qa "ring",_)] rfl,B4,rfl,s4⟩
 . rintro C1 F1 σ' ⟨B4,rfl,s4⟩
   walk_at "m"
   exact ⟨_,.refl _,hQ B4 (((s1.trans s2).trans s3).trans s4)⟩
inductive Qd8 (args:List MV)(B:MH)(own:Own)(Q:MV->MH->Own->Prop):Prop
 | mk (h1_:own=[]) (b:Addr) (rs:List Rw) (h2_:args=[.ref b]) (h3_:RowsAt B b rs) (h4_:Qal rs) (h5_:∀(a:Addr) (ns:List Int) (B':MH),Sub0 B B'->ns.Pairwise (·<=·)->ns.Nodup->ns.length<=rs.length->(∀x,x∈ns↔Live (edge (gsOf rs)) x)->Q (.ref a) B' [(a,.list (ns.map MV.int))]):Qd8 args B own Q
theorem Qi5 (F:FnAt hb f Qcp)(hlim:hb.NoLimit)(h2:FnC P w hb "goings" 2 Qeh)(h3:FnC P w hb "come_to" 1 Qdf)(gd:GlD hb)(glen:Gl hb "len" (.oth (.builtin "len")))(gr:Gl hb "range" (.oth (.type "range")))(gli:Gl hb "list" (.oth (.type "list")))(gso:Gl hb "sorted" (.oth (.builtin "sorted"))):Contract P w hb (.ref f) 3 Qd8:=by
 refine Contract.of F hlim (by rintro args B own Q ⟨_,_,_,e,_⟩;subst e;rfl) ?_
 rintro C args B own Q F' ⟨rfl,b,rs,rfl,⟨as,hb1,ht⟩,hok,hQ⟩
 show Sts C (Qan P Qcp) ⟨[(Qa "rows",_)],B,[]⟩ _
 have h20:=hok.2.1
 have h01:=hok.1
 have el:((as.map MV.ref).length:Int)=(rs.length:Nat):=by simp [ht.1]
 refine Qag ?_
 walk_at "m"
 refine Qct F' hlim gd rfl (by walk_at "m compok") (λu_=>rfl) (by decide) ?_
 walk_at "m"
 rw [el]
 refine Qar (Qwu _) (Qay h20) λra=>?_
 refine ⟨Qat rs.length,⟨ra,rfl,.inr (.inr ⟨_,.inl (.head _),by rw [Qej];exact (Qav _).symm⟩)⟩,Qa8 _,by rw [Qai];exact Qay h20,λB2 d hs2 hd hdm hdo=>?_⟩
 have hs3:Sub0 B (setB B2 d (.dict (tks (Qat rs.length)))):=hs2.trans (Sub0.set hd)
 have hd3:(setB B2 d (.dict (tks (Qat rs.length)))) d=some (.dict (tks (Qat rs.length))):=setB_self
 refine Qcx F' (.trans (.frz hdm) Cv.none) ?_
 revert hs3 hd3
 generalize setB B2 d (.dict (tks (Qat rs.length)))=B3
 intro hs3 hd3
 walk_at "m"
 refine ⟨rfl,_,_,rfl,RowsAt.mono ⟨as,hb1,ht⟩ hs3,h20,λg B4 hs4 hg=>?_⟩
 walk_at "m"
 refine ⟨rfl,g,d,0,gsOf rs,_,rfl,hg,hs4 _ _ hd3,by rw [Qaj];exact k300 h20,Qw0 _,by rw [Qaj];exact Qw9.mpr h01,λi hi=>by rw [Qaj];exact inD_nums0.mp hi,λfound hnd hfo hrng e he=>?_⟩
 have hs5:Sub0 B4 (setB B4 e (.dict (tks found))):=Sub0.set he
 have he5:(setB B4 e (.dict (tks found))) e=some (.dict (tks found)):=setB_self
 revert hs5 he5
 generalize setB B4 e (.dict (tks found))=B5
 intro hs5 he5
 have hfl:found.length<=rs.length:=by
   have:=Qaf (gsOf rs).length found hnd hrng
   rw [Qaj] at this;exact this
 walk_at "m"
 refine Qby F' (.inr he5) λl1 hl1=>?_
 rw [Qgp]
 walk_at "m"
 refine Qba F' (.inl (.head _)) λns l2 hp hso hl2=>?_
 refine ⟨_,.own (.cons_cons _ (Qw6 _)),hQ l2 ns _ (hs3.trans (hs4.trans hs5)) hso (hp.nodup_iff.mpr hnd) (by rw [hp.length_eq];exact hfl) λx=>?_⟩
 rw [hp.mem_iff,hfo x]
 exact (Qmb hok ⟨Qw0 _,Qw9.mpr h01⟩).trans (Qgl hok)
noncomputable def PrAt (B:MH)(ts:List Addr)(L:List Int):Prop:=ts.length=L.length/\∀(i:Nat) (t:Addr) (x:Int),ts[i]? = some t->L[i]? = some x->B t=some (.tup [.int x,.int (i:Nat)])
theorem PrAt.mono {B B':MH}{ts:List Addr}{L:List Int}(h:PrAt B ts L)(s:Sub0 B B'):PrAt B' ts L:=⟨h.1,λi t x h1 h2=>s _ _ (h.2 i t x h1 h2)⟩
theorem PrAt.snoc {B:MH}{ts:List Addr}{L:List Int}{t:Addr}{x:Int}(h:PrAt B ts L)(hc:B t=some (.tup [.int x,.int (L.length:Nat)])):PrAt B (ts++[t]) (L++[x]):=by
 refine ⟨by simp [h.1],λi t' x' h1 h2=>?_⟩
 by_cases hi:i<L.length
 . rw [Qhn (by rw [h.1];exact hi)] at h1
   rw [Qhn hi] at h2
   exact h.2 i t' x' h1 h2
 . have e:i=L.length:=by
     have:=(Qck.mp h2).1
     simp at this;exact om227 ‹_› ‹_›
   subst e
   rw [Qlv (by rw [h.1];exact Qwb _),h.1,Nat.sub_self] at h1
   rw [Qlv (Qwb _),Nat.sub_self] at h2
   cases h1;cases h2;exact hc
theorem PrAt.tup {B:MH}{ts:List Addr}{L:List Int}(h:PrAt B ts L)(i:Nat)(t:Addr)(p:Option Int×MV)(h1:ts[i]? = some t)(h2:(frKV 0 L)[i]? = some p):B t=some (.tup [Qau p.1,p.2]):=by
 unfold frKV at h2
 rw [Qaa,List.getElem?_zipIdx] at h2
 cases hx:L[i]? with
 | none=>rw [hx] at h2;cases h2
 | some x =>
   rw [hx] at h2
   cases h2
   rw [h.2 i t x h1 hx]
   simp [Qau]
theorem Qjz {L:List Int}{v:Int}(h:v∈L):dget (frKV 0 L) (some v)=some (.int ((L.idxOf v:Nat):Int)):=by
 have:=Qfg 0 L 0 v
 rw [if_pos h] at this
 unfold frKV
 rw [this];simp
theorem Qnc {ns:List Int}{x:Option Int}(h:∀v,x=some v->v∈ns):dget (dput (frKV 0 ns) none .none) x=some (Qau (Qhb ns x)):=by
 rw [Qo8]
 cases x with
 | none=>rfl
 | some v=>rw [if_neg (by simp)];exact Qjz (h v rfl)
inductive Qf8 (args:List MV)(B:MH)(own:Own)(Q:MV->MH->Own->Prop):Prop
 | mk (h1_:own=[]) (c la pa:Addr) (r:Rw) (l:List (Option Int)) (L:List Int) (h2_:args=[.ref c,.ref la,.ref pa,.int (L.length:Nat)]) (h3_:B c=some (.tup (Rw.mv r))) (h4_:B la=some (.list (l.map Qau))) (h5_:B pa=some (.dict (frKV 0 L))) (h6_:(∀v,some v∈l->v∈L)) (h7_:l.length=r.nx.length) (h8_:∀(a:Addr) (B':MH),Sub0 B B'->B' a=some (.tup (Rw.mv (tRw r (l.map (plc L)))))->Q (.ref a) B' []):Qf8 args B own Q
inductive Qqg (B:MH)(l:List (Option Int))(L:List Int)(j:Nat)(ys:List MV)(B':MH)(own':Own):Prop
 | mk (h1_:own'=[]) (h2_:B'=B) (h3_:ys=((l.take j).map (plc L)).map MV.int):Qqg B l L j ys B' own'
theorem Qu6 {α:Type}{l:List α}(h:l.length=2):∃a b,l=[a,b]:=by
 cases l with
 | nil=>exact absurd h.symm (Qx5 _)
 | cons a l =>
   obtain ⟨b,rfl⟩:=Qzb.mp (Nat.succ.inj h)
   exact ⟨a,b,rfl⟩
theorem Qli (F:FnAt hb f Qfy)(hlim:hb.NoLimit):Contract P w hb (.ref f) (n+1) Qf8:=by
 refine Contract.of F hlim (by rintro args B own Q ⟨_,_,_,_,_,_,_,e,_⟩;subst e;rfl) ?_
 rintro C args B own Q F' ⟨rfl,c,la,pa,r,l,L,rfl,hc,hla,hpa,hvL,hlen,hQ⟩
 show Sts C (Qan P Qfy) ⟨[(Qa "row",_),(Qa "goes",_),(Qa "places",_),(Qa "size",_)],B,[]⟩ _
 have hl2:l.length<=2:=by rw [hlen];exact Qh4 r
 refine Qag ?_
 refine Qef F' (by walk_at "m compok") (λu_=>rfl) (Qco F' rfl rfl (by decide)) ?_
 walk_at "m"
 refine ⟨l.map Qau,(Qqg B l L),⟨la,rfl,.inl hla⟩,by rw [Qab];exact Qdg hl2 (by unfold lim;decide),⟨rfl,rfl,rfl⟩,?_,?_⟩
 . rintro C3 F3 j ys B' own' m ⟨rfl,rfl,rfl⟩ hm
   rw [Qaa] at hm
   obtain ⟨y,hy,rfl⟩:=Qad.mp hm
   have ht:l.take (j+1)=l.take j++[y]:=Qfr hy
   refine Qap ?_
   try dsimp only
   refine Qbz ?_
   cases y with
   | none =>
     show Ex C3 _ ⟨put _ _ MV.none,_,_⟩ _
     walk_at "m cex"
     walk_at "m"
     refine ⟨_,.refl _,rfl,rfl,?_⟩
     rw [ht];simp [plc]
   | some v =>
     have hv:=hvL v (Qcs hy)
     show Ex C3 _ ⟨put _ _ (MV.int v),_,_⟩ _
     walk_at "m cex"
     walk_at "m"
     refine Qb5 (.inr hpa) (m:=.int ((L.idxOf v:Nat):Int)) (Qjz hv) ?_
     refine ⟨_,.refl _,rfl,rfl,?_⟩
     rw [ht];simp [plc]
 rintro ys B' own' ⟨rfl,rfl,rfl⟩ C1 F1 ba hba
 rw [Qab,Qhi]
 walk_at "m"
 cases e:r.add with
 | true =>
   have hn:r.nx.length=1:=by unfold Rw.nx;rw [e];rfl
   obtain ⟨x,rfl⟩:=Qzb.mp (hlen.trans hn)
   rw [Qcu e]
   refine Qb2 (by decide) ?_
   walk_at "m"
   intro t ht
   exact ⟨_,.trans (.frz ht.md) Cv.none,hQ t _ (Sub0.set ht.B) (setB_self.trans (by simp [tRw,e,Rw.mv,Rw.word]))⟩
 | false =>
   have hn:r.nx.length=2:=by unfold Rw.nx;rw [e];rfl
   obtain ⟨x,y,rfl⟩:=Qu6 (hlen.trans hn)
   rw [Qbo e]
   refine Qbl (by decide) ?_
   walk_at "m"
   intro t ht
   exact ⟨_,.trans (.frz ht.md) Cv.none,hQ t _ (Sub0.set ht.B) (setB_self.trans (by simp [tRw,e,Rw.mv,Rw.word]))⟩
end
section
open PySem
variable {hb:Heap} {w:World} {f:Addr} {n:Nat}
noncomputable def crKV (rs:List Rw)(K:List Int):KV:=K.map λx=>(some x,.int ((tang rs x).length:Nat))
theorem Qfi (rs:List Rw)(K:List Int):(crKV rs K).map (·.1)=K.map some:=by simp [crKV,Function.comp_def]
theorem Qmj (rs:List Rw)(K:List Int):(crKV rs K).length=K.length:=by simp [crKV]
theorem Qvn (rs:List Rw)(K:List Int)(x:Int):(dget (crKV rs K) (some x)).isSome=decide (x∈K):=by
 rw [Qe4,Qfi];simp
theorem Qmk {rs:List Rw}{K:List Int}(hn:K.Nodup){x:Int}(h:x∈K):dget (crKV rs K) (some x)=some (.int ((tang rs x).length:Nat)):=by
 obtain ⟨i,hi⟩:=Qx1 h
 refine Qvh (i:=i) (by rw [Qfi];exact Qbf hn) ?_
 unfold crKV;rw [Qaa,hi];rfl
theorem Qsv {rs:List Rw}{K:List Int}(hn:K.Nodup)(x:Int):∃K',dput (crKV rs K) (some x) (.int ((tang rs x).length:Nat))=crKV rs K'/\K'.Nodup/\∀y,y∈K'↔y∈K\/y=x:=by
 by_cases h:x∈K
 . exact ⟨K,Qo7 (Qmk hn h),hn,λy=>⟨.inl,λhy=>hy.elim id λe=>e ▸ h⟩⟩
 . refine ⟨K++[x],?_,?_,λy=>by rw [Qaz,Qbq]⟩
   . rw [Qi2 (by rw [Qfi];simpa using h)];simp [crKV]
   . rw [Qdi]
     exact ⟨hn,by simp,λa ha b hb e=>h (by rw [<-Qbq.mp hb,<-e];exact ha)⟩
theorem Qvm (rs:List Rw)(K:List Int):(crKV rs K).map (λp=>Qau p.1)=K.map MV.int:=Qox (Qfi rs K)
inductive Qb8 (args:List MV)(B:MH)(own:Own)(Q:MV->MH->Own->Prop):Prop
 | mk (h1_:own=[]) (b rb:Addr) (rs:List Rw) (ds:List Addr) (h2_:args=[.ref b,.ref rb]) (h3_:RowsAt B b rs) (h4_:Qal rs) (h5_:B rb=some (.list (ds.map MV.ref))) (h6_:ReachAt B ds rs rs.length) (h7_:∀(d:Addr) (K:List Int) (B':MH),Sub0 B B'->B' d=some (.dict (crKV rs K))->K.Nodup->K.length<=rs.length->(∀x,x∈K↔Xr (rowG rs) x)->Q (.ref d) B' []):Qb8 args B own Q
inductive Qp8 (b:Addr)(rb:Addr)(rs:List Rw)(fd:Addr)(K:List Int)(one:Int)(ta:Addr)(B4:MH)(j:Nat)(σ':St):Prop
 | mk (K':List Int) (h1_:σ'=⟨[(Qa "_law_rows",.ref b),(Qa "_law_reach_here",.ref rb),(Qa "_law_found",.ref fd),(Qa "_law_one",.int one),(Qa "_law_others",.ref ta)],B4,[(fd,.dict (crKV rs K'))]⟩) (h2_:K'.Nodup) (h3_:∀x,x∈K'↔x∈K\/x∈(tang rs one).take j):Qp8 b rb rs fd K one ta B4 j σ'
inductive Qp9 (rs:List Rw)(fd:Addr)(B3:MH)(K:List Int)(one:Int)(ra:Addr)(j:Nat)(ys:List MV)(B':MH)(own':Own):Prop
 | mk (h1_:own'=[(ra,.range rs.length),(fd,.dict (crKV rs K))]) (h2_:B'=B3) (ts:List Int) (h3_:ys=ts.map MV.int) (h4_:ts.Sublist ((Qat rs.length).take j)) (h5_:∀z,z∈ts↔z∈(Qat rs.length).take j/\mut2 rs one z):Qp9 rs fd B3 K one ra j ys B' own'
inductive Qqa (b:Addr)(rb:Addr)(rs:List Rw)(fd:Addr)(found:List Int)(B2:MH)(i:Nat)(σ':St):Prop
 | mk (B':MH) (K:List Int) (h1_:σ'=⟨[(Qa "_law_rows",.ref b),(Qa "_law_reach_here",.ref rb),(Qa "_law_found",.ref fd)],B',[(fd,.dict (crKV rs K))]⟩) (h2_:Sub0 B2 B') (h3_:K.Nodup) (h4_:∀x,x∈K↔∃one∈found.take i,x∈tang rs one):Qqa b rb rs fd found B2 i σ'
theorem Qhf (F:FnAt hb f Qc2)(hlim:hb.NoLimit)(h1:FnC P w hb "_law_onward" 2 Qcy)(h2:FnC P w hb "_law_round" 1 Qdq)(glen:Gl hb "len" (.oth (.builtin "len")))(gr:Gl hb "range" (.oth (.type "range"))):Contract P w hb (.ref f) 3 Qb8:=by
 refine Contract.of F hlim (by rintro args B own Q ⟨_,_,_,_,_,e,_⟩;subst e;rfl) ?_
 rintro C args B own Q F' ⟨rfl,b,rb,rs,ds,rfl,⟨as,hb1,ht⟩,hok,hrb,hds,hQ⟩
 show Sts C (Qan P Qc2) ⟨[(Qa "_law_rows",_),(Qa "_law_reach_here",_)],B,[]⟩ _
 have h300:=hok.2.1
 have el:((as.map MV.ref).length:Int)=(rs.length:Nat):=by simp [ht.1]
 refine Qag ?_
 walk_at "m"
 refine Qcz F' hlim λfd hfd=>?_
 walk_at "m"
 refine Qao F' (λu_=>rfl) ?_
 walk_at "m"
 refine ⟨rfl,b,rs,rfl,⟨as,hb1,ht⟩,hok,λd L ls B1 s1 hd hLn hLl hLm hon=>?_⟩
 walk_at "m"
 refine ⟨rfl,d,L,ls,rs,rfl,hd,hon,hLn,Qdg hLl (k300 hok.2.1),hLm,λa found B2 s2 ha hsub hiff=>?_⟩
 try dsimp only [SpK2,SpO2,Qld]
 have s12:=s1.trans s2
 refine ⟨found.map MV.int,(Qqa b rb rs fd found B2),⟨a,rfl,.inl ha⟩,⟨_,.refl _,B2,[],rfl,Sub0.rfl' _,.nil,by simp⟩,?_,?_⟩
 . rintro C1 F1 i σ' m ⟨B3,K,rfl,s3,hKn,hKm⟩ hm
   rw [Qaa] at hm
   obtain ⟨one,hone,rfl⟩:=Qad.mp hm
   have ho:=(hiff one).mp (Qcs hone)
   have hor:=Qbr hok ((hLm one).mp ho.1)
   have s13:=s12.trans s3
   have hb3:=s13 _ _ hb1
   have hrb3:=s13 _ _ hrb
   have hds3:=hds.mono s13
   obtain ⟨d1,hd1⟩:=Qfe (l:=ds) hor.1 (by rw [hds.1];exact hor.2)
   obtain ⟨f1,hf1B,hf1m⟩:=hds3.2 _ _ hd1
   rw [Qxr hor.1] at hf1m
   walk_at "m"
   refine Qef F1 (by walk_at "m compok") (λu_=>rfl) (Qco F1 rfl rfl (by decide)) ?_
   walk_at "m"
   rw [el]
   refine Qar (Qwu _) (Qay h300) λra=>?_
   rw [Qej]
   refine ⟨_,(Qp9 rs fd B3 K one ra),⟨ra,rfl,.inr (.inr ⟨_,.inl (.head _),(Qav _).symm⟩)⟩,by rw [Qab,Qai];exact Qay h300,⟨rfl,rfl,[],rfl,.slnil,by simp⟩,?_,?_⟩
   . rintro C2 F2 j ys B' own' m ⟨rfl,rfl,ts,rfl,hsl,htm⟩ hm
     rw [Qaa] at hm
     obtain ⟨z,hz,rfl⟩:=Qad.mp hm
     have hzr:=mem_nums0.mp (Qcs hz)
     have htz:=Qak hz
     obtain ⟨d2,hd2⟩:=Qfe (l:=ds) hzr.1 (by rw [hds.1];exact hzr.2)
     obtain ⟨f2,hf2B,hf2m⟩:=hds3.2 _ _ hd2
     rw [Qxr hzr.1] at hf2m
     have skip:¬mut2 rs one z->∀y,y∈ts↔y∈(Qat rs.length).take (j+1)/\mut2 rs one y:=λhno y=>by
       rw [htz,Qaz,htm y,Qbq]
       constructor
       . exact λh=>⟨.inl h.1,h.2⟩
       . rintro ⟨h | rfl,h'⟩
         . exact ⟨h,h'⟩
         . exact absurd h' hno
     refine Qdu ?_
     walk_at "m cex"
     walk_at "m"
     refine Qae (.inr hrb3) hor.1 (m:=.ref d1) (by rw [Qaa,hd1];rfl) ?_
     walk_at "m"
     rw [Qa0]
     refine Qax (λhc=>?_) (λhc=>?_)
     . walk_at "m"
       refine Qae (.inr hrb3) hzr.1 (m:=.ref d2) (by rw [Qaa,hd2];rfl) ?_
       walk_at "m"
       rw [Qa0]
       refine Qax (λhc2=>?_) (λhc2=>?_)
       . walk_at "m"
         refine Qap ?_
         refine Qbz ?_
         walk_at "m"
         refine ⟨_,.refl _,rfl,rfl,ts++[z],by rw [Qd1];rfl,by rw [htz];exact hsl.append (.refl _),λy=>?_⟩
         have hmu:mut2 rs one z:=⟨(Qgw hok).mp ((hf1m z).mp hc),(Qgw hok).mp ((hf2m one).mp hc2)⟩
         rw [htz,Qaz,Qaz,htm y,Qbq]
         constructor
         . rintro (h | rfl)
           . exact ⟨.inl h.1,h.2⟩
           . exact ⟨.inr rfl,hmu⟩
         . rintro ⟨h | h,h'⟩
           . exact .inl ⟨h,h'⟩
           . exact .inr h
       . walk_at "m"
         exact ⟨_,.refl _,rfl,rfl,ts,rfl,by rw [htz];exact hsl.trans (Qwt ..),skip λh=>hc2 ((hf2m one).mpr ((Qgw hok).mpr h.2))⟩
     . walk_at "m"
       exact ⟨_,.refl _,rfl,rfl,ts,rfl,by rw [htz];exact hsl.trans (Qwt ..),skip λh=>hc ((hf1m z).mpr ((Qgw hok).mpr h.1))⟩
   rintro ys B' own' ⟨rfl,rfl,ts,rfl,hsl,htm⟩ C2 F2 ta hta
   rw [Qab,Qai,Qxs (by rw [Qai];exact Qwb _)] at hsl htm
   have hts:ts=tang rs one:=Qt8 hsl htm
   subst hts
   refine Qa2 F2 [(ta,_),(ra,_)] _ (λu_ u_ h=>nomatch h) λB4 s4 g4=>?_
   have q4:=g4 _ (.head _)
   dsimp only at q4
   clear g4 hta
   walk_at "m"
   refine Qao F1 (λu_=>rfl) ?_
   walk_at "m"
   refine ⟨(tang rs one).map MV.int,(Qp8 b rb rs fd K one ta B4),⟨ta,rfl,.inl q4⟩,⟨_,.refl _,K,rfl,hKn,by simp⟩,?_,?_⟩
   . rintro C3 F3 j σ' m ⟨K',rfl,hn',hm'⟩ hm
     rw [Qaa] at hm
     obtain ⟨z,hz,rfl⟩:=Qad.mp hm
     have hzt:=Qcs hz
     obtain ⟨K2,e2,n2,m2⟩:=Qsv (rs:=rs) hn' z
     have etz:tang rs one=tang rs z:=Qt9 (tang_mem.mp hzt).2
     have hK':K'.length<=300:=by
       refine Qdg (Qaf rs.length K' hn' λx hx=>?_) h300
       rcases (hm' x).mp hx with h | h
       . obtain ⟨o,u_,h⟩:=(hKm x).mp h;exact (tang_mem.mp h).1
       . exact (tang_mem.mp (List.mem_of_mem_take h)).1
     walk_at "m"
     refine Qa7 F3 .head (by rw [Qmj];exact Qb9 (n:=300) hK' (by decide)) ?_
     walk_at "m"
     rw [Qab,etz,e2]
     refine ⟨⟨[(Qa "_law_rows",.ref b),(Qa "_law_reach_here",.ref rb),(Qa "_law_found",.ref fd),(Qa "_law_one",.int one),(Qa "_law_others",.ref ta)],_,_⟩,Cv.pre [(Qa "_law_other",_)] rfl,K2,rfl,n2,λx=>?_⟩
     rw [m2 x,hm' x,Qak hz,Qaz,Qbq,or_assoc]
   . rintro C3 F3 σ' ⟨K',rfl,hn',hm'⟩
     rw [Qab,Qhi] at hm'
     walk_at "m"
     refine ⟨⟨[(Qa "_law_rows",.ref b),(Qa "_law_reach_here",.ref rb),(Qa "_law_found",.ref fd)],_,_⟩,Cv.pre [(Qa "_law_one",_),(Qa "_law_others",_)] rfl,B4,K',rfl,s3.trans s4,hn',λx=>?_⟩
     rw [hm' x,hKm x,Qak hone]
     constructor
     . rintro (⟨o,h1,h2⟩ | h)
       . exact ⟨o,Qaq _ h1,h2⟩
       . exact ⟨one,by simp,h⟩
     . rintro ⟨o,h1,h2⟩
       rcases Qaz.mp h1 with h1 | h1
       . exact .inl ⟨o,h1,h2⟩
       . rw [Qbq.mp h1] at h2;exact .inr h2
 . rintro C1 F1 σ' ⟨B3,K,rfl,s3,hKn,hKm⟩
   rw [Qab,Qhi] at hKm
   refine Qcr λhfa u_=>?_
   have hfd0:B3 fd=none:=hfa fd (by simp)
   walk_at "m"
   have hx:∀x,x∈K↔Xr (rowG rs) x:=λx=>by
     rw [hKm x,<-xr_iff hok hLm]
     exact ⟨λ⟨o,h1,h2⟩=>⟨o,(hiff o).mp h1,h2⟩,λ⟨o,h1,h2⟩=>⟨o,(hiff o).mpr h1,h2⟩⟩
   exact ⟨_,.frz (λh=>nomatch h),hQ fd K _ ((s12.trans s3).trans (Sub0.set hfd0)) setB_self hKn (Qaf rs.length K hKn λx hx'=>Qbr hok ((hx x).mp hx').live) hx⟩
inductive Qea (args:List MV)(B:MH)(own:Own)(Q:MV->MH->Own->Prop):Prop
 | mk (h1_:own=[]) (b rb:Addr) (x:Int) (rs:List Rw) (ds:List Addr) (h2_:args=[.ref b,.ref rb,.int x]) (h3_:RowsAt B b rs) (h4_:Qal rs) (h5_:B rb=some (.list (ds.map MV.ref))) (h6_:ReachAt B ds rs rs.length) (h7_:Xr (rowG rs) x) (h8_:∀B':MH,Sub0 B B'->Q (.bool true) B' []):Qea args B own Q
inductive Qp7 (b:Addr)(rb:Addr)(x:Int)(rs:List Rw)(s:Int)(B6:MH)(i:Nat)(σ':St):Prop
 | mk (h1_:σ'=⟨[(Qa "_law_rows",.ref b),(Qa "_law_reach_here",.ref rb),(Qa "_law_row",.int x)],B6,[]⟩) (h2_:s∈(rowZ rs x).nx.drop i):Qp7 b rb x rs s B6 i σ'
theorem Qi7 (F:FnAt hb f Qd3)(hlim:hb.NoLimit)(h1:FnC P w hb "_law_after" 1 Qb7)(glen:Gl hb "len" (.oth (.builtin "len"))):Contract P w hb (.ref f) 2 Qea:=by
 refine Contract.of F hlim (by rintro args B own Q ⟨_,_,_,_,_,_,e,_⟩;subst e;rfl) ?_
 rintro C args B own Q F' ⟨rfl,b,rb,x,rs,ds,rfl,⟨as,hb1,ht⟩,hok,hrb,hds,hX,hQ⟩
 show Sts C (Qan P Qd3) ⟨[(Qa "_law_rows",_),(Qa "_law_reach_here",_),(Qa "_law_row",_)],B,[]⟩ _
 have el:((as.map MV.ref).length:Int)=(rs.length:Nat):=by simp [ht.1]
 have hxr:=Qbr hok hX.live
 obtain ⟨s,hs1,hs2,hs3,hs4⟩:=hX.nx hok
 obtain ⟨c,hc1,hc2⟩:=ht.get (Qik hxr.1 hxr.2)
 refine Qag ?_
 refine Qao F' (λu_=>rfl) ?_
 walk_at "m"
 refine Qae (.inr hb1) hxr.1 (m:=.ref c) (by rw [Qaa,hc1];rfl) ?_
 walk_at "m"
 refine ⟨rfl,c,_,rfl,hc2,λna hna=>?_⟩
 have s6:=Sub0.set (o:=.list ((rowZ rs x).nx.map MV.int)) hna
 have q6:=setB_self (B:=B) (a:=na) (o:=.list ((rowZ rs x).nx.map MV.int))
 generalize setB B na (.list ((rowZ rs x).nx.map MV.int))=B6 at s6 q6 ⊢
 have hb6:=s6 _ _ hb1
 try dsimp only [SpK2,SpO2,Qld]
 refine ⟨(rowZ rs x).nx.map MV.int,(Qp7 b rb x rs s B6),⟨na,rfl,.inl q6⟩,⟨_,.refl _,rfl,by simpa using hs1⟩,?_,?_⟩
 . rintro C1 F1 i σ' m ⟨rfl,hsd⟩ hm
   rw [Qaa] at hm
   obtain ⟨y,hy,rfl⟩:=Qad.mp hm
   have hyn:=Qgd hok (Qik hxr.1 hxr.2) (Qcs hy)
   have hdr:(rowZ rs x).nx.drop i=y::(rowZ rs x).nx.drop (i+1):=by
     obtain ⟨h1,h2⟩:=Qck.mp hy
     rw [Qwn h1,h2]
   rw [hdr] at hsd
   have next:y≠s->s∈(rowZ rs x).nx.drop (i+1):=λhne=>(Qch.mp hsd).resolve_left λe=>hne e.symm
   walk_at "m"
   rw [el]
   refine Qax (λhc=>?_) (λhc=>?_)
   . obtain ⟨d2,hd2⟩:=Qfe (l:=ds) hyn.1 (by rw [hds.1];exact hc)
     obtain ⟨f2,hf2B,hf2m⟩:=hds.2 _ _ hd2
     rw [Qxr hyn.1] at hf2m
     walk_at "m"
     refine Qae (.inr (s6 _ _ hrb)) hyn.1 (m:=.ref d2) (by rw [Qaa,hd2];rfl) ?_
     have hf2B6:=s6 _ _ hf2B
     walk_at "m"
     rw [Qa0]
     refine Qax (λhc2=>?_) (λhc2=>?_)
     . walk_at "m"
       exact ⟨_,.refl _,hQ _ s6⟩
     . walk_at "m"
       exact ⟨⟨[(Qa "_law_rows",.ref b),(Qa "_law_reach_here",.ref rb),(Qa "_law_row",.int x)],_,_⟩,Cv.pre [(Qa "_law_other",_)] rfl,rfl,next λe=>hc2 ((hf2m x).mpr (e ▸ hs4))⟩
   . walk_at "m"
     exact ⟨⟨[(Qa "_law_rows",.ref b),(Qa "_law_reach_here",.ref rb),(Qa "_law_row",.int x)],_,_⟩,Cv.pre [(Qa "_law_other",_)] rfl,rfl,next λe=>hc (e ▸ hs2)⟩
 . rintro C1 F1 σ' ⟨rfl,hsd⟩
   rw [Qab,Qy7] at hsd
   cases hsd
end
section
open PySem
section
variable {C:Cx} {hb:Heap} {prog:Program} {w:World} {sc cs:Scope} {n:Nat} {md:List Addr} {fl:Bool} {l:Loc} {B:MH} {a:Addr} {o:MO} {own:Own}
theorem Qki {e:Expr}{Q:MV->St->Prop}(F:Fx C hb prog w sc n md fl)(ha:a∉md)(h:Ex C e ⟨l,setB B a o,own⟩ (λr σ'=>σ'.B a=some o/\Q r ⟨σ'.loc,unB σ'.B a,(a,o)::σ'.own⟩)):Ex C e ⟨l,B,(a,o)::own⟩ Q:=Tr.borrow F ha h
theorem Qsz {b:List Stmt}{Q:MF->St->Prop}(F:Fx C hb prog w sc n md fl)(new rest:Own)(hm:∀p∈new,p.1∉md)(h:∀B',Sub0 B B'->(∀p∈new,B' p.1=some p.2)->Sts C b ⟨l,B',rest⟩ Q):Sts C b ⟨l,B,new++rest⟩ Q:=Tr.frzs F new rest hm h
end
variable {hb:Heap} {w:World} {f:Addr} {n:Nat}
inductive Qjc (args:List MV)(B:MH)(own:Own)(Q:MV->MH->Own->Prop):Prop
 | mk (h1_:own=[]) (b:Addr) (rs:List Rw) (h2_:args=[.ref b]) (h3_:RowsAt B b rs) (h4_:Qal rs) (h5_:rs.length<=20) (h6_:Six rs) (h7_:∀(t ta oa:Addr) (B':MH) (rs':List Rw) (og:List Int),Sub0 B B'->B' t=some (.tup [.ref ta,.ref oa])->RowsAt B' ta rs'->B' oa=some (.list (og.map MV.int))->Parted rs rs' og->Q (.ref t) B' []):Qjc args B own Q
inductive Qqb (os9:List Int)(L:List Int)(B15:MH)(i:Nat)(ys:List MV)(B':MH)(own':Own):Prop
 | mk (h1_:own'=[]) (h2_:B'=B15) (h3_:ys=((L.take i).map (osF os9)).map MV.int):Qqb os9 L B15 i ys B' own'
inductive Qqc (rs:List Rw)(gs9:Gs)(os9:List Int)(L:List Int)(B13:MH)(i:Nat)(ys:List MV)(B':MH)(own':Own):Prop
 | mk (h1_:own'=[]) (h2_:Sub0 B13 B') (ts:List Addr) (h3_:ys=ts.map MV.ref) (h4_:TupsAt B' ts ((told rs gs9 os9 L).take i)):Qqc rs gs9 os9 L B13 i ys B' own'
inductive Qqd (L:List Int)(B11:MH)(i:Nat)(ys:List MV)(B':MH)(own':Own):Prop
 | mk (h1_:own'=[]) (h2_:Sub0 B11 B') (ts:List Addr) (h3_:ys=ts.map MV.ref) (h4_:PrAt B' ts (L.take i)):Qqd L B11 i ys B' own'
inductive Qqe (rs:List Rw)(oa:Addr)(ns:List Int)(fd:Addr)(B5:MH)(fkv:KV)(i:Nat)(ys:List MV)(B':MH)(own':Own):Prop
 | mk (h1_:own'=[(fd,.dict fkv)]) (h2_:Sub0 (setB B5 oa (.list (ns.map MV.int))) B') (as:List Addr) (h3_:ys=as.map MV.ref) (h4_:LsAt B' as ((Qdw rs ns).take i)) (h5_:oa∉as):Qqe rs oa ns fd B5 fkv i ys B' own'
inductive Qqf (oa:Addr)(ns:List Int)(B2:MH)(i:Nat)(ys:List MV)(B':MH)(own':Own):Prop
 | mk (h1_:own'=[]) (h2_:Sub0 (setB B2 oa (.list (ns.map MV.int))) B') (ts:List Addr) (h3_:ys=ts.map MV.ref) (h4_:PrAt B' ts (ns.take i)):Qqf oa ns B2 i ys B' own'
theorem Qpa (F:FnAt hb f Qiv)(hlim:hb.NoLimit)(h1:FnC P w hb "need_rows" 4 Qeu)(h2:FnC P w hb "need_untangled" 4 Qce)(h3:FnO P w hb "live_rows" 3 Qd8)(h4:FnC P w hb "goings" 2 Qeh)(h5:FnO P w hb "part" 3 Qpw)(h6:FnC P w hb "all_live" 2 Qei)(h7:FnC P w hb "told_row" 1 Qf8)
   (gd:GlD hb) (glen:Gl hb "len" (.oth (.builtin "len"))) (ge:Gl hb "enumerate" (.oth (.type "enumerate"))):Contract P w hb (.ref f) 5 Qjc:=by
 refine Contract.of F hlim (by rintro args B own Q ⟨_,_,_,e,_⟩;subst e;rfl) ?_
 rintro C args B own Q F' ⟨rfl,b,rs,rfl,hR,hok,h20,hsix,hQ⟩
 show Sts C (Qan P Qiv) ⟨[(Qa "rows",_)],B,[]⟩ _
 refine Qag ?_
 walk_at "m"
 refine ⟨rfl,b,rs,rfl,hR,hok,h20,?_⟩
 walk_at "m"
 refine ⟨rfl,b,rs,rfl,hR,hok,h20,hsix,λB1 s1=>?_⟩
 walk_at "m"
 refine ⟨[],[],List.Perm.refl _,rfl,b,rs,rfl,hR.mono s1,hok,λoa ns B2 s2 hso hnd hnl hlv=>?_⟩
 have hLv:LvL (gsOf rs) ns:=⟨hso,hnd,hlv⟩
 try dsimp only [SpK2,SpO2,Qld,Qxv,Qwx]
 walk_at "m"
 refine Qmq λhfa u_=>?_
 have hoa2:B2 oa=none:=hfa oa (by simp)
 clear hfa
 refine Qki F' (λh=>nomatch h) ?_
 refine Qfn F'.ok gd (F'.kind rfl) rfl rfl ?_
 refine Qdt rfl ?_
 refine Qms F' (by walk_at "m compok") (by walk_at "m compok") (by decide) ge (by rfl) (by rfl) (by rfl) (by intro _;rfl) ?_
 walk_at "m"
 refine ⟨oa,ns.map MV.int,(Qqf oa ns B2),rfl,setB_self,by rw [Qab];exact Qay (by exact Qsf ‹_› ‹_›),⟨rfl,Sub0.rfl' _,[],rfl,by simp [PrAt]⟩,?_,?_⟩
 . rintro C1 F1 i ys B' own' m ⟨rfl,s3,ts,rfl,hpr⟩ hm
   rw [Qaa] at hm
   obtain ⟨x,hx,rfl⟩:=Qad.mp hm
   refine Qap ?_
   try dsimp only
   refine Qbz ?_
   walk_at "m cexE"
   walk_at "m"
   intro t ht
   have s4:=Sub0.set (o:=.tup [.int x,.int (i:Nat)]) ht.B
   refine ⟨_,.frz ht.md,rfl,s3.trans s4,ts++[t],by rw [Qd1];rfl,?_⟩
   rw [Qak hx]
   refine (hpr.mono s4).snoc ?_
   rw [Qww,Qw1 (Qxb (Qck.mp hx).1)]
   exact setB_self
 rintro ys B3 own' ⟨rfl,s3,ts,rfl,hpr⟩ la hla
 rw [Qab,Qhi] at hpr
 walk_at "m"
 refine Qfp F' hlim (.inl (.head _)) (hpr.1.trans (Qgm 0 ns).symm) (by rw [Qg9];exact Qbf hnd) (λi t p e1 e2=>.inr (hpr.tup i t p e1 e2)) λfd hfd=>?_
 refine ⟨s3 _ _ setB_self,?_⟩
 try dsimp only
 have t3:Sub0 B2 (unB B3 oa):=Sub0.unB ((Sub0.set hoa2).trans s3) hoa2
 revert t3
 generalize unB B3 oa=B4
 intro t3
 clear hpr hfd hla s3
 refine Qcx F' (.own (.cons_cons _ (.cons_cons _ (Qw6 _)))) ?_
 walk_at "m"
 refine Qnm F' (.tail .head) (by rw [Qgm];exact Qb9 (n:=300) (by exact Qsf ‹_› ‹_›) (by decide)) ?_
 walk_at "m"
 refine ⟨rfl,b,rs,rfl,((hR.mono s1).mono s2).mono t3,hok.2.1,λev B5 s5 hev=>?_⟩
 try dsimp only [SpK2,SpO2,Qld]
 walk_at "m"
 refine Qf7 (Ql8 F' rfl) ?_
 refine Qmq λhfa u_=>?_
 have hoa5:B5 oa=none:=hfa oa (by simp)
 clear hfa
 refine Qki F' (λh=>nomatch h) ?_
 refine Qa9 F' (by walk_at "m compok") (λu_=>rfl) ?_
 walk_at "m"
 have s6:=Sub0.set (o:=.list (ns.map MV.int)) hoa5
 have hev6:=hev.mono s6
 have hfd:∀x:Option Int,(∀v,x=some v->v∈ns)->dget (dput (frKV 0 ns) none .none) x=some (Qau (Qhb ns x)):=λx h=>Qnc h
 generalize dput (frKV 0 ns) none .none=fkv at hfd ⊢
 refine ⟨ns.map MV.int,(Qqe rs oa ns fd B5 fkv),⟨oa,rfl,.inl setB_self⟩,by rw [Qab];exact Qay (by exact Qsf ‹_› ‹_›),⟨rfl,Sub0.rfl' _,[],rfl,by simp [LsAt],by simp⟩,?_,?_⟩
 . rintro C1 F1 i ys B' own' m ⟨rfl,s7,as,rfl,hls,hoas⟩ hm
   rw [Qaa] at hm
   obtain ⟨x,hx,rfl⟩:=Qad.mp hm
   have hxm:=Qcs hx
   have hxr:=Qbr hok ((hlv x).mp hxm)
   obtain ⟨es,c,l,he1,he2,he3,he4⟩:=(hev6.mono s7).get hxr.1 (by rw [Qaj];exact hxr.2)
   have hgl:(gsOf rs).getD x.toNat []=l:=getD_some he4
   have hl2:l.length<=2:=by
     unfold gsOf at he4
     rw [Qaa] at he4
     obtain ⟨r,u_,rfl⟩:=Qad.mp he4
     rw [Qab];exact Qh4 r
   refine Qap ?_
   try dsimp only
   refine Qbz ?_
   walk_at "m cex"
   refine Qa9 F1 (by walk_at "m compok") (λu_=>rfl) ?_
   walk_at "m"
   refine Qae (.inr he1) hxr.1 (m:=.ref c) he2 ?_
   refine ⟨l.map Qau,λj ys B'' own''=>own''=[(fd,.dict fkv)]/\B''=B'/\ys=((l.take j).map (Qhb ns)).map Qau,⟨c,rfl,.inl he3⟩,by rw [Qab];exact Qay (by exact om233 ‹_›),⟨rfl,rfl,rfl⟩,?_,?_⟩
   . rintro C2 F2 j ys B'' own'' m ⟨rfl,rfl,rfl⟩ hm
     rw [Qaa] at hm
     obtain ⟨y,hy,rfl⟩:=Qad.mp hm
     have ht:=Qfr hy
     refine Qap ?_
     try dsimp only
     refine Qbz ?_
     walk_at "m cex"
     walk_at "m"
     refine Qkc (.inl (.head _)) (hfd y λv e=>?_) ?_
     . subst e;exact Qgr hok hLv hxm (hgl ▸ Qcs hy)
     refine ⟨_,.refl _,rfl,rfl,?_⟩
     rw [ht];simp
   . rintro ys B'' own'' ⟨rfl,rfl,rfl⟩ la2 hla2
     rw [Qab,Qhi]
     have s8:=Sub0.set (o:=.list ((l.map (Qhb ns)).map Qau)) hla2.B
     have hne:la2≠oa:=λe=>by
       have h1:=s7 _ _ (setB_self (B:=B5) (a:=oa) (o:=.list (ns.map MV.int)))
       have h2:=hla2.B
       rw [e] at h2
       exact absurd (h1.symm.trans h2) (λh=>nomatch h)
     refine ⟨_,.frz hla2.md,rfl,s7.trans s8,as++[la2],by rw [Qd1];rfl,?_,?_⟩
     . have e1:(Qdw rs ns).take (i+1)=(Qdw rs ns).take i++[l.map (Qhb ns)]:=by rw [Qwy,Qfd hx,hgl];rfl
       rw [e1];exact (hls.mono s8).snoc setB_self
     . intro h
       rcases Qaz.mp h with h | h
       . exact hoas h
       . exact hne (Qbq.mp h).symm
 rintro ys B7 own' ⟨rfl,s7,as,rfl,hls,hoas⟩ ga hga
 rw [Qab,<-Qbg rs ns,Qhi] at hls
 refine ⟨s7 _ _ setB_self,?_⟩
 try dsimp only
 have t7:Sub0 B5 (unB B7 oa):=Sub0.unB ((Sub0.set hoa5).trans s7) hoa5
 have hls8:LsAt (unB B7 oa) as (Qdw rs ns):=⟨hls.1,λi c l e1 e2=>by
   have hne:c≠oa:=λe=>hoas (by rw [<-e];exact Qcs e1)
   rw [Qgb hne];exact hls.2 i c l e1 e2⟩
 revert t7 hls8
 generalize unB B7 oa=B8
 intro t7 hls8
 clear hga s7 hls hoas
 walk_at "m"
 refine ⟨[(oa,.list (ns.map MV.int)),(ga,.list (as.map MV.ref))],[(fd,.dict fkv)],List.Perm.refl _,oa,ga,rs,ns,Qdw rs ns,as,rfl,rfl,hls8,hsix,Qr0 hok h20 hLv,λB9 as9 gs9 os9 s9 hls9 hps9=>?_⟩
 try dsimp only [SpK2,SpO2,Qld,Qwx]
 have hR8:=((((hR.mono s1).mono s2).mono t3).mono s5).mono t7
 refine Qsz F' [(oa,_),(ga,_),(fd,_)] [] (λu_ u_ h=>nomatch h) λB10 s10 g10=>?_
 have qo:=g10 _ (.head _)
 have qg:=g10 _ (.tail _ (.head _))
 dsimp only at qo qg
 clear g10
 have hls10:=hls9.mono s10
 have hR10:=(hR8.mono s9).mono s10
 have sB10:Sub0 B B10:=((((((s1.trans s2).trans t3).trans s5).trans t7).trans s9)).trans s10
 clear hR8 hls9 hls8 s10 s9 t7 s5 t3 s2 s1 hfd hev hev6 s6
 have hsz:=hps9.size
 have hsz9:gs9.length<=220:=by exact Qsh ‹_›
 walk_at "m"
 refine ⟨rfl,ga,gs9,rfl,⟨as9,qg,hls10.1,hls10.2⟩,hps9.rng,by exact Qm3 ‹_›,λla L B11 s11 hla hLs hLn hLl hLm=>?_⟩
 have hL:LvL gs9 L:=⟨hLs,hLn,hLm⟩
 try dsimp only [SpK2,SpO2,Qld]
 walk_at "m"
 refine Qfn F'.ok gd (F'.kind rfl) rfl rfl ?_
 refine Qdt rfl ?_
 refine Qms F' (by walk_at "m compok") (by walk_at "m compok") (by decide) ge (by rfl) (by rfl) (by rfl) (by intro _;rfl) ?_
 walk_at "m"
 refine ⟨la,L.map MV.int,(Qqd L B11),rfl,hla,by rw [Qab];exact Qay (by exact Quy ‹_› ‹_›),⟨rfl,Sub0.rfl' _,[],rfl,by simp [PrAt]⟩,?_,?_⟩
 . rintro C1 F1 i ys B' own' m ⟨rfl,s3,ts,rfl,hpr⟩ hm
   rw [Qaa] at hm
   obtain ⟨x,hx,rfl⟩:=Qad.mp hm
   refine Qap ?_
   try dsimp only
   refine Qbz ?_
   walk_at "m cexE"
   walk_at "m"
   intro t ht
   have s4:=Sub0.set (o:=.tup [.int x,.int (i:Nat)]) ht.B
   refine ⟨_,.frz ht.md,rfl,s3.trans s4,ts++[t],by rw [Qd1];rfl,?_⟩
   rw [Qak hx]
   refine (hpr.mono s4).snoc ?_
   rw [Qww,Qw1 (Qxb (Qck.mp hx).1)]
   exact setB_self
 rintro ys B12 own' ⟨rfl,s12,ts,rfl,hpr⟩ lt hlt
 rw [Qab,Qhi] at hpr
 walk_at "m"
 refine Qfp F' hlim (.inl (.head _)) (hpr.1.trans (Qgm 0 L).symm) (by rw [Qg9];exact Qbf hLn) (λi t p e1 e2=>.inr (hpr.tup i t p e1 e2)) λpd hpd=>?_
 refine Qa2 F' [(pd,_),(lt,_)] [] (λu_ u_ h=>nomatch h) λB13 s13 g13=>?_
 have qp:=g13 _ (.head _)
 dsimp only at qp
 clear g13 hpd hlt hpr
 have s1013:=s11.trans (s12.trans s13)
 replace hla:=s13 _ _ (s12 _ _ hla)
 replace qo:=s1013 _ _ qo
 replace qg:=s1013 _ _ qg
 have hls13:=hls10.mono s1013
 obtain ⟨rows,hrw,htr⟩:=hR10.mono s1013
 have sB13:=sB10.trans s1013
 clear hls10 hR10 sB10 s1013 s11 s12 s13
 walk_at "m"
 refine Qef F' (by walk_at "m compok") (λu_=>rfl) (Qco F' rfl rfl (by decide)) ?_
 walk_at "m"
 refine ⟨L.map MV.int,(Qqc rs gs9 os9 L B13),⟨la,rfl,.inl hla⟩,by rw [Qab];exact Qay (by exact Quy ‹_› ‹_›),⟨rfl,Sub0.rfl' _,[],rfl,by simp [TupsAt]⟩,?_,?_⟩
 . rintro C1 F1 i ys B' own' m ⟨rfl,s14,ts,rfl,hts⟩ hm
   rw [Qaa] at hm
   obtain ⟨u,hu,rfl⟩:=Qad.mp hm
   have hul:=(hLm u).mp (Qcs hu)
   have hur:=hps9.rng.live hul
   obtain ⟨l,r,k1,k2,k3,k4,k5,k6,k7⟩:=hps9.row' hur
   obtain ⟨c,hc1,hc2⟩:=htr.get k2
   obtain ⟨lc,hlc⟩:∃lc,as9[u.toNat]? = some lc:=⟨as9[u.toNat]'(by rw [hls13.1];exact om90 ‹_›),getElem?_pos as9 _ (by rw [hls13.1];exact om90 ‹_›)⟩
   have hlB:=hls13.2 _ lc l hlc k1
   refine Qap ?_
   try dsimp only
   refine Qbz ?_
   walk_at "m cex"
   walk_at "m"
   refine Qae (.inr (s14 _ _ qo)) hur.1 (m:=.int (osF os9 u)) (by rw [Qaa,Qc0 (by rw [hps9.len];exact om90 ‹_›)];rfl) ?_
   walk_at "m"
   refine Qae (.inr (s14 _ _ hrw)) k7 (m:=.ref c) (by rw [Qaa,hc1];rfl) ?_
   walk_at "m"
   refine Qae (.inr (s14 _ _ qg)) hur.1 (m:=.ref lc) (by rw [Qaa,hlc];rfl) ?_
   have hla14:=s14 _ _ hla
   walk_at "m"
   refine ⟨rfl,c,lc,pd,r,l,L,by rw [Qab],s14 _ _ hc2,s14 _ _ hlB,s14 _ _ qp,λv hv=>(hLm v).mpr (hul.step ⟨hur.1,l,k1,hv⟩),k5,λa B15 s15 ha=>?_⟩
   try dsimp only [SpK2,SpO2,Qld]
   refine ⟨_,.refl _,rfl,s14.trans s15,ts++[a],by rw [Qd1];rfl,?_⟩
   have e1:(told rs gs9 os9 L).take (i+1)=(told rs gs9 os9 L).take i++[tRw r (l.map (plc L))]:=by
     rw [Qwy,Ql7 hu]
     unfold Qge
     rw [k3,getD_some k1];rfl
   rw [e1];exact (hts.mono s15).snoc ha
 rintro ys B14 own' ⟨rfl,s14,ts,rfl,hts⟩ C1 F1 ta hta
 rw [Qab,<-Qci rs gs9 os9 L,Qhi] at hts
 refine Qa2 F1 [(ta,_)] [] (λu_ u_ h=>nomatch h) λB15 s15 g15=>?_
 have qt:=g15 _ (.head _)
 dsimp only at qt
 clear g15 hta
 have s1315:=s14.trans s15
 replace hla:=s1315 _ _ hla
 replace qo:=s1315 _ _ qo
 replace hts:=hts.mono s15
 walk_at "m"
 refine Qa9 F' (by walk_at "m compok") (λu_=>rfl) ?_
 walk_at "m"
 refine ⟨L.map MV.int,(Qqb os9 L B15),⟨la,rfl,.inl hla⟩,by rw [Qab];exact Qay (by exact Quy ‹_› ‹_›),⟨rfl,rfl,rfl⟩,?_,?_⟩
 . rintro C2 F2 i ys B' own' m ⟨rfl,rfl,rfl⟩ hm
   rw [Qaa] at hm
   obtain ⟨u,hu,rfl⟩:=Qad.mp hm
   have hur:=hps9.rng.live ((hLm u).mp (Qcs hu))
   refine Qap ?_
   try dsimp only
   refine Qbz ?_
   walk_at "m cex"
   walk_at "m"
   refine Qae (.inr qo) hur.1 (m:=.int (osF os9 u)) (by rw [Qaa,Qc0 (by rw [hps9.len];exact om90 ‹_›)];rfl) ?_
   refine ⟨_,.refl _,rfl,rfl,?_⟩
   rw [Qak hu];simp
 rintro ys B' own' ⟨rfl,rfl,rfl⟩ og hog
 rw [Qab,Qhi]
 walk_at "m"
 intro t ht
 refine Qv2 (.cons ht (.cons hog trivial)) λB16 s16 g16=>?_
 have p1:=g16 _ (.head _)
 have p2:=g16 _ (.tail _ (.head _))
 dsimp only at p1 p2
 exact hQ t ta og B16 _ _ (sB13.trans (s1315.trans s16)) p1 ⟨ts,s16 _ _ qt,hts.mono s16⟩ p2 ⟨ns,gs9,os9,L,hLv,hps9,hL,rfl,rfl⟩
end
section
open PySem
variable {hb:Heap} {w:World} {f:Addr} {n:Nat}
inductive Qd9 (args:List MV)(B:MH)(own:Own)(Q:MV->MH->Own->Prop):Prop
 | mk (h1_:own=[]) (c:Addr) (many:Int) (r:Rw) (h2_:args=[.ref c,.int many]) (h3_:B c=some (.tup (Rw.mv r))) (h4_:Rw.Ok many r) (h5_:∀B':MH,Sub0 B B'->Q (.bool true) B' []):Qd9 args B own Q
theorem Qi6 (F:FnAt hb f Qd2)(hlim:hb.NoLimit)(h1:FnC P w hb "_law_after" 1 Qb7)(glen:Gl hb "len" (.oth (.builtin "len")))(gr:Gl hb "range" (.oth (.type "range")))(g1:Gl hb "isinstance" (.oth (.builtin "isinstance")))(g2:Gl hb "int" (.oth (.type "int")))(g3:Gl hb "bool" (.oth (.type "bool")))(g4:Gl hb "tuple" (.oth (.type "tuple")))(g5:Gl hb "str" (.oth (.type "str"))):Contract P w hb (.ref f) 2 Qd9:=by
 refine Contract.of F hlim (by rintro args B own Q ⟨_,a,b,c,e,_⟩;subst e;rfl) ?_
 rintro C args B own Q F' ⟨rfl,c,many,r,rfl,hB,hok,hQ⟩
 show Sts C (Qan P Qd2) ⟨[(Qa "_law_row",_),(Qa "_law_many",_)],B,[]⟩ _
 have hnr:∀b∈r.nx,0<=b/\b<=many:=λb hb'=>by
   unfold Rw.nx at hb'
   obtain ⟨u_,u_,o3,o4,o5⟩:=hok
   cases e:r.add with
   | true=>rw [e] at hb';simp at hb';subst hb';exact ⟨o3,o4⟩
   | false =>
     rw [e] at hb';simp at hb'
     rcases hb' with rfl | rfl
     . exact o5 e
     . exact ⟨o3,o4⟩
 refine Qag ?_
 walk_at "m"
 refine Qbi (by rfl) ?_
 walk_at "m"
 refine Qla ?_
 walk_at "m"
 intro t ht
 refine Qlw (.inl (.head _)) ?_
 have hw:(decide (Qa "add" = r.word) || decide (Qa "more" = r.word))=true:=by
   cases e:r.add with
   | true=>rw [Qcu e];simp
   | false=>rw [Qbo e];simp
 rw [hw]
 walk_at "m"
 refine Qs1 F' gr (by rfl) (by rfl) (by rfl) (by intro _;rfl) ?_
 walk_at "m"
 refine ⟨1,3,λu_ σ'=>σ'=⟨[(Qa "_law_row",.ref c),(Qa "_law_many",.int many)],B,[]⟩,rfl,⟨by decide,by decide,by decide⟩,⟨_,.own (Qw6 _),rfl⟩,?_,?_⟩
 . rintro C1 F1 i σ' rfl hi
   obtain ⟨z,hz⟩:∃z,(Rw.mv r)[((1:Int)+(i:Nat)).toNat]? = some (.int z):=by
     match i,hi with
     | 0,_=>exact ⟨r.box,rfl⟩
     | 1,_=>exact ⟨r.z,rfl⟩
     | 2,_=>exact ⟨r.y,rfl⟩
   walk_at "m"
   refine Qja (.inr hB) (by exact om238 ‹_›) hz ?_
   walk_at "m"
   refine Qja (.inr hB) (by exact om238 ‹_›) hz ?_
   walk_at "m"
   exact ⟨⟨[(Qa "_law_row",.ref c),(Qa "_law_many",.int many)],_,_⟩,Cv.pre [(Qa "_law_k",_)] rfl,rfl⟩
 rintro C1 F1 σ' rfl
 walk_at "m"
 refine Qao F' (λu_=>rfl) ?_
 walk_at "m"
 refine ⟨rfl,c,_,rfl,hB,λna hna=>?_⟩
 have s6:=Sub0.set (o:=.list (r.nx.map MV.int)) hna
 have q6:=setB_self (B:=B) (a:=na) (o:=.list (r.nx.map MV.int))
 generalize setB B na (.list (r.nx.map MV.int))=B6 at s6 q6 ⊢
 try dsimp only [SpK2,SpO2,Qld]
 refine ⟨r.nx.map MV.int,λi σ'=>σ'=⟨[(Qa "_law_row",.ref c),(Qa "_law_many",.int many)],B6,[]⟩,⟨na,rfl,.inl q6⟩,⟨_,.refl _,rfl⟩,?_,?_⟩
 . rintro C2 F2 i σ' m rfl hm
   rw [Qaa] at hm
   obtain ⟨y,hy,rfl⟩:=Qad.mp hm
   have hyr:=hnr y (Qcs hy)
   walk_at "m"
   refine Qbl (by exact om239 ‹_›) ?_
   walk_at "m"
   refine Qbl (by exact om240 ‹_›) ?_
   walk_at "m"
   exact ⟨⟨[(Qa "_law_row",.ref c),(Qa "_law_many",.int many)],_,_⟩,Cv.pre [(Qa "_law_other",_)] rfl,rfl⟩
 . rintro C2 F2 σ' rfl
   walk_at "m"
   exact ⟨_,.refl _,hQ _ s6⟩
inductive Qf9 (args:List MV)(B:MH)(own:Own)(Q:MV->MH->Own->Prop):Prop
 | mk (h1_:own=[]) (c d oa:Addr) (rs rs':List Rw) (og:List Int) (o:Int) (r r':Rw) (h2_:args=[.ref c,.ref d,.int (rs'.length:Nat),.ref oa,.int (rs.length:Nat)]) (h3_:B c=some (.tup (Rw.mv r'))) (h4_:B d=some (.tup (Rw.mv r))) (h5_:B oa=some (.list (og.map MV.int))) (h6_:LikeP rs rs' og o r r') (h7_:∀B':MH,Sub0 B B'->Q (.bool true) B' []):Qf9 args B own Q
theorem Qlk (F:FnAt hb f Qf0)(hlim:hb.NoLimit)(h1:FnC P w hb "_law_after" 1 Qb7)(glen:Gl hb "len" (.oth (.builtin "len")))(gr:Gl hb "range" (.oth (.type "range"))):Contract P w hb (.ref f) 2 Qf9:=by
 refine Contract.of F hlim (by rintro args B own Q ⟨_,_,_,_,_,_,_,_,_,_,e,_⟩;subst e;rfl) ?_
 rintro C args B own Q F' ⟨rfl,c,d,oa,rs,rs',og,o,r,r',rfl,hc,hd,hoa,hl,hQ⟩
 show Sts C (Qan P Qf0) ⟨[(Qa "_law_row",_),(Qa "_law_old",_),(Qa "_law_many",_),(Qa "_law_origins",_),(Qa "_law_last",_)],B,[]⟩ _
 have hwd:r'.word=r.word:=by unfold Rw.word;rw [hl.add]
 refine Qag ?_
 refine Qmn (Q:=λfl σ'=>fl=.next/\σ'=⟨[(Qa "_law_row",.ref c),(Qa "_law_old",.ref d),(Qa "_law_many",.int (rs'.length:Nat)),(Qa "_law_origins",.ref oa),(Qa "_law_last",.int (rs.length:Nat))],B,[]⟩) ?_ ?_
 . walk_at "m"
   refine Qrl ?_
   walk_at "m"
   refine Qbi hwd ?_
   walk_at "m"
   refine Qbi hl.box ?_
   walk_at "m"
   cases e:r'.add with
   | true =>
     refine Qb2 (Qcu e) ?_
     walk_at "m"
     refine Qbi (hl.z (hl.add ▸ e)) ?_
     walk_at "m"
     exact ⟨rfl,rfl⟩
   | false =>
     refine Qbl (by rw [Qbo e];exact Qbk (by decide)) ?_
     walk_at "m"
     exact ⟨rfl,rfl⟩
 rintro u_ u_ ⟨rfl,rfl⟩
 try dsimp only
 walk_at "m"
 refine ⟨rfl,c,r',rfl,hc,λna hna=>?_⟩
 have s6:=Sub0.set (o:=.list (r'.nx.map MV.int)) hna
 have q6:=setB_self (B:=B) (a:=na) (o:=.list (r'.nx.map MV.int))
 generalize setB B na (.list (r'.nx.map MV.int))=B6 at s6 q6 ⊢
 try dsimp only [SpK2,SpO2,Qld]
 walk_at "m"
 refine ⟨rfl,d,r,rfl,s6 _ _ hd,λnb hnb=>?_⟩
 have s7:=Sub0.set (o:=.list (r.nx.map MV.int)) hnb
 have q7:=setB_self (B:=B6) (a:=nb) (o:=.list (r.nx.map MV.int))
 generalize setB B6 nb (.list (r.nx.map MV.int))=B7 at s7 q7 ⊢
 replace q6:=s7 _ _ q6
 have hoa7:=s7 _ _ (s6 _ _ hoa)
 try dsimp only [SpK2,SpO2,Qld]
 walk_at "m"
 refine Qao F' (λu_=>rfl) ?_
 walk_at "m"
 rw [Qab]
 refine Qar (Qwu _) (by rw [Qej];exact Qay (Qdg (Qh4 r) (by decide))) λra=>?_
 rw [Qej]
 refine ⟨_,λi σ'=>σ'=⟨[(Qa "_law_row",.ref c),(Qa "_law_old",.ref d),(Qa "_law_many",.int (rs'.length:Nat)),(Qa "_law_origins",.ref oa),(Qa "_law_last",.int (rs.length:Nat)),(Qa "_law_after_here",.ref na),(Qa "_law_due",.ref nb)],B7,[(ra,.range r.nx.length)]⟩,⟨ra,rfl,.inr (.inr ⟨_,.inl (.head _),(Qav _).symm⟩)⟩,⟨_,.refl _,rfl⟩,?_,?_⟩
 . rintro C1 F1 i σ' m rfl hm
   rw [Qaa] at hm
   obtain ⟨z,hz,rfl⟩:=Qad.mp hm
   obtain ⟨hi,rfl⟩:=Qdb hz
   obtain ⟨b,hb0⟩:∃b,r.nx[i]? = some b:=⟨_,getElem?_pos r.nx i hi⟩
   obtain ⟨b',hb',hcase⟩:=hl.pos i b hb0
   walk_at "m"
   refine Qae (.inr q6) (by exact om53) (m:=.int b') (Qio hb') ?_
   walk_at "m"
   refine Qae (.inr q7) (by exact om53) (m:=.int b) (Qio hb0) ?_
   walk_at "m"
   refine Qnv ?_
   have e1:(decide (b'=((rs'.length:Nat):Int)) != decide (b=((rs.length:Nat):Int)))=false:=by
     rcases hcase with ⟨h1,h2⟩ | ⟨u_,h1,h2,u_⟩
     . rw [decide_eq_true h1,decide_eq_true h2];rfl
     . rw [decide_eq_false (by exact Qu0 ‹_›),decide_eq_false h2];rfl
   rw [e1]
   walk_at "m"
   refine Qae (.inr q6) (by exact om53) (m:=.int b') (Qio hb') ?_
   walk_at "m"
   refine Qax (λhlt=>?_) (λhlt=>?_)
   . obtain ⟨h0,h1,h2,h3⟩:=hcase.resolve_left λh=>by exact om241 ‹_› ‹_›
     walk_at "m"
     refine Qae (.inr q6) (by exact om53) (m:=.int b') (Qio hb') ?_
     walk_at "m"
     refine Qae (.inr hoa7) h0 (m:=.int b) (by rw [Qaa,h3];rfl) ?_
     walk_at "m"
     refine Qae (.inr q7) (by exact om53) (m:=.int b) (Qio hb0) ?_
     walk_at "m"
     refine Qbi rfl ?_
     walk_at "m"
     exact ⟨⟨[(Qa "_law_row",.ref c),(Qa "_law_old",.ref d),(Qa "_law_many",.int (rs'.length:Nat)),(Qa "_law_origins",.ref oa),(Qa "_law_last",.int (rs.length:Nat)),(Qa "_law_after_here",.ref na),(Qa "_law_due",.ref nb)],_,_⟩,Cv.pre [(Qa "_law_k",_)] rfl,rfl⟩
   . walk_at "m"
     exact ⟨⟨[(Qa "_law_row",.ref c),(Qa "_law_old",.ref d),(Qa "_law_many",.int (rs'.length:Nat)),(Qa "_law_origins",.ref oa),(Qa "_law_last",.int (rs.length:Nat)),(Qa "_law_after_here",.ref na),(Qa "_law_due",.ref nb)],_,_⟩,Cv.pre [(Qa "_law_k",_)] rfl,rfl⟩
 . rintro C1 F1 σ' rfl
   walk_at "m"
   exact ⟨_,.own (Qw6 _),hQ _ (s6.trans s7)⟩
inductive Qbw (args:List MV)(B:MH)(own:Own)(Q:MV->MH->Own->Prop):Prop
 | mk (h1_:own=[]) (b:Addr) (rs:List Rw) (h2_:args=[.ref b]) (h3_:RowsAt B b rs) (h4_:Qal rs) (h5_:(∀i:Int,0<=i->i<rs.length->Live (rowG rs) i)) (h6_:(∀L:List Int,(∀y∈L,Live (rowG rs) y)->¬Cyc (rowG rs) L)) (h7_:∀B':MH,Sub0 B B'->Q (.bool true) B' []):Qbw args B own Q
theorem Qet (F:FnAt hb f Qbt)(hlim:hb.NoLimit)(h1:FnC P w hb "_law_onward" 2 Qcy)(h2:FnC P w hb "_law_round" 1 Qdq)(glen:Gl hb "len" (.oth (.builtin "len"))):Contract P w hb (.ref f) 3 Qbw:=by
 refine Contract.of F hlim (by rintro args B own Q ⟨_,_,_,e,_⟩;subst e;rfl) ?_
 rintro C args B own Q F' ⟨rfl,b,rs,rfl,hR,hok,hlv,hac,hQ⟩
 show Sts C (Qan P Qbt) ⟨[(Qa "_law_rows",_)],B,[]⟩ _
 refine Qag ?_
 obtain ⟨as,hb1,ht⟩:=hR
 walk_at "m"
 refine ⟨rfl,b,rs,rfl,⟨as,hb1,ht⟩,hok,λd L ls B1 s1 hd hLn hLl hLm hon=>?_⟩
 have hb2:=s1 _ _ hb1
 walk_at "m"
 refine Qjj (.inr hd) ?_
 have hLl2:L.length=rs.length:=by
   refine Qxn hLl ?_
   have:=Qbs (Qat rs.length) L (Qa8 _) λx hx=>(hLm x).mpr (let h:=mem_nums0.mp hx;hlv x h.1 h.2)
   rwa [Qai] at this
 walk_at "m"
 have ekl:List.length (bhKV L ls)=L.length:=by have:=congrArg List.length hon.keys;simpa using this
 refine Qb2 (by rw [Qab,ht.1,ekl,hLl2]) ?_
 walk_at "m"
 refine ⟨rfl,d,L,ls,rs,rfl,hd,hon,hLn,by have:=hok.2.1;exact om237 ‹_› ‹_› ‹_›,hLm,λa found B2 s2 ha hsub hiff=>?_⟩
 have hnil:found=[]:=by
   cases found with
   | nil=>rfl
   | cons x r =>
     obtain ⟨h1,h2⟩:=(hiff x).mp (by simp)
     exact absurd ⟨x,h1,h2⟩ (hac L λy hy=>(hLm y).mp hy)
 subst hnil
 try dsimp only [SpK2,SpO2,Qld]
 walk_at "m"
 intro l hl
 refine Qnx F'.ok (.inr ha) (.inl (.head _)) (λm hm=>nomatch hm) ?_
 exact ⟨_,.own (Qw6 _),hQ _ (s1.trans s2)⟩
end
section
open PySem
variable {hb:Heap} {w:World} {f:Addr} {n:Nat}
noncomputable def Qo3 (k:Nat)(r:Rw):Rw:=⟨r.add,r.box,if r.add then r.z else max ((k:Int)+1) r.z,(k:Int)+1⟩
noncomputable def fwdL (rs:List Rw):List Rw:=rs.mapIdx Qo3
theorem Qdp (rs:List Rw):(fwdL rs).length=rs.length:=by simp [fwdL]
theorem Qiz {rs:List Rw}{k:Nat}{r:Rw}(h:rs[k]? = some r):(fwdL rs)[k]? = some (Qo3 k r):=by unfold fwdL;rw [Qwg,h];rfl
theorem Qvc {rs:List Rw}(hok:Qal rs):Qal (fwdL rs):=by
 refine ⟨by rw [Qdp];exact hok.1,by rw [Qdp];exact hok.2.1,λr hr=>?_⟩
 obtain ⟨k,hk⟩:=Qx1 hr
 have hlt:=(Qck.mp hk).1
 rw [Qdp] at hlt
 rw [Qiz (getElem?_pos rs k hlt)] at hk
 cases hk
 obtain ⟨o1,o2,o3,o4,o5⟩:=hok.2.2 _ (Qwp hlt)
 rw [Qdp]
 refine ⟨o1,o2,by show 0<=(k:Int)+1;exact om243 ‹_›,by show (k:Int)+1<=_;exact om244 ‹_›,λe=>?_⟩
 have e:rs[k].add=false:=e
 have:=o5 e
 show 0<=(if rs[k].add then rs[k].z else max ((k:Int)+1) rs[k].z)/\(if rs[k].add then rs[k].z else max ((k:Int)+1) rs[k].z)<=_
 rw [e];simp only [Bool.false_eq_true,if_false];exact om246 ‹_› ‹_›
theorem Qso (rs:List Rw):Six (fwdL rs):=Qua λa b e=>by
 refine fwd_lt (λk r hk b hb=>?_) e
 have hlt:=(Qck.mp hk).1
 rw [Qdp] at hlt
 rw [Qiz (getElem?_pos rs k hlt)] at hk
 cases hk
 unfold Rw.nx Qo3 at hb
 cases e:rs[k].add with
 | true=>rw [e] at hb;simp at hb;exact om242 ‹_›
 | false=>rw [e] at hb;simp at hb;exact om245 ‹_› ‹_›
theorem fwd_mv (k:Nat)(r:Rw):Rw.mv (Qo3 k r)=(Rw.mv r).take 2++[.int (if r.add then r.z else max ((k:Int)+1) r.z),.int ((k:Int)+1)]:=rfl
inductive Qd7 (args:List MV)(B:MH)(own:Own)(Q:MV->MH->Own->Prop):Prop
 | mk (h1_:own=[]) (a:Addr) (ns:List Int) (h2_:args=[.ref a]) (h3_:B a=some (.ro (ns.map MV.int))) (h4_:(∀z∈ns,Bits z)) (h5_:∀(b:Addr) (B':MH) (rs:List Rw),Sub0 B B'->RowsAt B' b rs->Qal rs->rs.length<=20->Six rs->Q (.ref b) B' []):Qd7 args B own Q
inductive Qp4 (rs:List Rw)(B':MH)(i:Nat)(ys:List MV)(B'':MH)(own':Own):Prop
 | mk (h1_:own'=[]) (h2_:Sub0 B'' B'') (ts:List Addr) (h3_:ys=ts.map MV.ref) (h4_:TupsAt B'' ts ((fwdL rs).take i)) (h5_:Sub0 B' B''):Qp4 rs B' i ys B'' own'
inductive Qp5 (rs:List Rw)(K:List Int)(B3:MH)(i:Nat)(ys:List MV)(B':MH)(own':Own):Prop
 | mk (h1_:own'=[]) (h2_:B'=B3) (h3_:ys=((K.take i).map λx=>decide ((6:Int)<((tang rs x).length:Nat))).map MV.bool):Qp5 rs K B3 i ys B' own'
inductive Qp6 (B:MH)(ra:Addr)(i:Nat)(ys:List MV)(B':MH)(own':Own):Prop
 | mk (h1_:own'=[(ra,.range 9)]) (h2_:B'=B) (cs:List Int) (h3_:ys=cs.map MV.int) (h4_:cs.length=i):Qp6 B ra i ys B' own'
theorem Qi4 (F:FnAt hb f Qbm)(hlim:hb.NoLimit)(h1:FnC P w hb "_law_rows_by" 3 Qhk)(h2:FnC P w hb "_law_cell_at" 1 Qmo)(h3:FnC P w hb "_law_ring_by" 1 Qhl)(h5:FnC P w hb "_law_reach" 2 Qdr)(h6:FnC P w hb "_law_crossers" 3 Qb8)
   (gr:Gl hb "range" (.oth (.type "range"))) (ga:Gl hb "any" (.oth (.builtin "any"))) (ge:Gl hb "enumerate" (.oth (.type "enumerate"))) (gm:Gl hb "max" (.oth (.builtin "max"))):Contract P w hb (.ref f) 4 Qd7:=by
 refine Contract.of F hlim (by rintro args B own Q ⟨_,_,_,e,_⟩;subst e;rfl) ?_
 rintro C args B own Q F' ⟨rfl,a,ns,rfl,hB,hbits,hQ⟩
 show Sts C (Qan P Qbm) ⟨[(Qa "_law_script",_)],B,[]⟩ _
 refine Qag ?_
 walk_at "m"
 refine ⟨rfl,_,_,_,rfl,hB,by decide,?_⟩
 walk_at "m"
 refine Qax (λhc=>?_) (λhc=>?_)
 . walk_at "m"
   refine ⟨rfl,_,_,_,rfl,hB,by decide,?_⟩
   walk_at "m"
   refine Qa9 F' (by walk_at "m compok") (λu_=>rfl) ?_
   walk_at "m"
   refine Qar (by decide) (by unfold lim;decide) λra=>?_
   refine ⟨_,(Qp6 B ra),⟨ra,rfl,.inr (.inr ⟨9,.inl (.head _),rfl⟩)⟩,by rw [Qab,Qxx];unfold lim;decide,⟨rfl,rfl,[],rfl,rfl⟩,?_,?_⟩
   . rintro C' F1 i ys B' own' m ⟨rfl,rfl,cs,rfl,hi⟩ hm
     obtain ⟨hib,rfl⟩:=Qft hm
     refine Qap ?_
     try dsimp only
     refine Qbz ?_
     walk_at "m cex"
     walk_at "m"
     refine ⟨rfl,_,_,_,rfl,hB,by exact om247 ‹_› ‹_›,?_⟩
     exact ⟨_,.refl _,rfl,rfl,cs++[Qfj ns (8+i)],by rw [Qd1];rfl,by rw [Qey,hi];rfl⟩
   rintro ys B' own' ⟨rfl,rfl,cs,rfl,hcl⟩ ca hca
   rw [Qab,Qxx] at hcl
   refine Qfm F' [(ca,_),(ra,_)] [] (λu_ u_ h=>nomatch h) λB2 s2 g2=>?_
   have q2:=g2 _ (.head _)
   dsimp only at q2
   clear g2 hca
   walk_at "m"
   have hm:=Qam (Qfj ns 0) (b:=4) (by decide)
   generalize (Qfj ns 0).fmod 4=N at hm ⊢
   obtain ⟨N,rfl⟩:=Qy5 hm.1
   rw [show (2:Int)+(N:Int)=((2+N:Nat):Int) by exact om34]
   refine ⟨rfl,2+N,ca,cs,rfl,by exact om248 ‹_›,by exact om249 ‹_›,q2,by exact om250 ‹_› ‹_›,λb' B3 rs' s3 hR' hok' hl'=>?_⟩
   exact ⟨_,.refl _,hQ b' B3 rs' (s2.trans s3) hR' hok' (by exact om251 ‹_› ‹_›) (Qoi hok' (by exact om252 ‹_› ‹_›))⟩
 walk_at "m"
 refine ⟨rfl,_,_,rfl,hB,hbits,λb B1 rs hok h20 s1 hR hb0=>?_⟩
 replace hB:=s1 _ _ hB
 clear hb0
 walk_at "m"
 refine ⟨rfl,b,rs,rfl,hR,hok,λrb ds B2 s2 hrb hds=>?_⟩
 walk_at "m"
 refine ⟨rfl,b,rb,rs,ds,rfl,hR.mono s2,hok,hrb,hds,λd K B3 s3 hd hKn hKl hKm=>?_⟩
 walk_at "m"
 refine Qa9 F' (by walk_at "m compok") (λu_=>rfl) ?_
 walk_at "m"
 refine ⟨K.map MV.int,(Qp5 rs K B3),⟨d,rfl,.inr (.inl (.inr ⟨_,hd,(Qvm rs K).symm⟩))⟩,by rw [Qab];exact Qay (by exact Qsf ‹_› ‹_›),⟨rfl,rfl,rfl⟩,?_,?_⟩
 . rintro C1 F1 i ys B' own' m ⟨rfl,rfl,rfl⟩ hm
   rw [Qaa] at hm
   obtain ⟨x,hx,rfl⟩:=Qad.mp hm
   refine Qap ?_
   try dsimp only
   refine Qbz ?_
   walk_at "m cex"
   walk_at "m"
   refine Qb5 (.inr hd) (Qmk hKn (Qcs hx)) ?_
   walk_at "m"
   refine ⟨_,.refl _,rfl,rfl,?_⟩
   rw [Qak hx];simp
 rintro ys B' own' ⟨rfl,rfl,rfl⟩ la hla
 rw [Qab,Qhi]
 walk_at "m"
 refine Qrq F' (.inl (.head _)) ?_
 walk_at "m"
 refine if_b (λhc=>?_) (λhc=>?_)
 . obtain ⟨as,hb1,ht⟩:=(hR.mono s2).mono s3
   have hal:as.length<=20:=by rw [ht.1];exact h20
   refine Qkd F' (.own (Qw6 _)) ?_
   refine Qag ?_
   refine Qpv F' (by walk_at "m compok") (by walk_at "m compok") (by decide) ge (by rfl) (by rfl) (by rfl) (by intro _;rfl) (Qco F' rfl rfl (by decide)) ?_
   walk_at "m"
   refine ⟨b,as.map MV.ref,(Qp4 rs B'),rfl,hb1,by rw [Qab];exact Qay (by exact om253 ‹_›),⟨rfl,Sub0.rfl' _,[],rfl,by simp [TupsAt],Sub0.rfl' _⟩,?_,?_⟩
   . rintro C1 F1 i ys B' own' m ⟨rfl,-,ts,rfl,hts,s4⟩ hm
     rw [Qaa] at hm
     obtain ⟨c,hc1,rfl⟩:=Qad.mp hm
     obtain ⟨r,hr,hcB⟩:=ht.geta hc1
     replace hcB:=s4 _ _ hcB
     have fin:∀(z:Int) (c2:Addr),z=(if r.add then r.z else max ((i:Int)+1) r.z)->B' c2=none->TupsAt (setB B' c2 (.tup ((Rw.mv r).take 2++[.int z,.int ((i:Int)+1)]))) (ts++[c2]) ((fwdL rs).take (i+1)):=λz c2 hz h0=>by
       subst hz
       rw [<-fwd_mv]
       have e1:(fwdL rs).take (i+1)=(fwdL rs).take i++[Qo3 i r]:=by rw [Qwy,Qiz hr];rfl
       rw [e1];exact (hts.mono (Sub0.set h0)).snoc setB_self
     refine Qap ?_
     try dsimp only
     refine Qbz ?_
     walk_at "m cexE"
     refine Qmt ?_
     refine Qno F1 (λu_ u_=>rfl) ?_
     walk_at "m"
     refine ⟨c,Rw.mv r,2,rfl,rfl,.inr hcB,by show 2<4;decide,λd hd=>?_⟩
     walk_at "m"
     cases e:r.add with
     | true =>
       refine Qbl (by rw [Qcu e];exact Qbk (by decide)) ?_
       walk_at "m"
       intro t2 ht2
       refine Qic F1 (.inl (.tail _ (.head _))) (.inl (.head _)) (by show 4<=lim;unfold lim;decide) (λh=>nomatch h) (λu_ h=>nomatch h) λu_ u_ c2 hc2=>?_
       exact ⟨_,.trans (.frz hc2.md) Cv.none,rfl,Sub0.rfl' _,ts++[c2],by rw [Qd1];rfl,fin r.z c2 (by rw [e];rfl) hc2.B,s4.trans (Sub0.set hc2.B)⟩
     | false =>
       refine Qb2 (Qbo e) ?_
       walk_at "m"
       intro t2 ht2
       refine Qic F1 (.inl (.tail _ (.head _))) (.inl (.head _)) (by show 4<=lim;unfold lim;decide) (λh=>nomatch h) (λu_ h=>nomatch h) λu_ u_ c2 hc2=>?_
       exact ⟨_,.trans (.frz hc2.md) Cv.none,rfl,Sub0.rfl' _,ts++[c2],by rw [Qd1];rfl,fin (max ((i:Int)+1) r.z) c2 (by rw [e];rfl) hc2.B,s4.trans (Sub0.set hc2.B)⟩
   rintro ys B4 own' ⟨rfl,-,ts,rfl,hts,s4⟩ C1 F1 nb hnb
   rw [Qab,ht.1,<-Qdp rs,Qhi] at hts
   walk_at "m"
   have s5:=Sub0.set (o:=.list (ts.map MV.ref)) hnb.B
   exact ⟨_,.frz (λh=>nomatch h),hQ nb _ (fwdL rs) ((((s1.trans s2).trans s3).trans s4).trans s5) ⟨ts,setB_self,hts.mono s5⟩ (Qvc hok) (by rw [Qdp];exact h20) (Qso rs)⟩
 . walk_at "m"
   refine ⟨_,.own (Qw6 _),hQ b B' rs ((s1.trans s2).trans s3) ((hR.mono s2).mono s3) hok h20 (Qtn hok λx hx=>?_)⟩
   refine Nat.le_of_not_lt λh6=>?_
   have:(K.map λx=>decide ((6:Int)<((tang rs x).length:Nat))).any id=true:=List.any_eq_true.mpr ⟨true,Qc6.mpr ⟨x,(hKm x).mpr hx,decide_eq_true (by exact om254 ‹_›)⟩,rfl⟩
   exact absurd this (by simpa using hc)
end
section
open PySem
theorem Qvv {C:Cx}{σ:St}{b:List Stmt}{Q:MF->St->Prop}{a:Addr}{kvs:KV}(hB:σ.B a=some (.dict kvs))(h:(kvs.map (·.1)).Nodup->Sts C b σ Q):Sts C b σ Q:=λs H=>by
 obtain ⟨hms,vk,⟨p0,w0,hdo⟩,hkv,hlim⟩:=H.B a _ hB
 obtain ⟨u_,u_,u_,u_,u_,u_,u_,u_,hn⟩:=hdo
 exact h (hkv.k ▸ hn) s H
theorem Qod {l:List Int}(h:((tks l).map (·.1)).Nodup):l.Nodup:=by
 have e:(tks l).map (·.1)=l.map some:=by simp [tks,Function.comp_def]
 rw [e] at h
 rw [Qxy,Qz1] at h
 exact Qxy.mpr (h.imp λh e=>h (congrArg some e))
variable {hb:Heap} {w:World} {f:Addr} {n:Nat}
inductive Qeb (args:List MV)(B:MH)(own:Own)(Q:MV->MH->Own->Prop):Prop
 | mk (h1_:own=[]) (b ta oa:Addr) (rs rs':List Rw) (og:List Int) (h2_:args=[.ref b,.ref ta,.ref oa]) (h3_:RowsAt B b rs) (h4_:Qal rs) (h5_:RowsAt B ta rs') (h6_:B oa=some (.list (og.map MV.int))) (h7_:PF rs rs' og) (h8_:∀B':MH,Sub0 B B'->Q (.bool true) B' []):Qeb args B own Q
inductive Qp2 (rs':List Rw)(ra:Addr)(B1:MH)(rb:Addr)(i:Nat)(ys:List MV)(B':MH)(own':Own):Prop
 | mk (h1_:own'=[(rb,.range rs'.length),(ra,.range rs'.length)]) (h2_:Sub0 B1 B') (h3_:ys=(List.replicate i true).map MV.bool):Qp2 rs' ra B1 rb i ys B' own'
inductive Qp3 (B:MH)(b:Addr)(ta:Addr)(oa:Addr)(rs':List Rw)(ra:Addr)(i:Nat)(σ':St):Prop
 | mk (B':MH) (h1_:σ'=⟨[(Qa "_law_rows",.ref b),(Qa "_law_found",.ref ta),(Qa "_law_origins",.ref oa),(Qa "_law_many",.int (rs'.length:Nat))],B',[(ra,.range rs'.length)]⟩) (h2_:Sub0 B B'):Qp3 B b ta oa rs' ra i σ'
theorem Qi9 (F:FnAt hb f Qd5)(hlim:hb.NoLimit)(h1:FnC P w hb "_law_row_is" 2 Qd9)(h2:FnC P w hb "_law_like" 2 Qf9)(glen:Gl hb "len" (.oth (.builtin "len")))(gr:Gl hb "range" (.oth (.type "range")))(gall:Gl hb "all" (.oth (.builtin "all")))(g1:Gl hb "isinstance" (.oth (.builtin "isinstance")))(g2:Gl hb "int" (.oth (.type "int")))(g3:Gl hb "bool" (.oth (.type "bool"))):Contract P w hb (.ref f) 3 Qeb:=by
 refine Contract.of F hlim (by rintro args B own Q ⟨_,_,_,_,_,_,_,e,_⟩;subst e;rfl) ?_
 rintro C args B own Q F' ⟨rfl,b,ta,oa,rs,rs',og,rfl,⟨as,hb1,ht⟩,hok,⟨as',hb2,ht'⟩,hoa,pf,hQ⟩
 show Sts C (Qan P Qd5) ⟨[(Qa "_law_rows",_),(Qa "_law_found",_),(Qa "_law_origins",_)],B,[]⟩ _
 have hl':((as'.map MV.ref).length:Int)=(rs'.length:Nat):=by simp [ht'.1]
 have el:((as.map MV.ref).length:Int)=(rs.length:Nat):=by simp [ht.1]
 have hok1:=pf.ok.1
 have hok2:=pf.ok.2.1
 refine Qag ?_
 walk_at "m"
 rw [hl']
 refine Qbl (by exact om255 ‹_› ‹_›) ?_
 walk_at "m"
 refine Qbi (by rw [Qab,pf.len]) ?_
 walk_at "m"
 refine Qae (.inr hoa) (by decide) (m:=.int 0) (Qio (i:=0) pf.zero) ?_
 walk_at "m"
 refine Qbi rfl ?_
 walk_at "m"
 refine Qao F' (λu_=>rfl) ?_
 walk_at "m"
 refine Qar (Qwu _) (by rw [Qej];exact Qay hok2) λra=>?_
 rw [Qej]
 refine ⟨_,(Qp3 B b ta oa rs' ra),⟨ra,rfl,.inr (.inr ⟨_,.inl (.head _),(Qav _).symm⟩)⟩,⟨_,.refl _,B,rfl,Sub0.rfl' _⟩,?_,?_⟩
 . rintro C1 F1 i σ' m ⟨B1,rfl,s1⟩ hm
   rw [Qaa] at hm
   obtain ⟨z,hz,rfl⟩:=Qad.mp hm
   obtain ⟨hi,rfl⟩:=Qdb hz
   obtain ⟨c',hc1,hc2⟩:=ht'.get (getElem?_pos rs' i hi)
   obtain ⟨o,ho,ho0,ho1,hlk⟩:=pf.like i _ (getElem?_pos rs' i hi)
   walk_at "m"
   refine Qae (.inr (s1 _ _ hoa)) (by exact om53) (m:=.int o) (Qio ho) ?_
   have hb1':=s1 _ _ hb1
   walk_at "m"
   refine Qbl (by exact om256 ‹_›) ?_
   walk_at "m"
   rw [el]
   refine Qbl (by exact om257 ‹_›) ?_
   walk_at "m"
   refine Qae (.inr (s1 _ _ hb2)) (by exact om53) (m:=.ref c') (by rw [Qej,Qaa,hc1];rfl) ?_
   walk_at "m"
   refine ⟨rfl,c',_,_,rfl,s1 _ _ hc2,pf.ok.2.2 _ (Qwp hi),λB2 s2=>?_⟩
   try dsimp only [SpK2,SpO2,Qld]
   walk_at "m"
   exact ⟨⟨[(Qa "_law_rows",.ref b),(Qa "_law_found",.ref ta),(Qa "_law_origins",.ref oa),(Qa "_law_many",.int (rs'.length:Nat))],_,_⟩,Cv.pre [(Qa "_law_k",_),(Qa "_law_origin",_)] rfl,B2,rfl,s1.trans s2⟩
 rintro C1 F1 σ' ⟨B1,rfl,s1⟩
 walk_at "m"
 refine Qa9 F' (by walk_at "m compok") (λu_=>rfl) ?_
 walk_at "m"
 refine Qar (Qwu _) (by rw [Qej];exact Qay hok2) λrb=>?_
 rw [Qej]
 refine ⟨_,(Qp2 rs' ra B1 rb),⟨rb,rfl,.inr (.inr ⟨_,.inl (.head _),(Qav _).symm⟩)⟩,by rw [Qab,Qai];exact Qay hok2,⟨rfl,Sub0.rfl' _,rfl⟩,?_,?_⟩
 . rintro C2 F2 i ys B' own' m ⟨rfl,s2,rfl⟩ hm
   rw [Qaa] at hm
   obtain ⟨z,hz,rfl⟩:=Qad.mp hm
   obtain ⟨hi,rfl⟩:=Qdb hz
   obtain ⟨c',hc1,hc2⟩:=ht'.get (getElem?_pos rs' i hi)
   obtain ⟨o,ho,ho0,ho1,hlk⟩:=pf.like i _ (getElem?_pos rs' i hi)
   obtain ⟨c,hd1,hd2⟩:=ht.get (Qik ho0 ho1)
   have s12:=s1.trans s2
   have hb1':=s12 _ _ hb1
   refine Qap ?_
   try dsimp only
   refine Qbz ?_
   walk_at "m cex"
   walk_at "m"
   refine Qae (.inr (s12 _ _ hb2)) (by exact om53) (m:=.ref c') (by rw [Qej,Qaa,hc1];rfl) ?_
   walk_at "m"
   refine Qae (.inr (s12 _ _ hoa)) (by exact om53) (m:=.int o) (Qio ho) ?_
   walk_at "m"
   refine Qae (.inr hb1') ho0 (m:=.ref c) (by rw [Qaa,hd1];rfl) ?_
   walk_at "m"
   rw [el]
   refine ⟨rfl,c',c,oa,rs,rs',og,o,_,_,rfl,s12 _ _ hc2,s12 _ _ hd2,s12 _ _ hoa,hlk,λB3 s3=>?_⟩
   try dsimp only [SpK2,SpO2,Qld]
   refine ⟨_,.refl _,rfl,s2.trans s3,?_⟩
   rw [List.replicate_succ',Qd1];rfl
 rintro ys B2 own' ⟨rfl,s2,rfl⟩ la hla
 walk_at "m"
 refine Qrr F' (.inl (.head _)) ?_
 have e:∀k:Nat,(List.replicate k true).all id=true:=λk=>by simp
 rw [e]
 exact ⟨_,.own (Qw6 _),hQ _ (s1.trans s2)⟩
inductive S_law (args:List MV)(B:MH)(own:Own)(Q:MV->MH->Own->Prop):Prop
 | mk (h1_:own=[]) (a:Addr) (ns:List Int) (h2_:args=[.ref a]) (h3_:B a=some (.ro (ns.map MV.int))) (h4_:(∀z∈ns,Bits z)) (h5_:∀B' own',Q (.bool true) B' own'):S_law args B own Q
inductive Qp1 (a:Addr)(b:Addr)(l1:Addr)(t:Addr)(rb:Addr)(d:Addr)(B6:MH)(i:Nat)(σ':St):Prop
 | mk (B':MH) (h1_:σ'=⟨[(Qa "_law_script",.ref a),(Qa "_law_rows",.ref b),(Qa "_law_handed",.ref l1),(Qa "_law_found",.ref t),(Qa "_law_reach_here",.ref rb),(Qa "_law_crossers_here",.ref d)],B',[]⟩) (h2_:Sub0 B6 B'):Qp1 a b l1 t rb d B6 i σ'
theorem ct_law (F:FnAt hb f Qsn)(hlim:hb.NoLimit)(h1:FnC P w hb "_law_small_rows_by" 4 Qd7)(h2:FnC P w hb "parted" 5 Qjc)(h3:FnC P w hb "_law_covers" 3 Qeb)(h4:FnC P w hb "_law_reach" 2 Qdr)(h5:FnC P w hb "_law_crossers" 3 Qb8)(h6:FnC P w hb "_law_ringed" 2 Qea)(h7:FnC P w hb "_law_no_two_cross" 3 Qbw)
   (glen:Gl hb "len" (.oth (.builtin "len"))) (gli:Gl hb "list" (.oth (.type "list"))) (gso:Gl hb "sorted" (.oth (.builtin "sorted"))) (g1:Gl hb "isinstance" (.oth (.builtin "isinstance"))) (g4:Gl hb "tuple" (.oth (.type "tuple"))):Contract P w hb (.ref f) 6 S_law:=by
 refine Contract.of F hlim (by rintro args B own Q ⟨_,_,_,e,_⟩;subst e;rfl) ?_
 rintro C args B own Q F' ⟨rfl,a,ns,rfl,hB,hbits,hQ⟩
 show Sts C (Qan P Qsn) ⟨[(Qa "_law_script",_)],B,[]⟩ _
 refine Qag ?_
 walk_at "m"
 refine ⟨rfl,_,_,rfl,hB,hbits,λb B1 rs s1 hR hok h20 h6'=>?_⟩
 obtain ⟨as,hbB,ht⟩:=hR
 walk_at "m"
 intro l1 hl1
 refine Qa2 F' [(l1,_)] [] (λu_ u_ h=>nomatch h) λB2 s2 g2=>?_
 have k1:=g2 _ (.head _)
 dsimp only at k1
 replace hbB:=s2 _ _ hbB
 replace ht:=ht.mono s2
 clear g2 s2 hl1
 walk_at "m"
 refine ⟨rfl,l1,rs,rfl,⟨as,k1,ht⟩,hok,h20,h6',λt ta oa B3 rs' og s3 ht3 hta hoa hpd=>?_⟩
 have pf:=hpd.facts hok
 obtain ⟨ats,hta1,hta2⟩:=hta
 replace k1:=s3 _ _ k1
 replace hbB:=s3 _ _ hbB
 replace ht:=ht.mono s3
 walk_at "m"
 refine Qbi (by rfl) ?_
 walk_at "m"
 refine Qib F'.ok (.inr k1) (.inr hbB) (Qu3 _) ?_
 walk_at "m"
 refine ⟨rfl,b,ta,oa,rs,rs',og,rfl,⟨as,hbB,ht⟩,hok,⟨ats,hta1,hta2⟩,hoa,pf,λB4 s4=>?_⟩
 try dsimp only [SpK2,SpO2,Qld]
 walk_at "m"
 refine ⟨rfl,b,rs,rfl,⟨as,s4 _ _ hbB,ht.mono s4⟩,hok,λrb ds B5 s5 hrb hds=>?_⟩
 try dsimp only [SpK2,SpO2,Qld]
 walk_at "m"
 refine ⟨rfl,b,rb,rs,ds,rfl,⟨as,s5 _ _ (s4 _ _ hbB),(ht.mono s4).mono s5⟩,hok,hrb,hds,λd K B6 s6 hd hKn hKl hKm=>?_⟩
 try dsimp only [SpK2,SpO2,Qld]
 have s46:=s4.trans (s5.trans s6)
 replace hbB:=s46 _ _ hbB
 replace ht:=ht.mono s46
 replace ht3:=s46 _ _ ht3
 replace hta1:=s46 _ _ hta1
 replace hta2:=hta2.mono s46
 replace hoa:=s46 _ _ hoa
 replace hrb:=s6 _ _ hrb
 replace hds:=hds.mono s6
 clear s46 s6 s5 s4 s3 k1
 obtain ⟨d0,hd0⟩:∃d0,ds[0]? = some d0:=⟨ds[0]'(by rw [hds.1];exact hok.1),getElem?_pos ds 0 (by rw [hds.1];exact hok.1)⟩
 obtain ⟨fo,hfoB,hfom⟩:=hds.2 0 d0 hd0
 have ed0:(ds.map MV.ref)[((0:Int)).toNat]? = some (.ref d0):=by
   show (ds.map MV.ref)[0]? = _
   rw [Qaa,hd0];rfl
 walk_at "m"
 refine Qao F' (λu_=>rfl) ?_
 walk_at "m"
 refine Qae (.inr hrb) (by decide) (m:=.ref d0) ed0 ?_
 refine ⟨fo.map MV.int,(Qp1 a b l1 t rb d B6),⟨d0,rfl,.inr (.inl (.inr ⟨_,hfoB,(Qgp fo).symm⟩))⟩,⟨_,.refl _,B6,rfl,Sub0.rfl' _⟩,?_,?_⟩
 . rintro C1 F1 i σ' m ⟨B7,rfl,s7⟩ hm
   rw [Qaa] at hm
   obtain ⟨x,hx,rfl⟩:=Qad.mp hm
   have ht7:=s7 _ _ ht3
   have hoa7:=s7 _ _ hoa
   have hd7:=s7 _ _ hd
   walk_at "m"
   refine Qs8 F1 (by rfl) (by rfl) (by rfl) ?_
   walk_at "m"
   refine ⟨oa,_,rfl,.inr hoa7,?_⟩
   walk_at "m"
   refine ⟨x,og,rfl,.inr hoa7,?_⟩
   walk_at "m"
   refine Qax (λhc=>?_) (λhc=>?_)
   . have hX:=pf.twice x (by exact om258 ‹_›)
     walk_at "m"
     rw [Qvn,decide_eq_true ((hKm x).mpr hX)]
     walk_at "m"
     refine ⟨rfl,b,rb,x,rs,ds,rfl,⟨as,s7 _ _ hbB,ht.mono s7⟩,hok,s7 _ _ hrb,hds.mono s7,hX,λB8 s8=>?_⟩
     try dsimp only [SpK2,SpO2,Qld]
     walk_at "m"
     exact ⟨⟨[(Qa "_law_script",.ref a),(Qa "_law_rows",.ref b),(Qa "_law_handed",.ref l1),(Qa "_law_found",.ref t),(Qa "_law_reach_here",.ref rb),(Qa "_law_crossers_here",.ref d)],_,_⟩,Cv.pre [(Qa "_law_row",_)] rfl,B8,rfl,s7.trans s8⟩
   . walk_at "m"
     exact ⟨⟨[(Qa "_law_script",.ref a),(Qa "_law_rows",.ref b),(Qa "_law_handed",.ref l1),(Qa "_law_found",.ref t),(Qa "_law_reach_here",.ref rb),(Qa "_law_crossers_here",.ref d)],_,_⟩,Cv.pre [(Qa "_law_row",_)] rfl,B7,rfl,s7⟩
 rintro C1 F1 σ' ⟨B7,rfl,s7⟩
 replace ht3:=s7 _ _ ht3
 replace hoa:=s7 _ _ hoa
 replace hd:=s7 _ _ hd
 replace hrb:=s7 _ _ hrb
 replace hfoB:=s7 _ _ hfoB
 replace hta1:=s7 _ _ hta1
 replace hta2:=hta2.mono s7
 refine Qvv hfoB λhfn=>?_
 have hfnd:=Qod hfn
 walk_at "m"
 refine Qcz F' hlim λe he=>?_
 refine Qly F' (.inr hd) (.inl (.head _)) ?_
 walk_at "m"
 refine Qax (λhc=>?_) (λhc=>?_)
 . have hKe:K=[]:=by
     have:=congrArg List.length hc
     rw [Qmj] at this
     exact List.length_eq_zero_iff.mp this
   have hno:∀x,¬Xr (rowG rs) x:=λx hx=>by
     have:=(hKm x).mpr hx
     rw [hKe] at this;cases this
   walk_at "m"
   refine Qae (.inr hrb) (by decide) (m:=.ref d0) ed0 ?_
   walk_at "m"
   refine Qby F' (.inr hfoB) λl2 hl2=>?_
   rw [Qgp]
   walk_at "m"
   refine Qba F' (.inl (.head _)) λns2 l3 hp hso hl3=>?_
   have eog:og=ns2:=pf.same hno ns2 hso (hp.nodup_iff.mpr hfnd) λx=>by
     rw [hp.mem_iff,hfom x];exact Qgl hok
   rw [eog] at hoa
   refine Qib F'.ok (.inr hoa) (.inl (.head _)) (Qu4 _) ?_
   walk_at "m"
   refine ⟨rfl,ta,rs',rfl,⟨ats,hta1,hta2⟩,pf.ok,pf.live,pf.acyc,λB8 s8=>?_⟩
   exact ⟨_,.refl _,hQ _ _⟩
 . walk_at "m"
   refine ⟨rfl,ta,rs',rfl,⟨ats,hta1,hta2⟩,pf.ok,pf.live,pf.acyc,λB8 s8=>?_⟩
   exact ⟨_,.refl _,hQ _ _⟩
end
open PySem PySem.W PyProof.Rows
theorem Qtr {hb:Heap}{mg:Str->Option Value}(G:hb.Ns mainGlobals mg){x:Str}{v:Value}{m:MV}(e:mg x=some v)(hm:VR m v)(hd:(x == ("__debug__" : Str))=false):Gl hb x m :=
 ⟨v,hm,hd,λM A E s env Q hg u_ hk hq=>Calls.loadGlobal_global (by rw [hg];exact G.keeps hk) e hq⟩
theorem Qcq {q:Program}{loose:List Str}{mean:ExcName->Option Value}{hb:Heap}{mg mb:Str->Option Value}(T:Top q loose mean mg mb hb){x:Str}{v:Value}{m:MV}
   (h0:(startupNames++loose++(recsOf q).map (·.name)++(litsOf q).map (·.1)++(clssOf q loose).map (·.name)).contains x=false) (hn:x≠"__name__") (hv:bootBuiltins x=some v) (hm:VR m v) (hd:(x == ("__debug__" : Str))=false):Gl hb x m:=by
 have key:x∉startupNames++loose++(recsOf q).map (·.name)++(litsOf q).map (·.1)++(clssOf q loose).map (·.name):=λh=>by rw [Qzg.mpr h] at h0;cases h0
 simp only [Qaz,not_or] at key
 obtain ⟨⟨⟨⟨k1,k2⟩,k3⟩,k4⟩,k5⟩:=key
 exact ⟨v,hm,hd,λM A E s env Q hg hb' hk hq=>Calls.loadGlobal_builtin (by rw [hg];exact T.g.keeps hk) (T.free x k1 k2 k3 k4 k5) (by rw [hb'];exact T.b.keeps hk) ((T.builtins x hn).trans hv) hq⟩
theorem Qlf {q:Program}{loose:List Str}{mean:ExcName->Option Value}{hb:Heap}{mg mb:Str->Option Value}(T:Top q loose mean mg mb hb){x:Str}{k:Int}(h:valOf q x=some (.int k))(hd:(x == ("__debug__" : Str))=false):Gl hb x (.int k):=by
 obtain ⟨v,h1,h2⟩:=T.const x _ h
 cases h2 hb with
 | int t=>exact Qtr T.g h1 ⟨_,rfl⟩ hd
theorem Qm0 (p:Program)(i:Nat):(Qe1 p i).body=Qan p i:=rfl
theorem Qk0 (p:Program)(i:Nat):(Qe1 p i).scope=Qij p i:=rfl
noncomputable def Ql9 (sc:Scope)(ps:List Str):Bool :=
 !sc.isCoroutine && !sc.isGenerator && decide (sc.kind=.function) && ps.all (λx=>decide (sc.names.lookup x=some .local) || decide (sc.names.lookup x=some .cell)) && decide ps.Nodup && decide (sc.names.map (·.1)).Nodup && sc.names.all (λp=>!decide (p.2=.free))
theorem Qg0 {x:Str}{k:NameKind}:∀{l:List (Str×NameKind)},l.lookup x=some k->(x,k)∈l
 | (y,j)::r,h=>by
   rw [Qwe] at h
   by_cases e:(x == y)=true
   . rw [e] at h;simp at h;subst h;have:=eq_of_beq e;subst this;exact Qwm
   . have e':(x == y)=false:=by simpa using e
     rw [e'] at h;exact Qdx _ (Qg0 h)
theorem len0 {α:Type}{P:List α->Prop}(h:P [])(l:List α)(e:l.length=0):P l:=by
 cases l with
 | nil=>exact h
 | cons a l=>exact absurd e (Qx5 _)
theorem lenS {α:Type}{P:List α->Prop}{k:Nat}(h:∀a l,l.length=k->P (a::l))(l:List α)(e:l.length=k+1):P l:=by
 cases l with
 | nil=>exact absurd e.symm (Qx5 _)
 | cons a l=>exact h a l (Nat.succ.inj e)
theorem len1 {α:Type}{P:List α->Prop}(h:∀a,P [a]):∀l:List α,l.length=1->P l:=lenS λa=>len0 (P:=λl=>P (a::l)) (h a)
theorem len2 {α:Type}{P:List α->Prop}(h:∀a b,P [a,b]):∀l:List α,l.length=2->P l:=lenS λa=>len1 (P:=λl=>P (a::l)) (h a)
theorem len3 {α:Type}{P:List α->Prop}(h:∀a b c,P [a,b,c]):∀l:List α,l.length=3->P l:=lenS λa=>len2 (P:=λl=>P (a::l)) (h a)
theorem len4 {α:Type}{P:List α->Prop}(h:∀a b c d,P [a,b,c,d]):∀l:List α,l.length=4->P l:=lenS λa=>len3 (P:=λl=>P (a::l)) (h a)
theorem len5 {α:Type}{P:List α->Prop}(h:∀a b c d e,P [a,b,c,d,e]):∀l:List α,l.length=5->P l:=lenS λa=>len4 (P:=λl=>P (a::l)) (h a)
structure FnG (hb:Heap)(x:Str)(p:Program)(i:Nat)(f:Addr):Prop where
 g:Gl hb x (.ref f)
 fn:IsFn hb f
 a:FnIs hb f (Qe2 p i) (Qan p i) (Qij p i)
theorem FnG.c {hb:Heap}{x:Str}{p:Program}{i:Nat}{f:Addr}(h:FnG hb x p i f){w:World}{n:Nat}{S:Spec}(c:Contract p w hb (.ref f) n S):FnC p w hb x n S:=⟨⟨f,h.g,h.fn,c⟩⟩
theorem FnG.o {hb:Heap}{x:Str}{p:Program}{i:Nat}{f:Addr}(h:FnG hb x p i f){w:World}{n:Nat}{S:Spec}(c:Contract p w hb (.ref f) n S):FnO p w hb x n S:=⟨h.c c⟩
theorem fnT_of {p q:Program}{loose:List Str}{mean:ExcName->Option Value}{hb:Heap}{mg mb:Str->Option Value}(T:Top q loose mean mg mb hb){i:Nat}{x:Str}{idx:List Nat}(hr:recsOf q=idx.map (Qe1 p))(hi:idx.contains i=true)(hx:(Qe1 p i).name=x)(hd:(x == ("__debug__" : Str))=false)
   (hc:Ql9 (Qij p i) (Qe2 p i)=true)
   (hb':∀(pm code doc:Value) (vals:List Value),vals.length=(Qe2 p i).length->bindArgs (Calls.docDef (Qe1 p i).name (Qe1 p i).params (Qe1 p i).body (Qe1 p i).scope pm code doc) ⟨vals,[]⟩=pure ((Qe2 p i).zip vals)):∃f,mg x=some (.ref f)/\FnG hb x p i f:=by
 obtain ⟨f,o,pm,code,doc,h1,h2,h3,h4⟩:=T.fn (Qe1 p i) (by rw [hr];exact Qzq (Qzg.mp hi))
 rw [hx] at h1
 unfold Ql9 at hc
 simp only [Bool.and_eq_true,Bool.not_eq_true',decide_eq_true_eq,List.all_eq_true,Bool.or_eq_true,decide_eq_false_iff_not] at hc
 obtain ⟨⟨⟨⟨⟨⟨c1,c2⟩,c3⟩,c4⟩,c5⟩,c6⟩,c7⟩:=hc
 refine ⟨f,h1,Qtr T.g h1 rfl hd,⟨⟨_,_,h2,h3⟩⟩,⟨_,_,h2,h3,?_,Qk0 p i,rfl,rfl,rfl,h4,hb' pm code doc⟩,c1,c2,c3,c4,c5,c6,λx hx=>c7 _ (Qg0 hx) rfl⟩
 exact congrArg FuncBody.stmts (Qm0 p i)
local macro_rules | `(tactic| walk_at "fn") => `(tactic| (refine' fnT_of ‹_› ‹_› ?ki ?kx ?kd ?kk ?kb; (case ki => rfl); (case kx => rfl); (case kd => decide); (case kk => decide +kernel); (case kb => intro _ _ _; first | exact len1 (λ_ => rfl) | exact len2 (λ_ _ => rfl) | exact len3 (λ_ _ _ => rfl) | exact len4 (λ_ _ _ _ => rfl) | exact len5 (λ_ _ _ _ _ => rfl) | exact len6 (λ_ _ _ _ _ _ => rfl))))
noncomputable def B1 (l:Addr)(xs:List MV):MH:=λa=>if a=l then some (.ro xs) else none
theorem Qrw {vs:List Value}{ns:List Int}(h:IntsAre vs ns):VsR (ns.map MV.int) vs:=by
 induction h with
 | nil=>exact .nil
 | cons n t _ ih=>exact .cons ⟨t,rfl⟩ ih
theorem Qu9 {p:Program}{w:World}{s₁:Shared}{fa l:Addr}{ns:List Int}{vs:List Value}{n:Nat}{S:Spec}(ct:Contract p w s₁.heap (.ref fa) n S)
   (hS:∀(B:MH) (Q:MV->MH->Own->Prop),B l=some (.ro (ns.map MV.int))->(∀z∈ns,Builtin.Int.intBits z<=2000000)->(∀B' own',Q (.bool true) B' own')->S [.ref l] B [] Q)
   (hn1:callerA.depth+n<recursionLimit) (hn2:callerA.units+3*n+100<cLine)
   (hL:s₁.heap.IsList l vs.toArray) (hI:IntsAre vs ns) (hlen:ns.length<=63) (hlay:(PyData.list (ns.map PyData.int)).layable0=true)
   {Q:Value->Shared->Prop} {E:Value->Shared->Prop}
   (h:∀s',(∀b o,s₁.heap.get? b=some o->s'.heap.get? b=some o)->s'.gens=s₁.gens->s'.os=s₁.os->Q (.bool true) s') :
   wpAny (model p w) callerA ((λf vs=>call f vs) (.ref fa) [.ref l]) Q E s₁:=by
 have hB1:B1 l (ns.map MV.int) l=some (.ro (ns.map MV.int)):=by simp [B1]
 refine wpAny_mono (ct callerA s₁ [.ref l] [.ref l] (B1 l (ns.map MV.int)) [] (λm u_ u_=>m=.bool true) rfl hn1 hn2 (λu_ u_ h=>h) (λa o ha=>?_) (λu_ h=>nomatch h) .nil (λu_ h=>nomatch h) (.cons rfl .nil) (hS _ _ hB1 (λz hz=>Qdg (PyData.bits_item_of_ints hlay hz) (by decide)) λu_ u_=>rfl)) ?_ ?_
 . unfold B1 at ha
   set_option tactic.hygienic true in split at ha
   . rename_i e;subst e;cases ha
     exact ⟨_,hL,by simpa using Qrw hI,by have:lim=1000000:=rfl;simp;exact om301 ‹_› ‹_›⟩
   . cases ha
 . rintro v s' ⟨m,B',own',hv,k,hg,hos,-,-,-,-,-,-,-,rfl⟩
   have:v=.bool true:=hv
   subst this
   exact h s' (λb o hb=>k b o (λh=>nomatch h) hb) hg hos
 . intro _ _ x;exact x.elim
section
set_option tactic.hygienic true
open PySem PySem.W PyProof.Rows
noncomputable def Qvb:List Nat:=[1,2,3,5,6,7,8,10,11,12,13,14,15,16,18,19,21,22,23,24,25,26,27,29,30,31,32,33,34,35,36,37,38,39,40,41,42,43,44,45,46,47,48]
noncomputable def fnsT:List Nat:=[5,6,7,8,12,13,14,15,16,18,19,22,23,24,25,26,27,29,30,31,32,33,34,35,36,37,38,39,40,41,42,43,44,45,46,47,48]
theorem recsT:recsOf (view P Qvb)=fnsT.map (Qe1 P):=by kernel_rfl
theorem leftT:LeftO P (view P Qvb) [] (λs=>recOk [] s) (λu_=>()) (λu_=>()) 3670:=by intro w;kernel_rfl
theorem wsT:PySem.Challenge.rw_uf010028_07.wellSaid=true:=by kernel_rfl
theorem law_holds:PySem.Challenge.rw_uf010028_07.Holds:=by
 w_on
 refine holds_law wsT λsaid=>?_
 refine holds_openX (q:=view P Qvb) (loose:=[]) (Xt:=λs=>recOk [] s) (XP:=λu_ u_=>True) (Yf:=λu_=>()) (Ya:=λu_=>()) (d:=Qe1 P 48) (kwd:=[]) (N:=3670) leftT (λu_ u_=>trivial) (λu_ u_ u_ u_ u_=>trivial) (by kernel_rfl) (by kernel_rfl) (by kernel_rfl) (λs e=>recFacts_of e) (by rfl) (by first | assumption | decide +kernel) (by decide +kernel) ⟨rfl,rfl,rfl,rfl,rfl,by decide +kernel⟩ ?hw ?hc
 (case hw=>w_witness2)
 intro w s₀ s₁ mg mb G y fa o pm cd doc dV kV ho hd hcd hD hmg hg args vals as L hpre hlay hrd hwl hlo
 clear hd hcd hD ho L y
 refine Ground.open G ?_
 intro T B D TE TW
 clear B D TE TW G
 refine smG λH_ k_=>?_
 have hrecs:=recsT
 have glen:Gl s₁.heap "len" (.oth (.builtin "len")):=Qcq T (by decide +kernel) (by decide) (by boot_by_name) rfl (by decide)
 have gmax:Gl s₁.heap "max" (.oth (.builtin "max")):=Qcq T (by decide +kernel) (by decide) (by boot_by_name) rfl (by decide)
 have gmin:Gl s₁.heap "min" (.oth (.builtin "min")):=Qcq T (by decide +kernel) (by decide) (by boot_by_name) rfl (by decide)
 have gisi:Gl s₁.heap "isinstance" (.oth (.builtin "isinstance")):=Qcq T (by decide +kernel) (by decide) (by boot_by_name) rfl (by decide)
 have grange:Gl s₁.heap "range" (.oth (.type "range")):=Qcq T (by decide +kernel) (by decide) (by boot_by_name) rfl (by decide)
 have gint:Gl s₁.heap "int" (.oth (.type "int")):=Qcq T (by decide +kernel) (by decide) (by boot_by_name) rfl (by decide)
 have gbool:Gl s₁.heap "bool" (.oth (.type "bool")):=Qcq T (by decide +kernel) (by decide) (by boot_by_name) rfl (by decide)
 have gli:Gl s₁.heap "list" (.oth (.type "list")):=Qcq T (by decide +kernel) (by decide) (by boot_by_name) rfl (by decide)
 have gtup:Gl s₁.heap "tuple" (.oth (.type "tuple")):=Qcq T (by decide +kernel) (by decide) (by boot_by_name) rfl (by decide)
 have gso:Gl s₁.heap "sorted" (.oth (.builtin "sorted")):=Qcq T (by decide +kernel) (by decide) (by boot_by_name) rfl (by decide)
 have genu:Gl s₁.heap "enumerate" (.oth (.type "enumerate")):=Qcq T (by decide +kernel) (by decide) (by boot_by_name) rfl (by decide)
 have gany:Gl s₁.heap "any" (.oth (.builtin "any")):=Qcq T (by decide +kernel) (by decide) (by boot_by_name) rfl (by decide)
 have gall:Gl s₁.heap "all" (.oth (.builtin "all")):=Qcq T (by decide +kernel) (by decide) (by boot_by_name) rfl (by decide)
 have gstr:Gl s₁.heap "str" (.oth (.type "str")):=Qcq T (by decide +kernel) (by decide) (by boot_by_name) rfl (by decide)
 have gd:GlD s₁.heap:=Qcq T (by decide +kernel) (by decide) (by boot_by_name) rfl (by decide)
 have gmost:Gl s₁.heap "MOST_ROWS" (.int 20):=Qlf T (by kernel_rfl) (by decide)
 have gboxes:Gl s₁.heap "BOXES" (.int 4):=Qlf T (by kernel_rfl) (by decide)
 have gtang:Gl s₁.heap "MOST_TANGLED" (.int 6):=Qlf T (by kernel_rfl) (by decide)
 obtain ⟨f_law_cell_at,-,F_law_cell_at⟩:∃f,mg "_law_cell_at" = some (.ref f)/\FnG s₁.heap "_law_cell_at" P Qg8 f:=by walk_at "fn"
 obtain ⟨f_law_number_by,-,F_law_number_by⟩:∃f,mg "_law_number_by" = some (.ref f)/\FnG s₁.heap "_law_number_by" P Qel f:=by walk_at "fn"
 obtain ⟨f_law_near,-,F_law_near⟩:∃f,mg "_law_near" = some (.ref f)/\FnG s₁.heap "_law_near" P Qo0 f:=by walk_at "fn"
 obtain ⟨f_law_row_by,-,F_law_row_by⟩:∃f,mg "_law_row_by" = some (.ref f)/\FnG s₁.heap "_law_row_by" P Qiu f:=by walk_at "fn"
 obtain ⟨f_law_rows_by,-,F_law_rows_by⟩:∃f,mg "_law_rows_by" = some (.ref f)/\FnG s₁.heap "_law_rows_by" P Qg5 f:=by walk_at "fn"
 obtain ⟨f_is_number,-,F_is_number⟩:∃f,mg "is_number" = some (.ref f)/\FnG s₁.heap "is_number" P Qer f:=by walk_at "fn"
 obtain ⟨f_is_within,-,F_is_within⟩:∃f,mg "is_within" = some (.ref f)/\FnG s₁.heap "is_within" P Qeq f:=by walk_at "fn"
 obtain ⟨f_is_row,-,F_is_row⟩:∃f,mg "is_row" = some (.ref f)/\FnG s₁.heap "is_row" P Qiw f:=by walk_at "fn"
 obtain ⟨f_need_rows,-,F_need_rows⟩:∃f,mg "need_rows" = some (.ref f)/\FnG s₁.heap "need_rows" P Qem f:=by walk_at "fn"
 obtain ⟨f_nexts,-,F_nexts⟩:∃f,mg "nexts" = some (.ref f)/\FnG s₁.heap "nexts" P Qle f:=by walk_at "fn"
 obtain ⟨f_come_to,-,F_come_to⟩:∃f,mg "come_to" = some (.ref f)/\FnG s₁.heap "come_to" P Qg7 f:=by walk_at "fn"
 obtain ⟨f_goings,-,F_goings⟩:∃f,mg "goings" = some (.ref f)/\FnG s₁.heap "goings" P Qix f:=by walk_at "fn"
 obtain ⟨f_live_rows,-,F_live_rows⟩:∃f,mg "live_rows" = some (.ref f)/\FnG s₁.heap "live_rows" P Qcp f:=by walk_at "fn"
 obtain ⟨f_rings_of,-,F_rings_of⟩:∃f,mg "rings_of" = some (.ref f)/\FnG s₁.heap "rings_of" P Qfz f:=by walk_at "fn"
 obtain ⟨f_entries,-,F_entries⟩:∃f,mg "entries" = some (.ref f)/\FnG s₁.heap "entries" P Qg6 f:=by walk_at "fn"
 obtain ⟨f_crossed_ring,-,F_crossed_ring⟩:∃f,mg "crossed_ring" = some (.ref f)/\FnG s₁.heap "crossed_ring" P Qc3 f:=by walk_at "fn"
 obtain ⟨f_all_live,-,F_all_live⟩:∃f,mg "all_live" = some (.ref f)/\FnG s₁.heap "all_live" P Qf2 f:=by walk_at "fn"
 obtain ⟨f_copied,-,F_copied⟩:∃f,mg "copied" = some (.ref f)/\FnG s₁.heap "copied" P Qiy f:=by walk_at "fn"
 obtain ⟨f_part,-,F_part⟩:∃f,mg "part" = some (.ref f)/\FnG s₁.heap "part" P Qoz f:=by walk_at "fn"
 obtain ⟨f_need_untangled,-,F_need_untangled⟩:∃f,mg "need_untangled" = some (.ref f)/\FnG s₁.heap "need_untangled" P Qcd f:=by walk_at "fn"
 obtain ⟨f_told_row,-,F_told_row⟩:∃f,mg "told_row" = some (.ref f)/\FnG s₁.heap "told_row" P Qfy f:=by walk_at "fn"
 obtain ⟨f_parted,-,F_parted⟩:∃f,mg "parted" = some (.ref f)/\FnG s₁.heap "parted" P Qiv f:=by walk_at "fn"
 obtain ⟨f_law_come,-,F_law_come⟩:∃f,mg "_law_come" = some (.ref f)/\FnG s₁.heap "_law_come" P Qf1 f:=by walk_at "fn"
 obtain ⟨f_law_reach,-,F_law_reach⟩:∃f,mg "_law_reach" = some (.ref f)/\FnG s₁.heap "_law_reach" P Qeo f:=by walk_at "fn"
 obtain ⟨f_law_after,-,F_law_after⟩:∃f,mg "_law_after" = some (.ref f)/\FnG s₁.heap "_law_after" P Qep f:=by walk_at "fn"
 obtain ⟨f_law_onward,-,F_law_onward⟩:∃f,mg "_law_onward" = some (.ref f)/\FnG s₁.heap "_law_onward" P Qd4 f:=by walk_at "fn"
 obtain ⟨f_law_round,-,F_law_round⟩:∃f,mg "_law_round" = some (.ref f)/\FnG s₁.heap "_law_round" P Qen f:=by walk_at "fn"
 obtain ⟨f_law_crossers,-,F_law_crossers⟩:∃f,mg "_law_crossers" = some (.ref f)/\FnG s₁.heap "_law_crossers" P Qc2 f:=by walk_at "fn"
 obtain ⟨f_law_ringed,-,F_law_ringed⟩:∃f,mg "_law_ringed" = some (.ref f)/\FnG s₁.heap "_law_ringed" P Qd3 f:=by walk_at "fn"
 obtain ⟨f_law_ring_by,-,F_law_ring_by⟩:∃f,mg "_law_ring_by" = some (.ref f)/\FnG s₁.heap "_law_ring_by" P Qdm f:=by walk_at "fn"
 obtain ⟨f_law_small_rows_by,-,F_law_small_rows_by⟩:∃f,mg "_law_small_rows_by" = some (.ref f)/\FnG s₁.heap "_law_small_rows_by" P Qbm f:=by walk_at "fn"
 obtain ⟨f_law_row_is,-,F_law_row_is⟩:∃f,mg "_law_row_is" = some (.ref f)/\FnG s₁.heap "_law_row_is" P Qd2 f:=by walk_at "fn"
 obtain ⟨f_law_like,-,F_law_like⟩:∃f,mg "_law_like" = some (.ref f)/\FnG s₁.heap "_law_like" P Qf0 f:=by walk_at "fn"
 obtain ⟨f_law_no_two_cross,-,F_law_no_two_cross⟩:∃f,mg "_law_no_two_cross" = some (.ref f)/\FnG s₁.heap "_law_no_two_cross" P Qbt f:=by walk_at "fn"
 obtain ⟨f_law_covers,-,F_law_covers⟩:∃f,mg "_law_covers" = some (.ref f)/\FnG s₁.heap "_law_covers" P Qd5 f:=by walk_at "fn"
 have F_law:FnG s₁.heap "law" P Qsn fa:=by
   obtain ⟨f,e,F⟩:∃f,mg "law" = some (.ref f)/\FnG s₁.heap "law" P Qsn f:=by
     walk_at "fn"
   have e':=hmg.symm.trans e
   cases e'
   exact F
 clear hrecs
 refine k_ ?_
 clear hmg k_ H_
 wrow_args hpre hlay hrd hwl hlo
 have hlim:=T.nolimit
 have c_law_cell_at:=F_law_cell_at.c (Qvl (w:=w) (n:=0) F_law_cell_at.a hlim glen)
 have c_law_number_by:=F_law_number_by.c (Qpb (w:=w) (n:=0) F_law_number_by.a hlim)
 have c_law_near:=F_law_near.c (Qvk (w:=w) (n:=0) F_law_near.a hlim gmax gmin)
 have c_law_row_by:=F_law_row_by.c (Qo9 (w:=w) F_law_row_by.a hlim c_law_near c_law_number_by)
 have c_law_rows_by:=F_law_rows_by.c (Qnd (w:=w) F_law_rows_by.a hlim c_law_cell_at c_law_row_by grange)
 have c_is_number:=F_is_number.c (Qj8 (w:=w) (n:=0) F_is_number.a hlim gisi gint gbool)
 have c_is_within:=F_is_within.c (Qj7 (w:=w) F_is_within.a hlim c_is_number)
 have c_is_row:=F_is_row.c (Qpc (w:=w) F_is_row.a hlim c_is_number c_is_within glen gboxes)
 have c_need_rows:=F_need_rows.c (Qj2 (w:=w) F_need_rows.a hlim c_is_row glen gmost)
 have c_nexts:=F_nexts.c (Qsu (w:=w) (n:=0) F_nexts.a hlim)
 have c_come_to:=F_come_to.c (Qng (w:=w) (n:=0) F_come_to.a hlim glen)
 have c_goings:=F_goings.c (Qpd (w:=w) F_goings.a hlim c_nexts glen gint)
 have c_live_rows:=F_live_rows.c (Qj3 (w:=w) F_live_rows.a hlim c_goings c_come_to gd glen grange gli gso)
 have cO_live_rows:=F_live_rows.o (Qi5 (w:=w) F_live_rows.a hlim c_goings c_come_to gd glen grange gli gso)
 have c_rings_of:=F_rings_of.c (Qlj (w:=w) F_rings_of.a hlim c_come_to gd glen gso)
 have c_entries:=F_entries.c (Qnf (w:=w) (n:=0) F_entries.a hlim gd gli gso)
 have c_crossed_ring:=F_crossed_ring.c (Qhg (w:=w) F_crossed_ring.a hlim c_rings_of c_entries glen gli)
 have c_all_live:=F_all_live.c (Qlm (w:=w) F_all_live.a hlim c_come_to gd glen grange gli gso)
 have c_copied:=F_copied.o (Qpe (w:=w) (n:=0) F_copied.a hlim glen grange genu)
 have c_part:=F_part.o (Qvj (w:=w) F_part.a hlim (FnC.lend c_all_live) (FnC.lend c_rings_of) (FnC.lend c_entries) c_copied glen grange gli)
 have c_need_untangled:=F_need_untangled.c (Qf4 (w:=w) F_need_untangled.a hlim c_goings c_live_rows c_rings_of c_crossed_ring glen gtang)
 have c_told_row:=F_told_row.c (Qli (w:=w) (n:=0) F_told_row.a hlim)
 have c_parted:=F_parted.c (Qpa (w:=w) F_parted.a hlim c_need_rows c_need_untangled cO_live_rows c_goings c_part c_all_live c_told_row gd glen genu)
 have c_law_come:=F_law_come.c (Qll (w:=w) (n:=0) F_law_come.a hlim glen)
 have c_law_reach:=F_law_reach.c (Qj5 (w:=w) F_law_reach.a hlim c_law_come glen grange)
 have c_law_after:=F_law_after.c (Qj6 (w:=w) (n:=0) F_law_after.a hlim)
 have c_law_onward:=F_law_onward.c (Qi8 (w:=w) F_law_onward.a hlim c_law_come c_law_after glen grange)
 have c_law_round:=F_law_round.c (Qj4 (w:=w) (n:=0) F_law_round.a hlim glen gli)
 have c_law_crossers:=F_law_crossers.c (Qhf (w:=w) F_law_crossers.a hlim c_law_onward c_law_round glen grange)
 have c_law_ringed:=F_law_ringed.c (Qi7 (w:=w) F_law_ringed.a hlim c_law_after glen)
 have c_law_ring_by:=F_law_ring_by.c (Qne (w:=w) (n:=0) F_law_ring_by.a hlim grange)
 have c_law_small_rows_by:=F_law_small_rows_by.c (Qi4 (w:=w) F_law_small_rows_by.a hlim c_law_rows_by c_law_cell_at c_law_ring_by c_law_reach c_law_crossers grange gany genu gmax)
 have c_law_row_is:=F_law_row_is.c (Qi6 (w:=w) F_law_row_is.a hlim c_law_after glen grange gisi gint gbool gtup gstr)
 have c_law_like:=F_law_like.c (Qlk (w:=w) F_law_like.a hlim c_law_after glen grange)
 have c_law_no_two_cross:=F_law_no_two_cross.c (Qet (w:=w) F_law_no_two_cross.a hlim c_law_onward c_law_round glen)
 have c_law_covers:=F_law_covers.c (Qi9 (w:=w) F_law_covers.a hlim c_law_row_is c_law_like glen grange gall gisi gint gbool)
 have c_law:=ct_law (w:=w) F_law.a hlim c_law_small_rows_by c_parted c_law_covers c_law_reach c_law_crossers c_law_ringed c_law_no_two_cross glen gli gso gisi gtup
 rename_i hlay0 hr0 hl20 as1 as2 l vs as3 hL0 ra0 w10 r00 hI0 hr00 hc1 hc2
 refine Qu9 c_law (λB Q hB hz hQ=>⟨rfl,l,_,rfl,hB,hz,hQ⟩) (by decide +kernel) (by decide +kernel) hL0 hI0 (by omega) ‹_› (λs' hk hg' hos=>?_)
 exact GoodW.toG ⟨.inl ⟨_,.bool true,[],rfl,λu_=>rfl,.bool true,by wrow_post,unshared_nil⟩,hk,hos,hg'.trans hg⟩
end
end Mine
theorem PySem.Challenge.cw_uf010028_07_holds : PySem.Challenge.rw_uf010028_07.Holds :=
  Mine.law_holds
