import PyProof.Rows.All
import KE.KDictLaws
import KE.KDictOf
import KE.KSortAsk
import PyProof.TupleKey
import PyProof.DictRoadsH
import PyProof.Rows.PlainEq
import PyProof.ZipIter
import PyProof.ListMulRoad
import PyProof.EnumMake
import PyProof.DictWalks
import PyProof.Rows.DictUnroll
import PyProof.ExcInit
import PyProof.ExcBaseAll.ValueError
import PyProof.Rows.TopObj
import PyProof.Rows.Top
import OpenK.KCls
import Wide.All
import Open.Line
import Wide.FinOn
import PySem.Challenge.RW_uf010004_10
set_option Elab.async false
set_option maxRecDepth 100000
set_option genSizeOf false
set_option genSizeOfSpec false
set_option genInjectivity false
set_option linter.all false
set_option tactic.hygienic false
set_option backward.match.sparseCases false
noncomputable section
open PySem renaming Value->aw,wpAny_bind->aJ,wpAny->a3,model->bk,Shared->bp,sizeLine->bz,wpAny_pure->bQ,wpAny_mono->cH,starEach->fL,wpAny_field->gj,callEnvC->gY,wpAny_holding->ir,bootBuiltins->iJ,wpAny_of_eq->lK,wpAny_call_entry->mP,wpAny_standAt->oA,wpAny_seqItems->pS,wpAny_newObj_type->pT,wpAny_setField_rec->qO,wpAny_rule->qP,wpAny_callSpecial?_slot->qQ,typeLookup_type->qR,builtinLookup_eq_fast->sm,wpAny_typeOf->wV,wpAny_attempt->wW,isSubtype_type->wX,wpAny_specialOf->zI,codeAny_mono->zJ,call_meets->zK,wpAny_truthy_bool->Dh,wpAny_onRaise->Di,wpAny_loadPart_at->Dj,wpAny_isInstance->Dk,clipAt_cast->Dm,wpAny_setField->II,wpAny_release->IJ,wpAny_letGo->IK,typeIs_str->IL,entryFor_of_tree->IP,codeAny_of_tree->IS,codeAny_builtin->IT,wpAny_updateSeq_pair->Rz,wpAny_updateSeq->RA,wpAny_pyIter_tuple->RB,wpAny_noted->RC,wpAny_load->RD,wpAny_isSubtype_exc->RE,wpAny_execs_nil->RF,plainId_quiet->RI,isSubtype_stop->RK,execs_cons->RL,arm_evalEach_cons->RM,arm_assign_Name->RN,wpAny_sequenceKey->aiY,wpAny_raiseNew_none->aiZ,wpAny_pyIter_slot->ai0,wpAny_pyIter_list->ai1,wpAny_pyIter_dict->ai2,wpAny_operating->ai3,wpAny_newTuple->ai4,wpAny_list_append_plain->ai5,wpAny_letTemporaryGo->ai6,wpAny_ite_split->ai7,wpAny_Try_except->ai8,tupleKind_room_in1->ai9,slot_list_setitem->aja,slot_dict_getitem->ajb,noFill_tuple_add->ajd,kt_meets_setdefault->aje,entryFor_alias->ajf,callType_codes->ajg,arm_exec_Return->ajh,arm_eval_Subscript->aji,arm_evalThenUse_ListComp->ajj,exec_Assign_Name->ajl
open PySem.Str renaming ofString->aB
open Classical renaming byContradiction->aE
open List renaming mem_singleton->bT,mem_cons_self->b8,mem_cons->cY,length_map->c3,mem_cons_of_mem->da,length_append->dM,all_eq_true->ec,drop->es,map_cons->eE,range->eP,length_cons->gy,not_mem_nil->gH,lookup_cons->gI,mem_of_getElem?->g4,mem_append->hs,map_append->h0,map_map->iv,getElem?_eq_getElem->iw,mem_map->iK,getElem?_eq_none->iL,append_assoc->jM,getElem?_map->ki,size_toArray->k1,length_range->k2,append_nil->lP,getElem?_append_right->mR,mem_append_left->oB,getElem?_set_ne->oC,zip_cons_cons->qU,pairwise_cons->qV,getElem?_append_left->qW,find?_cons->su,mem_append_right->ur,all_cons->uu,getD_eq_getElem?_getD->w6,contains_iff_mem->w7,nodup_cons->zP,map_nil->zQ,map_congr_left->zR,length_singleton->zS,getElem?_set_self->zT,mem_range->Dw,length_take->Dx,length_reverse->Dy,drop_length->Dz,toList_toArray->I0,take_length->I1,nil_append->I2,mem_flatMap->I3,length_replicate->I4,length_drop->I5,getElem_range->I6,any_eq_true->I7,pairwise_singleton->R0,of_mem_zip->R1,nodup_nil->R2,mem_reverse->R3,mem_filterMap->R4,lookup_append->R5,length_mapIdx->R6,getElem?_of_mem->R7,getElem?_mapIdx->R8,cons_append->R9,any_cons->Sa,zip_nil_right->ajP,zip_map->ajQ,set_append_right->ajR,replicate_succ'->ajS,range_succ->ajT,mem_of_mem_take->ajU,mem_of_mem_drop->ajV,mem_filter->ajW,map_take->ajX,map_reverse->ajY,mapM_toArray->ajZ,mapM_cons->aj0,lt_trans->aj1,lt_irrefl->aj2,length_zip->aj3,length_take_le'->aj4,length_filter_le->aj5,length_eq_zero_iff->aj6,head?_drop->aj7,getElem_mem->aj8,getElem_map->aj9,getElem?_reverse->aka,find?_cons_of_pos->akb,filter_cons->akc,ext_getElem?->akd,drop_zero->ake,drop_eq_getElem_cons->akf,drop_drop->akg,dropWhile_cons->akh
open Nat renaming le_trans->b7,le_refl->cI,lt_of_lt_of_le->di,lt_of_le_of_lt->fz,ne_of_lt->fZ,le_add_right->g0,lt_irrefl->hZ,zero_le->iu,lt_succ_self->jK,le_succ->jL,lt_or_ge->kh,zero_add->lM,sub_self->lN,le_antisymm->lO,le_of_ble_eq_true->nx,succ_le_succ->pV,le_of_lt->pW,not_lt->qT,succ_pos->so,lt_succ_of_le->sq,le_of_eq->sr,eq_of_beq_eq_true->uq,succ_ne_self->w0,lt_trans->w1,lt_succ_of_lt->w2,lt_of_lt_of_eq->w3,le_succ_of_le->w4,le_of_not_lt->w5,le_of_lt_succ->zM,add_le_add_left->zN,add_comm->zO,sub_zero->Dq,sub_le->Dr,min_eq_left->Ds,div_add_mod->Dt,add_le_add->Du,add_assoc->Dv,sub_add_cancel->IV,not_lt_zero->IW,lt_of_succ_lt_succ->IX,le_of_succ_le->IY,ble_eq_true_of_le->IZ,mul_comm->RU,min_le_right->RV,le_total->RW,le_of_succ_le_succ->RX,le_add_left->RY,add_sub_cancel_left->RZ,zero_mul->ajz,succ_add_eq_add_succ->ajA,succ_add->ajB,sub_lt->ajC,sub_eq_zero_of_le->ajD,sub_add_eq->ajE,not_succ_le_zero->ajF,not_succ_le_self->ajG,mul_le_mul_right->ajH,mul_le_mul_left->ajI,min_eq_right->ajJ,lt_add_of_pos_right->ajK,le_of_sub_eq_zero->ajL,eq_zero_or_pos->ajM,beq_refl->ajN,add_le_add_right->ajO
open Pure renaming pure->cv
open PySem.Heap renaming get?_push_of_some->ed,get?_push_size->gJ,get?_update_self->uw,size_push->w9,get?_update_other->xa,get?_update_ne->DE
open PySem.Obj renaming mapSeq->gZ,data_mapFields->IU,isFreed_of_fields->RR,cls_mapFields->RS
open Bool renaming and_eq_true->g5,false_ne_true->uy,and_eq_true_iff->xb,eq_false_iff->zY,or_true->akt
open Option renaming map_eq_some_iff->hr,isSome_iff_exists->Dp,map_some->RP,bind_eq_some_iff->RQ,or_none->aju,not_isSome_iff_eq_none->ajv,none_or->ajw,map_map->ajx,map_eq_none_iff->ajy
open Int renaming natCast_nonneg->kj,le_trans->pY,ofNat_lt->qX,not_lt->sv,emod_nonneg->sx,ofNat_le->uv,le_of_lt->w8,sub_sub->zU,lt_of_lt_of_le->zV,emod_lt_of_pos->zW,toNat_lt->DA,not_le->DC,lt_trans->DD,ne_of_gt->I8,min_eq_left->I9,zero_add->Sb,toNat_of_nonneg->Sd,sub_zero->Se,ofNat_sub->Sf,max_eq_right->Sg,add_lt_add_right->Sh,sub_nonpos_of_le->aki,lt_add_one_of_le->akj,add_comm->akk
open Ne renaming symm->lL
open Option.some renaming inj->mQ
open PySem.Value.type renaming inj->nw
open Eq renaming symm->oD
open Prod renaming ext->pU
open List.cons renaming inj->pX
open PySem.Builtin.SmallTypes renaming nextOf->ux
open Prod.mk renaming inj->wZ
open PySem.F renaming cmp_object->zX,slot_zip_next->Ja,slot_tuple_iterator_next->Jb,plainAttrs_list->Jc,slot_list_reversed->RO,slot_tuple_getattribute->Si,sub_str_dict->ajm,slot_tuple_add->ajn,slot_dict_setdefault->ajo,entry_tuple_add->ajp,entry_dict_setdefault->ajq,args_tuple_add_2->ajr,args_dict_setdefault_3->ajs,slot_str_eq_refl->akm,slot_dict_eq->akn,entry_zip_next->ako,entry_tuple_iterator_next->akp,args_zip_next_1->akq,args_tuple_iterator_next_1->akr
open PyProof.Rows renaming slot_tuple_getitem->Dl,listItems_at->IM,sortedAll_old->RG,seqEpoch_at->RH,listUpdate_at->RJ,slicePart_none->ajc,mul_int->alH,ltCps_eq->alI,callWith_type->alJ
open Sum.inr renaming inj->Dn
open Int.ofNat renaming inj->DB
open Nat.succ renaming inj->RT
open PySem.Calls renaming Name_function_global->Sj,loadGlobal_global->aks
open Sum.inl renaming inj->ajk
open PySem.P renaming getItem_tuple->ajt
open PySem.Heap.DictOf renaming new->akl
open Array renaming mem_toList_iff->aku,getElem?_eq_getElem->akv
open PySem.Around renaming under_plainId->akw
open PySem.SeqAt.RcNeAt renaming lists_lengths->alD
open PySem.SeqAt.RcAt renaming lists_lengths->alE
open PySem.MeetsSeq renaming list_pop_last->alF
open PySem.AutoSeq1 renaming list_extend_list_list_0->alG
open PySem.Heap.SameBut renaming update->alK
open PySem.Heap.IsSliceOf renaming new->alL
open Bool renaming true->ak,false->aH
open Option renaming some->I,none->U
namespace Mine.Internal
theorem ab{α:Sort _}{a:α}:a=a:=Eq.refl a
theorem aS:True:=True.intro
inductive Lt where
 |v(i:Nat)
 |k(n:Nat)
 |s(a b:Lt)
 |m(n:Nat)(a:Lt)
 |w(n:Nat)(a:Lt)
noncomputable def LX(c:List Nat):Nat->Nat:=List.rec (λae=>0) (λx ae r i=>Nat.rec x (λj ae=>r j) i) c
def Lt.e(c:List Nat)(a:Lt):Nat:=Lt.rec (λi=>LX c i) (λn=>n) (λae az x y=>x+y) (λn ae x=>n*x) (λn ae x=>x*n) a
noncomputable def Lt.f(j:Nat)(a:Lt):Nat:=Lt.rec (λi=>bif Nat.beq j (i+1) then 1 else 0) (λn=>bif Nat.beq j 0 then n else 0) (λae az x y=>x+y) (λn ae x=>n*x) (λn ae x=>n*x) a
noncomputable def dot(f:Nat->Nat)(c:List Nat):Nat->Nat:=List.rec (λae=>0) (λx ae r i=>f i*x+r (i+1)) c
theorem acB{f g:Nat->Nat}{c:List Nat}:∀{i},dot (λj=>f j+g j) c i=dot f c i+dot g c i:=by
 induction c with
 |nil=>exact rfl
 |cons x c au=>exact(congr (congrArg _ (Nat.add_mul ..)) au).trans (Nat.add_add_add_comm ..)
theorem OG{n:Nat}{f:Nat->Nat}{c:List Nat}:∀{i},dot (λj=>n*f j) c i=n*dot f c i:=by
 induction c with
 |nil=>exact rfl
 |cons x c au=>exact(congr (congrArg _ (Nat.mul_assoc ..)) au).trans (Nat.mul_add ..).symm
theorem OE{f:Nat->Nat}{c:List Nat}:∀{i},(∀j,i<=j->f j=0)->dot f c i=0:=by
 induction c with
 |nil=>exact λae=>rfl
 |cons x c au=>exact λh=>(congr (congrArg (λz=>(z*x + ·)) (h _ (Nat.le_refl _))) (au λj bw=>h j (Nat.le_of_succ_le bw))).trans (by rw[Nat.zero_mul])
theorem HB{a b:Nat}(h:a≠b):Nat.beq a b=false:=Bool.eq_false_iff.mpr λe=>h (Nat.eq_of_beq_eq_true e)
theorem acz{k:Nat}{c:List Nat}:∀{i},dot (λj=>bif Nat.beq j (k+i) then 1 else 0) c i=LX c k:=by
 induction c generalizing k with
 |nil=>exact rfl
 |cons x c au=>
  intro i;refine(?_:(bif Nat.beq i (k+i) then 1 else 0)*x+dot (λj=>bif Nat.beq j (k+i) then 1 else 0) c (i+1)=_)
  induction k with
  |zero=>rw[OE λj bw=>by rw[HB (Nat.ne_of_gt (by rw[Nat.zero_add];exact bw))];rfl,Nat.zero_add,Nat.beq_refl];exact Nat.one_mul x
  |succ k=>rw[HB (Nat.ne_of_lt (Nat.lt_add_of_pos_left (Nat.succ_pos k))),Nat.succ_add_eq_add_succ,au];exact(congrArg (· + _) (Nat.zero_mul x)).trans (Nat.zero_add _)
theorem Lt.is{c:List Nat}{a:Lt}:a.e c=dot (λj=>a.f j) (1::c) 0:=by
 induction a with
 |v i=>exact(acz (i:=1)).symm.trans (Nat.zero_add _).symm
 |k n=>exact((congrArg (n*1 + ·) (OE λj bw=>show(bif Nat.beq j 0 then n else 0)=0 by rw[HB (Nat.ne_of_gt bw)];rfl)).trans (Nat.mul_one n)).symm
 |s a b h1 h2=>exact(congr (congrArg _ h1) h2).trans acB.symm
 |m n a h=>exact(congrArg _ h).trans OG.symm
 |w n a h=>exact(Nat.mul_comm ..).trans ((congrArg _ h).trans OG.symm)
theorem acA{f g:Nat->Nat}{c:List Nat}:∀{i},(∀j,j<i+c.length->Nat.ble (f j) (g j)=true)->dot f c i<=dot g c i:=by
 induction c with
 |nil=>exact λae=>Nat.le_refl _
 |cons x c au=>exact λ{i} h=>Nat.add_le_add (Nat.mul_le_mul_right x (Nat.le_of_ble_eq_true (h i (Nat.lt_add_of_pos_right (Nat.succ_pos _))))) (au λj bw=>h j (by rw[List.length_cons,<-Nat.succ_add_eq_add_succ];exact bw))
noncomputable def numOf(n:Nat):Nat×Nat:=match n % 32 with
 |31=>(n / 32 % 33554432,n / 1073741824)
 |30=>(n / 32 % 1024,n / 32768)
 |d=>(d,n / 32)
def Lt.of(f:Nat):Nat->Lt×Nat:=Nat.rec (λn=>(.k 0,n)) (λae r n=>match n % 32 with
 |0=>(λp=>(λq=>(.s p.1 q.1,q.2)) (r p.2)) (r (n / 32))
 |1=>(λp=>(.k p.1,p.2)) (numOf (n / 32))
 |2=>(λp=>(λq=>(.m p.1 q.1,q.2)) (r p.2)) (numOf (n / 32))
 |3=>(λp=>(λq=>(.w p.1 q.1,q.2)) (r p.2)) (numOf (n / 32))
 |j+4=>(.v j,n / 32)) f
noncomputable abbrev Df:=Nat×Nat×Lt×Lt
def pD(f:Nat):Nat->List Df:=Nat.rec (λae=>[]) (λae r n=>(λm=>(λp=>(λq=>(n % 32,m.1,p.1,q.1)::r q.2) (Lt.of 20 p.2)) (Lt.of 20 m.2)) (numOf (n / 32))) f
def KD(k a b:Nat)(P:Prop):Prop:=match k with
 |0=>a<=b
 |1=>a<=b->P
 |_=>a=b->P
def says(c:List Nat)(l:List Df):Prop:=List.rec True (λp ae P=>KD p.1 (p.2.2.1.e c) (p.2.2.2.e c) P) l
def LI(n m:Nat)(a b x y:Lt):Bool:=Nat.blt 0 m&&(List.range (n+1)).all λj=>Nat.ble (Lt.f j (.s (.m m a) y)) (Lt.f j (.s (.m m b) x))
def LJ(n k m:Nat)(a b x y:Lt)(R:Lt->Lt->Bool):Bool:=match k with
 |0=>LI n m a b x y
 |1=>R (.s (.m m a) x) (.s (.m m b) y)
 |2=>R (.s (.m m a) x) (.s (.m m b) y)
 |_=>R (.s (.m m b) x) (.s (.m m a) y)
def ve(n:Nat)(l:List Df):Lt->Lt->Bool:=List.rec (λae az=>true) (λp ae R x y=>LJ n p.1 p.2.1 p.2.2.1 p.2.2.2 x y R) l
theorem Lt.le{c:List Nat}{a b:Lt}(h:(List.range (c.length+1)).all (λj=>Nat.ble (a.f j) (b.f j))=true):a.e c<=b.e c:=by
 rw[Lt.is,Lt.is (a:=b)];exact acA λj bw=>List.all_eq_true.mp h j (List.mem_range.mpr (by rw[Nat.zero_add]at bw;exact bw))
theorem Xf{c:List Nat}{m:Nat}{a b x y:Lt}(h:x.e c<=y.e c)(e:LI c.length m a b x y=true):a.e c<=b.e c:=by
 have e:=(Bool.and_eq_true _ _).mp e;exact Nat.le_of_mul_le_mul_left (Nat.le_of_add_le_add_right (Nat.le_trans (Lt.le (a:=.s (.m m a) y) (b:=.s (.m m b) x) e.2) (Nat.add_le_add_left h _))) (Nat.le_of_ble_eq_true e.1)
theorem Xg{c:List Nat}{k m:Nat}{a b x y:Lt}{R:Lt->Lt->Bool}{P:Prop}(h:x.e c<=y.e c)(au:∀{x y:Lt},x.e c<=y.e c->R x y=true->P)(e:LJ c.length k m a b x y R=true):KD k (a.e c) (b.e c) P:=by
 have more:∀{a b:Lt},a.e c<=b.e c->(Lt.s (.m m a) x).e c<=(Lt.s (.m m b) y).e c:=λq=>Nat.add_le_add (Nat.mul_le_mul_left _ q) h
 induction k using Nat.casesOn with
 |zero=>exact Xf h e
 |succ k=>induction k using Nat.casesOn with
  |zero=>exact λq=>au (more q) e
  |succ k=>induction k using Nat.casesOn with
   |zero=>exact λq=>au (more (Nat.le_of_eq q)) e
   |succ k=>exact λq=>au (more (Nat.le_of_eq q.symm)) e
theorem xX{c:List Nat}{l:List Df}:∀{x y:Lt},x.e c<=y.e c->ve c.length l x y=true->says c l:=by
 induction l with
 |nil=>exact λae az=>trivial
 |cons p l au=>exact λh e=>Xg h au e
theorem sZ{P:Prop}(h:1<=0):P:=(Nat.not_succ_le_zero 0 h).elim
section
variable {a b c d e f g h:Nat}
theorem jW(n:Nat)(q:true=ve 1 (pD 8 n) (.k 0) (.k 0)):says [a] (pD 8 n):=xX (Nat.le_refl _) q.symm
theorem fk(n:Nat)(q:true=ve 2 (pD 8 n) (.k 0) (.k 0)):says [a,b] (pD 8 n):=xX (Nat.le_refl _) q.symm
theorem gq(n:Nat)(q:true=ve 3 (pD 8 n) (.k 0) (.k 0)):says [a,b,c] (pD 8 n):=xX (Nat.le_refl _) q.symm
theorem FD(n:Nat)(q:true=ve 4 (pD 8 n) (.k 0) (.k 0)):says [a,b,c,d] (pD 8 n):=xX (Nat.le_refl _) q.symm
theorem rx(n:Nat)(q:true=ve 5 (pD 8 n) (.k 0) (.k 0)):says [a,b,c,d,e] (pD 8 n):=xX (Nat.le_refl _) q.symm
end
theorem Bk{i n:Nat}(h:(i:Int)<n):i<n:=Int.ofNat_lt.mp h
theorem A5{i n:Nat}(h:i<n):(i:Int)<n:=Int.ofNat_lt.mpr h
theorem yf{i n:Nat}(h:i<=n):(i:Int)<=n:=Int.ofNat_le.mpr h
theorem JZ{i:Int}{n:Nat}(aV:0<=i)(h:i<n):i.toNat<n:=(Int.toNat_lt aV).mpr h
theorem XZ{i:Int}{n:Nat}(aV:0<=i)(h:i.toNat<n):i<n:=(Int.toNat_lt aV).mp h
theorem Vi{d k:Nat}(h:k<=d):d=d-k+k:=(Nat.sub_add_cancel h).symm
theorem KX{n i:Nat}(h:i<n):(n:Int)-1-i=((n-1-i:Nat):Int):=by
 rw[Int.ofNat_sub (Nat.le_sub_one_of_lt h),Int.ofNat_sub (Nat.succ_le_of_lt (Nat.lt_of_le_of_lt (Nat.zero_le i) h))];rfl
theorem KO{n i:Nat}(e:(n:Int)-1-i=((n-1-i:Nat):Int)):((n-1-i:Nat):Int)-1=(n:Int)-1-((i+1:Nat):Int):=by rw[<-e];exact Int.sub_sub ..
theorem As{n i:Nat}(h:i<n):n-1-i<n:=Nat.lt_of_le_of_lt (Nat.sub_le ..) (Nat.sub_lt (Nat.lt_of_le_of_lt (Nat.zero_le i) h) Nat.one_pos)
theorem KW{n i:Nat}(h:n<=i)(h':i<=n):(n:Int)-1-i = -1:=by rw[Nat.le_antisymm h h',Int.sub_sub,Int.add_comm,<-Int.sub_sub,Int.sub_self];rfl
theorem O0{i m:Int}(h:i<0):max (i+m) 0=max 0 (min (i+m) m):=by
 rw[Int.max_comm,Int.min_eq_left (by have:=Int.add_lt_add_right h m;rw[Int.zero_add]at this;exact Int.le_of_lt this)]
theorem O2{i m:Int}(h:¬i<0)(hm:0<=m):min i m=max 0 (min i m):=(Int.max_eq_right (Int.le_min.mpr ⟨Int.not_lt.mp h,hm⟩)).symm
theorem acX{x m:Int}{n:Nat}(hm:0<=m)(h:(n:Int)=max 0 (min x m)):(n:Int)<=m:=h ▸ Int.max_le.mpr ⟨hm,Int.min_le_right ..⟩
theorem WM{a b:Nat}(h:(a:Int)<b):((b:Int)-a-1+1).toNat=b-a:=by rw[Int.sub_add_cancel,<-Int.ofNat_sub (Nat.le_of_lt (Bk h))];rfl
theorem WN{a b:Nat}(h:¬(a:Int)<b):(0:Int).toNat=b-a:=(Nat.sub_eq_zero_of_le (Int.ofNat_le.mp (Int.not_lt.mp h))).symm
theorem Ud{a j:Nat}:((a:Int)+(j:Int)*1).toNat=a+j:=by rw[Int.mul_one];rfl
theorem Xy{b:Int}{n:Nat}(h1:-(n:Int)<b)(h2:b<n):b.natAbs<n:=by
 induction b with
 |ofNat k=>exact Bk h2
 |negSucc k=>exact Bk (Int.lt_of_neg_lt_neg h1)
theorem V2{i t:Nat}(h:i<t):0<(t:Int)-i:=Int.sub_pos_of_lt (A5 h)
theorem V3{i t:Nat}(h:¬i<t):(t:Int)-i<=0:=Int.sub_nonpos_of_le (yf (Nat.le_of_not_lt h))
theorem O1{n:Nat}{k:Int}(aV:0<=k)(h1:k<=n):(max 0 (min (if k<0 then k+n else k) n)).toNat=k.toNat:=by rw[if_neg (Int.not_lt.mpr aV),Int.min_eq_left h1,Int.max_eq_right aV]
theorem bind_some{α β:Type}{o:Option α}{f:α->Option β}{b:β}{P:Prop}(h:o.bind f=some b)(k:∀a,o=some a->f a=some b->P):P:=by
 induction o with
 |none=>cases h
 |some a=>exact k a rfl h
theorem map_some{α β:Type}{o:Option α}{f:α->β}{b:β}{P:Prop}(h:o.map f=some b)(k:∀a,o=some a->f a=b->P):P:=by
 induction o with
 |none=>cases h
 |some a=>exact k a rfl (Option.some.inj h)
theorem XN{α β:Type}{o:Option α}{f:α->β}{P:β->Prop}{b:β}(h:o.map f=some b)(k:∀a,o=some a->P (f a)):P b:=by
 induction o with
 |none=>cases h
 |some a=>exact Option.some.inj h ▸ k a rfl
theorem hK{a b:Bool}{P:Prop}(h:(a&&b)=true)(k:a=true->b=true->P):P:=by
 induction a with
 |false=>cases h
 |true=>exact k rfl h
end Mine.Internal
set_option backward.match.sparseCases true
namespace Mine.Internal
universe Eb Ea JP Tx Tw akS akR u8 akQ
inductive oy{qZ:Sort Eb}{qY:Sort Ea}(p:qZ->qY->Prop):Prop
 |mk(a:qZ)(b:qY)(h:p a b):oy p
inductive wU{qZ:Sort Eb}{qY:Sort Ea}{xd:Sort JP}(p:qZ->qY->xd->Prop):Prop
 |mk(a:qZ)(b:qY)(c:xd)(h:p a b c):wU p
inductive Rm{qZ:Sort Eb}{qY:Sort Ea}{xd:Sort JP}{Je:Sort Tx}{Jd:Sort Tw}(p:qZ->qY->xd->Je->Jd->Prop):Prop
 |mk(a:qZ)(b:qY)(c:xd)(d:Je)(e:Jd)(h:p a b c d e):Rm p
inductive pR(a b c:Prop):Prop
 |mk(aV:a)(h1:b)(h2:c):pR a b c
inductive uo(a b c d:Prop):Prop
 |mk(aV:a)(h1:b)(h2:c)(h3:d):uo a b c d
inductive Ry(a b c d e f g h i:Prop):Prop
 |mk(aV:a)(h1:b)(h2:c)(h3:d)(bf:e)(cP:f)(eS:g)(ml:h)(vZ:i):Ry a b c d e f g h i
theorem Cd{d k n:Nat}(h:k<=n):d+n+1=d+n-k+k+1:=congrArg (· + 1) (Nat.sub_add_cancel (Nat.le_trans h (Nat.le_add_left n d))).symm
theorem XI{k n:Nat}(h:n<=6):min k n+(n-k+1)<8:=(Nat.le_total k n).elim (λq=>by rw[Nat.min_eq_left q,<-Nat.add_assoc,Nat.add_sub_cancel' q];exact Nat.succ_le_succ (Nat.succ_le_succ h)) λq=>by rw[Nat.min_eq_right q,Nat.sub_eq_zero_of_le q];exact Nat.succ_le_succ (Nat.succ_le_succ h)
theorem OB{a m:Nat}:(12:Int)<(a:Int)+m-1↔12<a+m-1:=⟨λh=>Nat.lt_sub_of_add_lt (Int.ofNat_lt.mp (Int.add_lt_of_lt_sub_right h)),λh=>Int.lt_sub_right_of_add_lt (Int.ofNat_lt.mpr (Nat.add_lt_of_lt_sub h))⟩
theorem XD{i j:Nat}(h:i<j)(e:i / 8=j / 8):i % 8<j % 8:=by
 have h2:8*(i / 8)+i % 8<8*(j / 8)+j % 8:=by rw[Nat.div_add_mod,Nat.div_add_mod];exact h
 rw[e]at h2;exact Nat.lt_of_add_lt_add_left h2
theorem MR{a k:Nat}(ao:k<2)(h:a<=4*k):a<=4:=Nat.le_trans h (Nat.mul_le_mul_left 4 (Nat.le_of_lt_succ ao))
theorem Y4{a k n:Nat}(ao:k<2)(h:a<=4*k)(aM:n<=3):a+n<=7:=Nat.add_le_add (MR ao h) aM
theorem MQ{a i n:Nat}(aM:n<=3)(h:a<=4*i):a+1+n<=4*(i+1):=Nat.le_trans (Nat.add_le_add (Nat.add_le_add_right h 1) aM) (Nat.le_refl (4*i+4))
theorem Ma{c:Int}(h:c % 3<2):(c % 3).toNat<2:=(Int.toNat_lt (Int.emod_nonneg _ (by decide))).mpr h
theorem uX{t:Nat}(h:t<=1000000):-1000000<=(t:Int)/\(t:Int)<=1000000:=⟨Int.le_trans (by decide) (Int.natCast_nonneg t),Int.ofNat_le.mpr h⟩
theorem LP{m:Nat}(h:m<=4):m=0\/m=1\/m=2\/m=3\/m=4:=(by decide:∀m,m<5->m=0\/m=1\/m=2\/m=3\/m=4) m (Nat.lt_succ_of_le h)
theorem AR{m:Nat}(h:m<2):m=0\/m=1:=(by decide:∀m,m<2->m=0\/m=1) m h
theorem LQ{m:Nat}(h:m<3):m=0\/m=1\/m=2:=(by decide:∀m,m<3->m=0\/m=1\/m=2) m h
theorem XH{t:Nat}:min (t:Int) 5=((min t 5:Nat):Int):=(Nat.le_total t 5).elim (λh=>by rw[Nat.min_eq_left h];exact Int.min_eq_left (Int.ofNat_le.mpr h)) λh=>by rw[Nat.min_eq_right h];exact Int.min_eq_right (Int.ofNat_le.mpr h)
theorem LD{n:Nat}:(1:Int)+(n:Int)=((1+n:Nat):Int):=rfl
theorem LF{n:Nat}(h:n<4):1+n<=4:=Nat.add_comm 1 n ▸ h
theorem JV{a b:Nat}:decide ((a:Int)<(b:Int))=decide (a<b):=decide_eq_decide.mpr Int.ofNat_lt
end Mine.Internal
section
set_option compiler.extract_closed false
local macro_rules | `(tactic| rewrite [$t:term]) => `(tactic| first | refine Eq.substr ($t ..) ?_ | fail) | `(tactic| rewrite [$r, $rs,*]) => `(tactic| (rewrite [$r]; rewrite [$rs,*]))
set_option backward.match.sparseCases false
namespace Mine.Internal
open PySem PyProof.Rows
noncomputable def bj:=@if_pos
noncomputable def bH:=@if_neg
noncomputable def dR:=@congrArg
noncomputable def jI:=@decide_eq_false
noncomputable def jJ:=@beq_self_eq_true
noncomputable def kg:=@decide_eq_true
noncomputable def qS:=@of_decide_eq_true
noncomputable def wY:=@beq_eq_false_iff_ne
noncomputable def zL:=@beq_false_of_ne
noncomputable def IQ:=@decide_eq_decide
noncomputable def uG:List aw:=[.type "ValueError",.type "Exception",.type "BaseException",.type "object"]
theorem Tl:ExcBaseFacts "ValueError" "ValueError.__new__" "ValueError.__init__" uG:=PySem.F.excBase_ValueError
theorem Tn:uG.contains (.type "BaseException")=ak:=by decide +kernel
structure kS where
 nm:Str
 q:Str
 N:Addr
 bs:List aw
 GG:Bool
 sn:List Str
 sub:List aw
 tU:Bool
 col:Option Bool
 gR:Option Addr
 iC:Option aw
 fC:Option aw
 gC:Option aw
 lh:Option aw
 lg:Option aw
noncomputable abbrev kS.obj(f:kS)(C:Addr)(bm:List aw):Obj:=excClassObj f.nm f.q C f.N f.bs bm f.GG f.sn f.sub f.tU f.col f.gR f.iC f.fC f.gC f.lh f.lg "ValueError.__new__"
structure pH(h:Heap)(C:Addr)(bm:List aw)(f:kS)(dk:Str->Option aw):Prop where
 tail:OwnTail h uG bm
 obj:h.get? C=I (f.obj C bm)
 ns:h.Ns f.N dk
theorem pH.keeps(x:pH h C bm f dk)(ao:∀b o,h.get? b=I o->h'.get? b=I o):pH h' C bm f dk:=⟨x.tail.keeps ao,ao _ _ x.obj,x.ns.keeps ao⟩
structure iY where
 c:Str
 ups:List Str
 chain:List Str
noncomputable def tD(h:Heap)(n:Str):aw:=(h.nsMap mainGlobals n).getD .none
def xk(h:Heap)(r:iY):List aw:=(r.chain.map (tD h))++uG
def Hn(tab:List iY)(h:Heap)(r:iY):Bool:=match h.clsAt mainGlobals r.c with
 |some (C,o,cd)=>decide (o.cls=.type "type")&&(decide (cd.mro=.ref C::xk h r)&&(!cd.hasDel&&(decide (o.slots.size=6)&&(decide (o.slots[4]? =I (I (.builtin "ValueError.__new__")))&&(h.isNs cd.ns&&((h.nsMap cd.ns "__init__").isNone&&tab.all λt=>(Value.ref C::xk h r).contains (tD h t.c)==r.ups.contains t.c))))))
 |none=>aH
def EI(tab:List iY)(h:Heap):Bool:=h.isNs mainGlobals&&(tab.all (λr=>Hn tab h r)&&tab.all λr=>r.chain.all λn=>tab.any λt=>t.c==n)
inductive Rp(tab:List iY)(h:Heap)(r:iY):Prop
 |mk(C:Addr)(f:kS)(dx:h.nsMap mainGlobals r.c=some (.ref C))(lX:h.get? C=some (kS.obj f C (xk h r)))(f3:h.Ns f.N (h.nsMap f.N))(oU:h.nsMap f.N "__init__" = none)(AE:∀t∈tab,(Value.ref C::xk h r).contains (tD h t.c)=r.ups.contains t.c):Rp tab h r
theorem OX{tab:List iY}{h:Heap}{r:iY}(x:Hn tab h r=ak):Rp tab h r:=by
 unfold Hn at x
 induction a8:h.clsAt mainGlobals r.c with
 |none=>replace x:=(a8 ..) ▸ x;cases x
 |some y=>
  obtain⟨C,o,cd⟩:=y;replace x:=(a8 ..) ▸ x;obtain⟨aM,ho,hd⟩:=Heap.clsAt_spec a8;obtain⟨gN,gR,acy,eo⟩:=o;obtain⟨nm,bs,mro,N,q,GG,sn,sub,tU,col,Z9⟩:=cd;simp only [g5,decide_eq_true_eq,Bool.not_eq_true',ec,beq_iff_eq]at x;obtain⟨aaf,Ng,nc,gf,hj,vJ,fw,Zq⟩:=x;obtain⟨l⟩:=eo;obtain⟨iC,fC,gC,lh,lg,rfl⟩:=six_places (l:=l) (by simpa using gf) (by simpa using hj);obtain rfl:gN=.type "type":=aaf;obtain rfl:acy=_:=hd;obtain rfl:Z9=aH:=nc;subst Ng;exact⟨C,⟨nm,q,N,bs,GG,sn,sub,tU,col,gR,iC,fC,gC,lh,lg⟩,aM,ho,.of_isNs vJ,Option.isNone_iff_eq_none.mp fw,Zq⟩
structure adZ(tab:List iY)(mg:Str->Option aw)(h:Heap)(r:iY)(C:Addr)(bm:List aw)(f:kS)(dk:Str->Option aw):Prop where
 at_:mg r.c=I (.ref C)
 cls:pH h C bm f dk
 ups:∀t∈tab,∀D,mg t.c=I (.ref D)->(Value.ref C::bm).contains (.ref D)=r.ups.contains t.c
 AW:dk "__init__" = U
inductive PO(tab:List iY)(mg:Str->Option aw)(h:Heap)(r:iY):Prop
 |mk(C:Addr)(bm:List aw)(f:kS)(dk:Str->Option aw)(x:adZ tab mg h r C bm f dk):PO tab mg h r
def aiT(tab:List iY)(mg:Str->Option aw)(h:Heap):Prop:=∀r∈tab,PO tab mg h r
def tY(tab:List iY)(h:Heap):Prop:=∃mg,h.Ns mainGlobals mg/\aiT tab mg h
theorem tY.keeps{tab:List iY}{h h':Heap}(X:tY tab h)(k:∀b o,h.get? b=I o->h'.get? b=I o):tY tab h':=by
 obtain⟨mg,aM,X⟩:=X;refine⟨mg,aM.keeps k,λr aP=>?_⟩;obtain⟨C,bm,f,dk,x⟩:=X r aP;exact⟨C,bm,f,dk,x.at_,x.cls.keeps k,x.ups,x.AW⟩
theorem VH{tab:List iY}{h:Heap}(ax:EI tab h=ak):tY tab h:=by
 unfold EI at ax;simp only [g5]at ax;obtain⟨h1,h2,h3⟩:=ax;have all:=ec.mp h2;refine⟨_,.of_isNs h1,λr aP=>?_⟩;refine aE λkk=>?_;obtain⟨C,f,dx,lX,f3,oU,AE⟩:=OX (all r aP);refine kk ?_;have tail:∀l:List Str,(l.all λn=>tab.any λt=>t.c==n)=ak->OwnTail h uG ((l.map (tD h))++uG):=λl=>by
  induction l with
  |nil=>exact λae=>.base
  |cons n l au=>
   intro aj;replace aj:=(g5 ..) ▸ (uu ..) ▸ aj;refine aE λkk=>?_;obtain⟨t,aY,cu⟩:=I7.mp aj.1;obtain⟨aiS,px,jV,rm,Lw,W9,akZ⟩:=OX (all t aY);refine kk ?_;have c7:tD h n=.ref aiS:=by unfold tD;rw[<-eq_of_beq cu,jV];rfl
   rw[eE,c7];exact .own rm Lw W9 (au aj.2)
 refine⟨C,xk h r,f,h.nsMap f.N,dx,⟨tail r.chain (ec.mp h3 r aP),lX,f3⟩,λt aY D hD=>?_,oU⟩;have:=AE t aY;unfold tD at this;replace this:=(hD ..) ▸ this;exact this
def rI(tab:List iY):PySem.W.Hook where
 α:=Bool
 obs:=λs=>EI tab s.heap
 val:=λae=>ak
 says:=λae h=>tY tab h
 of:=λae az e=>VH e
 keeps:=λae az bS x k=>x.keeps k
noncomputable def xt10:List iY:=[⟨"FieldError",["FieldError"],[]⟩,⟨"TooGreat",["TooGreat", "FieldError"],["FieldError"]⟩]
end Mine.Internal
namespace Mine.Internal
open PySem PySem.W PyProof.Rows
noncomputable def FH:DefRec×List (Str×Expr):=(defOf Challenge.pw_uf010004_10 Challenge.rw_uf010004_10.name).get (by decide +kernel)
theorem lawD_name:FH.1.name=aB "law":=by kernel_rfl
abbrev QD(p q:Program)(loose:List Str)(Xt:bp->Bool)(N:Nat):Prop:=∀w,(openEnds treeTable p w N).map (λs=>(seen ((recsOf q).map (·.name)) (ownsOf q) [] { s with gens:=#[] },s.heap.bltView,s.heap.keysOk (looseW q loose) ((recsOf q).map (·.name)) ((litsOf q).map (·.1)) ((clssOf q (looseW q loose)).map (·.name))&&s.heap.accountedOkI (importedModules p.main.body)&&s.heap.isNs mainGlobals&&s.heap.isNs builtinsNs&&tablesOk q s.heap&&Xt s&&(if ak then s.gens.size==0 else !leftWithCleanup s.gens)))=I (expectedOf q,bltViewBooted,ak)
abbrev QC(p q:Program)(loose:List Str)(N:Nat):Prop:=∀w,(openEnds treeTable p w N).map (λs=>(tabsOk q s,pinSeenD q (drecsOf q) s,plainSeenE q (looseW q loose) s))=I (ak,pinGoodD (drecsOf q),plainGoodE q (looseW q loose))
abbrev QB(p q:Program)(loose:List Str){α:Type}(Yf:bp->α)(Ya:World->α)(N:Nat):Prop:=∀w,(openEnds treeTable p w N).map (λs=>(plainSeenD q loose s,wideSeen q s,clsSeenW q loose s,Yf s))=I (plainGoodD q loose,wideGood q,clsGoodW q loose,Ya w)
theorem Yc{p q:Program}{loose:List Str}{Xt:bp->Bool}{α:Type}{Yf:bp->α}{Ya:World->α}{N:Nat}(h1:QD p q loose Xt N)(h2:QC p q loose N)(h3:QB p q loose Yf Ya N):LeftO p q loose Xt Yf Ya N:=λw=>by
  have x:=h1 w;have y:=h2 w;have z:=h3 w
  revert x y z
  generalize openEnds treeTable p w N=o;intro x y z
  cases o with
  |none=>cases x
  |some s=>
    obtain⟨km,jg⟩:=wZ (mQ x);obtain⟨jg,ix⟩:=wZ jg;obtain⟨SA,DL⟩:=wZ (mQ y);obtain⟨DL,Sz⟩:=wZ DL;obtain⟨xf,p1⟩:=wZ (mQ z);obtain⟨p1,q0⟩:=wZ p1;obtain⟨q0,xe⟩:=wZ q0;exact dR I (pU (pU km (pU jg (pU ix (pU SA (pU DL (pU Sz (pU xf (pU p1 q0)))))))) xe)
noncomputable def Ji(s:bp):Bool:=xlAt Challenge.pw_uf010004_10 [] s&&recOk (RowW.records Challenge.rw_uf010004_10.row.toRowW) s
theorem aaT:QD Challenge.pw_uf010004_10 Challenge.pw_uf010004_10 [] Ji 9000:=by intro w;kernel_rfl
theorem aaS:QC Challenge.pw_uf010004_10 Challenge.pw_uf010004_10 [] 9000:=by intro w;kernel_rfl
theorem aaR:QB Challenge.pw_uf010004_10 Challenge.pw_uf010004_10 [] (Hook.obs (rI xt10)) (Hook.val (rI xt10)) 9000:=by intro w;kernel_rfl
set_option maxHeartbeats 8000000 in
theorem front(hB:WalkO Challenge.pw_uf010004_10 [] (XL Challenge.pw_uf010004_10 []) (Hook.says (rI xt10)) Challenge.rw_uf010004_10.row.toRowW FH.1 FH.2 λf vs=>call f vs):Challenge.rw_uf010004_10.Holds:=by
  w_on;refine holds_law (by decide +kernel) λVJ=>?_
  refine holds_open (q:=Challenge.pw_uf010004_10) (loose:=[]) (Xt:=Ji) (XP:=XL Challenge.pw_uf010004_10 []) (Yf:=Hook.obs (rI xt10)) (Ya:=Hook.val (rI xt10)) (YP:=Hook.says (rI xt10)) (N:=9000) (Yc aaT aaS aaR) (Hook.of (rI xt10)) (Hook.keeps (rI xt10)) (λs e=>xl_of s (xb.mp e).1) XL.keeps (by kernel_rfl) (by kernel_rfl) (by kernel_rfl) (λs e=>recFacts_of (xb.mp e).2) (by rfl) VJ (by decide +kernel) ⟨ab,ab,ab,ab,ab,by decide +kernel⟩ ?hw hB
  case hw=>w_witness2
end Mine.Internal
namespace Mine.Internal
open PySem
inductive V where
 |none
 |bool(b:Bool)
 |int(i:Int)
 |str(s:Str)
 |tup(l:List V)
 |ref(n:Nat)
 deriving Inhabited
noncomputable abbrev Key:=Int ⊕ Str
inductive O where
 |list(l:List V)
 |dict(v:Nat)(l:List (Key×V))
 |inst(c:Str)(k:Nat)
 |bI(l:List (Str×V))
 |et(v:Nat)(l:List (List Int×V))
 |cache
 |exc(c:Str)
 deriving Inhabited
noncomputable abbrev aq:=List O
inductive Res(α:Type) where
 |ok(a:α)(σ:aq)
 |exc(e:V)(σ:aq)
 |bad
noncomputable def Res.bind{α β:Type}(r:Res α)(k:α->aq->Res β):Res β:=match r with
 |.ok a σ=>k a σ
 |.exc e σ=>.exc e σ
 |.bad=>.bad
structure M(α:Type) where
 go:{β:Type}->(α->aq->Res β)->aq->Res β
 nat:∀{β:Type}(k:α->aq->Res β) (σ:aq),go k σ=(go Res.ok σ).bind k
noncomputable def M.run{α:Type}(m:M α)(σ:aq):Res α:=m.go Res.ok σ
noncomputable instance {α:Type}:CoeFun (M α) λae=>aq->Res α:=⟨M.run⟩
theorem x9{α β:Type}{c:Prop}[Decidable c] {r:Res α}{k:α->aq->Res β}:(if c then r.bind k else .bad)=(if c then r else .bad:Res α).bind k:=by
 by_cases h:c
 ·rw[bj h,bj h]
 ·rw[bH h,bH h];rfl
namespace M
noncomputable def pure{α:Type}(a:α):M α:=⟨λk σ=>k a σ,λae az=>ab⟩
noncomputable def bind{α β:Type}(m:M α)(f:α->M β):M β:=⟨λk σ=>m.go (λa σ=>(f a).go k σ) σ,λk σ=>by
 rw[m.nat,m.nat λa σ=>(f a).go Res.ok σ]
 cases m.go Res.ok σ with
 |ok a af=>exact(f a).nat k af
 |exc e af=>rfl
 |bad=>rfl⟩
noncomputable def bad{α:Type}:M α:=⟨λae az=>.bad,λae az=>ab⟩
noncomputable def throw{α:Type}(e:V):M α:=⟨λae σ=>.exc e σ,λae az=>ab⟩
def k3{α β:Type}(m:M α)(f:α->M β)(h:V->M β):M β:=⟨λk σ=>match m.run σ with
 |.ok a af=>(f a).go k af
 |.exc e af=>(h e).go k af
 |.bad=>.bad,λk σ=>by
 induction m.run σ with
 |ok a af=>exact(f a).nat k af
 |exc e af=>exact(h e).nat k af
 |bad=>rfl⟩
noncomputable def safe{α:Type}(m:M α):M α:=⟨λk σ=>match m.run σ with
 |.ok a af=>k a af
 |.exc _ _=>.bad
 |.bad=>.bad,λk σ=>by cases m.run σ <;> rfl⟩
noncomputable def cond{α:Type}(b:Bool)(m n:M α):M α:=⟨λk σ=>_root_.cond b (m.go k σ) (n.go k σ),λk σ=>by
 cases b with
 |true=>exact m.nat k σ
 |false=>exact n.nat k σ⟩
end M
noncomputable instance:Monad M where
 pure:=M.pure
 bind:=M.bind
noncomputable def hF(n:Nat):M O:=⟨λk σ=>match σ[n]? with
 |some o=>k o σ
 |none=>.bad,λk σ=>by cases σ[n]? <;> rfl⟩
noncomputable def nH(n:Nat)(o:O):M Unit:=⟨λk σ=>if 0<n/\n<σ.length then k () (σ.set n o) else .bad,λk σ=>x9 (r:=.ok () _)⟩
noncomputable def bP(o:O):M V:=⟨λk σ=>k (.ref σ.length) (σ++[o]),λae az=>ab⟩
noncomputable def putD(n:Nat)(l:List (Key×V)):M Unit:=⟨λk σ=>match σ[n]? with
 |some (.dict v _)=>if 0<n then k () (σ.set n (.dict (v+1) l)) else .bad
 |_=>.bad,λk σ=>by
 induction σ[n]? with
 |none=>rfl
 |some o=>induction o with
  |dict v m=>exact x9 (r:=.ok () _)
  |_=>rfl⟩
noncomputable def nC:O->Option Nat
 |.dict v _=>I v
 |.et v _=>I v
 |_=>U
def AG(n:Nat)(l:List (List Int×V)):M Unit:=⟨λk σ=>match σ[n]?.bind nC with
 |some v=>if 0<n then k () (σ.set n (.et (v+1) l)) else .bad
 |none=>.bad,λk σ=>by
 induction σ[n]?.bind nC with
 |none=>rfl
 |some v=>exact x9 (r:=.ok () _)⟩
noncomputable def c1{α:Type}(f:aq->Option α):M α:=⟨λk σ=>match f σ with
 |some a=>k a σ
 |none=>.bad,λk σ=>by cases f σ <;> rfl⟩
def gW(x:Str):Prop:=x.length<=bz/\PyData.strOk x=ak
noncomputable instance (x:Str):Decidable (gW x):=inferInstanceAs (Decidable (_/\_))
theorem bh{α:Type}{q:α}{P:Prop}(h:(U:Option α)=I q):P:=nomatch h
theorem fU{P:Prop}(h:aH=ak):P:=nomatch h
theorem nE{P:Prop}(h:ak=aH):P:=nomatch h
theorem lV{α:Type}{a:α}{P:Prop}(h:I a=U):P:=nomatch h
theorem iF{α:Type}{a:α}{σ:aq}{P:Prop}(h:(Res.bad:Res α)=.ok a σ):P:=nomatch h
theorem mx{α:Type}{e:V}{σ:aq}{P:Prop}(h:(Res.bad:Res α)=.exc e σ):P:=nomatch h
theorem sU{α:Type}{a:α}{e:V}{σ af:aq}{P:Prop}(h:Res.ok a σ=.exc e af):P:=nomatch h
section
variable {σ:aq}
theorem run_bind{α β:Type}{m:M α}{f:α->M β}:(m>>=f) σ=(m σ).bind λa σ=>f a σ:=m.nat _ σ
theorem aN{α β:Type}{m:M α}{f:α->M β}{a:α}{af:aq}(h:m σ=.ok a af):(m>>=f) σ=f a af:=by rw[run_bind,h];rfl
theorem cS{α β:Type}{m:M α}{f:α->M β}(h:m σ=.bad):(m>>=f) σ=.bad:=by rw[run_bind,h];rfl
theorem e1{α β:Type}{m:M α}{f:α->M β}{e:V}{af:aq}(h:m σ=.exc e af):(m>>=f) σ=.exc e af:=by rw[run_bind,h];rfl
theorem y9{α β:Type}{m:M α}{f:α->M β}(h:(m>>=f) σ≠.bad):(∃a a0,m σ=.ok a a0/\(m>>=f) σ=f a a0)\/∃e a0,m σ=.exc e a0/\(m>>=f) σ=.exc e a0:=by
 induction e:m σ with
 |bad=>rw[cS e]at h;exact absurd ab h
 |exc v a0=>exact .inr ⟨v,a0,ab,e1 e⟩
 |ok a a0=>exact .inl ⟨a,a0,ab,aN e⟩
theorem KH{α:Type}(m:M α):M.safe m σ=(match m σ with|.ok a af=>.ok a af|.exc _ _=>.bad|.bad=>.bad):=rfl
theorem uK{α β:Type}(m:M α)(f:α->M β)(h:V->M β):M.k3 m f h σ=(match m σ with|.ok a af=>f a af|.exc e af=>h e af|.bad=>.bad):=rfl
theorem nh(n:Nat):hF n σ=(match σ[n]? with|some o=>.ok o σ|none=>.bad):=rfl
theorem Kz(n:Nat)(o:O):nH n o σ=(if 0<n/\n<σ.length then .ok () (σ.set n o) else .bad):=rfl
theorem hU{α:Type}(f:aq->Option α):c1 f σ=(match f σ with|some a=>.ok a σ|none=>.bad):=rfl
theorem M.assoc{α β bN:Type}(m:M α)(f:α->M β)(g:β->M bN):(m>>=f)>>=g=m>>=λa=>f a>>=g:=rfl
end
noncomputable def FZ:Expr->Bool
 |.ListComp _ _ _ _=>ak
 |_=>aH
noncomputable def FY:Expr->Bool
 |.Slice _ _ _ _=>ak
 |_=>aH
noncomputable def YZ:Expr->Bool
 |.Name _ _=>ak
 |_=>aH
def F0:Expr->Bool
 |.Attribute _ _ _=>ak
 |.Call f _ ks _=>ks.isEmpty&&YZ f
 |_=>aH
theorem keep{G:Prop}(h:∀P:Prop,(G->P)->P):G:=h G id
noncomputable abbrev Loc:=List (Option V)
noncomputable abbrev n_6:List (Option V):=[U,U,U,U,U,U]
noncomputable abbrev n_9:List (Option V):=[U,U,U,U,U,U,U,U,U]
noncomputable abbrev n_7:List (Option V):=[U,U,U,U,U,U,U]
noncomputable abbrev n_11:List (Option V):=[U,U,U,U,U,U,U,U,U,U,U]
noncomputable abbrev n_8:List (Option V):=[U,U,U,U,U,U,U,U]
noncomputable abbrev n_12:List (Option V):=[U,U,U,U,U,U,U,U,U,U,U,U]
noncomputable abbrev n_10:List (Option V):=[U,U,U,U,U,U,U,U,U,U]
noncomputable abbrev n_22:List (Option V):=[U,U,U,U,U,U,U,U,U,U,U,U,U,U,U,U,U,U,U,U,U,U]
noncomputable abbrev n_19:List (Option V):=[U,U,U,U,U,U,U,U,U,U,U,U,U,U,U,U,U,U,U]
noncomputable abbrev n_20:List (Option V):=[U,U,U,U,U,U,U,U,U,U,U,U,U,U,U,U,U,U,U,U]
noncomputable abbrev n_25:List (Option V):=[U,U,U,U,U,U,U,U,U,U,U,U,U,U,U,U,U,U,U,U,U,U,U,U,U]
noncomputable abbrev ct:=List (Str×NameKind)
noncomputable def mV:ct->Str->Nat->Option (Nat×NameKind)
 |[],_,_=>U
 |(y,k)::r,x,i=>match x==y with
  |true=>I (i,k)
  |false=>mV r x (i+1)
theorem uS:mV ((y,k)::r) x i=match x==y with|true=>I (i,k)|false=>mV r x (i+1):=rfl
def slot(ns:ct)(x:Str):Option (Nat×NameKind):=mV ns x 0
def bE{α:Type}:Option α->M α
 |some a=>pure a
 |none=>M.bad
def ldLoc(loc:Loc)(i:Nat):M V:=bE (loc[i]?.join)
def stLoc(ns:ct)(x:Str)(v:V)(loc:Loc):M Loc:=match slot ns x with
 |some (i,.local)=>pure (loc.set i (I v))
 |some (i,.cell)=>pure (loc.set i (I v))
 |_=>M.bad
def ff(ns:ct)(x:Str)(v:V)(loc:Loc):M Loc:=match slot ns x with
 |some (i,.local)=>pure (loc.set i (I v))
 |_=>M.bad
structure Cfg where
 isFn:Str->Bool
 call:Str->List V->M V
 glob:Str->Option V
 calm:Bool
 ups:Str->Option (List Str)
 cls:Str->Option (List Str×List Str)
noncomputable def Cfg.l9(C:Cfg):Cfg:=⟨C.isFn,λae az=>M.bad,C.glob,aH,C.ups,C.cls⟩
def OS:Const->M V
 |.none=>pure .none
 |.bool b=>pure (.bool b)
 |.int i=>pure (.int i)
 |.str s=>if gW s then pure (.str s) else M.bad
 |_=>M.bad
def truth:V->M Bool
 |.bool b=>pure b
 |_=>M.bad
def Small(a:Int):Prop:=-18446744073709551616<a/\a<18446744073709551616
noncomputable instance (a:Int):Decidable (Small a):=inferInstanceAs (Decidable (_/\_))
def e8(n:Nat):M (List V):=do
 match <-hF n with
 |.list l=>pure l
 |_=>M.bad
noncomputable def keyOf:V->Option Key
 |.int i=>I (.inl i)
 |.str s=>I (.inr s)
 |_=>U
noncomputable def l3:Key->V
 |.inl i=>.int i
 |.inr s=>.str s
noncomputable abbrev Tab:=List (Key×V)
noncomputable def ez(l:Tab)(k:Key):Option V:=(l.find? λp=>p.1=k).map (·.2)
noncomputable def uN:List V->Option (List Int)
 |[]=>I []
 |.int i::r=>(uN r).map (i :: ·)
 |_::_=>U
def lT:V->Option (List Int)
 |.tup l=>uN l
 |_=>U
noncomputable abbrev jz:=List (List Int×V)
noncomputable def gL(l:jz)(k:List Int):Option V:=(l.find? λp=>p.1=k).map (·.2)
def ku(l:jz)(k:List Int)(v:V):jz:=if (gL l k).isSome then l.map (λp=>if p.1=k then (p.1,v) else p) else l++[(k,v)]
noncomputable def lx(l:Tab)(k:Key)(v:V):Tab:=if l.any (λp=>p.1=k) then l.map (λp=>if p.1=k then (p.1,v) else p) else l++[(k,v)]
def intOp(op:Operator)(a b:Int):M V:=match op with
 |.Add=>pure (.int (a+b))
 |.Sub=>pure (.int (a-b))
 |.Mult=>if Small a\/Small b then pure (.int (a*b)) else M.bad
 |.FloorDiv=>if b≠0/\Small b then pure (.int (a.fdiv b)) else M.bad
 |.Mod=>if b≠0/\Small b then pure (.int (a.fmod b)) else M.bad
 |_=>M.bad
noncomputable def isAdd:Operator->Bool
 |.Add=>ak
 |_=>aH
def zf(a b:V):M V:=match a with
 |.str x=>(match b with
  |.str y=>if x.length+y.length<=bz then pure (.str (x++y)) else M.bad
  |_=>M.bad)
 |.tup l=>(match b with
  |.tup m=>if l.length+m.length<=bz then pure (.tup (l++m)) else M.bad
  |_=>M.bad)
 |.ref x=>(match b with
  |.ref y=>do
   let l <-e8 x
   let m <-e8 y
   if l.length+m.length<=bz then bP (.list (l++m)) else M.bad
  |_=>M.bad)
 |_=>M.bad
def binop(op:Operator)(a b:V):M V:=match a with
 |.int x=>(match b with
  |.int y=>intOp op x y
  |_=>M.bad)
 |_=>cond (isAdd op) (zf a b) M.bad
mutual
noncomputable def mU(f:Nat->Option PyData):V->Option PyData
 |.none=>I .none
 |.bool b=>I (.bool b)
 |.int i=>I (.int i)
 |.str s=>I (.str s)
 |.tup l=>(g6 f l).map .tuple
 |.ref n=>f n
noncomputable def g6(f:Nat->Option PyData):List V->Option (List PyData)
 |[]=>I []
 |x::r=>match mU f x,g6 f r with
  |some d,some ds=>I (d::ds)
  |_,_=>U
end
noncomputable def i1(σ:aq):Nat->Nat->Option PyData
 |0,_=>U
 |k+1,n=>match σ[n]? with
  |some (.list l)=>(g6 (i1 σ k) l).map .list
  |_=>U
theorem Uc:i1 σ (k+1) n=match σ[n]? with|some (.list l)=>(g6 (i1 σ k) l).map .list|_=>U:=rfl
def toPy(σ:aq)(v:V):Option PyData:=mU (i1 σ 4) v
noncomputable def hh(σ:aq)(n:Nat):Option Str:=match σ[n]? with
 |some (.inst c _)=>I c
 |_=>U
noncomputable def listAt(σ:aq)(n:Nat):Option (List V):=match σ[n]? with
 |some (.list l)=>I l
 |_=>U
noncomputable def dictAt(σ:aq)(n:Nat):Option Tab:=match σ[n]? with
 |some (.dict _ l)=>I l
 |_=>U
def yS(σ:aq)(n:Nat)(b:V):Option Bool:=match b with
 |.ref m=>(match hh σ n,hh σ m with
  |some _,some _=>I (n==m)
  |_,_=>(match listAt σ n,listAt σ m with
   |some l,some k=>if l.length=k.length then U else I aH
   |_,_=>U))
 |_=>U
def yT(σ:aq)(a b:V):Option Bool:=match a with
 |.ref n=>(match b with
  |.str _=>(dictAt σ n).map λae=>aH
  |_=>U)
 |_=>U
def B3(σ:aq)(a b:V):Option Bool:=match a with
 |.ref n=>yS σ n b
 |_=>U
noncomputable def Tj(x y:Option PyData)(no:Option Bool):Option Bool:=match x with
 |some x=>(match y with
  |some y=>if min x.depth y.depth<=200 then I (PyData.eqv x y) else U
  |none=>no)
 |none=>no
def eG(σ:aq)(a b:V):Option Bool:=Tj (toPy σ a) (toPy σ b) (B3 σ a b)
def iM(σ:aq)(x:V):List V->Option Bool
 |[]=>I aH
 |y::r=>match eG σ y x,iM σ x r with
  |some e,some t=>I (e || t)
  |_,_=>U
noncomputable def strLt(a b:Str):Bool:=decide (a.cps.toList<b.cps.toList)
def among(a:V)(n:Nat):M Bool:=do
 match <-hF n with
 |.list l=>c1 λσ=>iM σ a l
 |.dict _ l=>bE ((keyOf a).map λk=>(ez l k).isSome)
 |_=>M.bad
def vB(a b:V):M Bool:=match b with
 |.ref n=>among a n
 |_=>M.bad
def oX(f:Int->Int->Bool)(a b:V):M V:=match a with
 |.int x=>(match b with
  |.int y=>pure (.bool (f x y))
  |_=>M.bad)
 |_=>M.bad
noncomputable def isNone:V->Bool
 |.none=>ak
 |_=>aH
def vy(a b:V):M Bool:=match b with
 |.none=>pure (isNone a)
 |_=>M.bad
def cmp(op:CmpOp)(a b:V):M V:=match op with
 |.Eq=>c1 λσ=>((eG σ a b).or (yT σ a b)).map V.bool
 |.NotEq=>c1 λσ=>(eG σ a b).map λe=>V.bool (!e)
 |.Lt=>oX (λx y=>decide (x<y)) a b
 |.LtE=>oX (λx y=>decide (x<=y)) a b
 |.Gt=>oX (λx y=>decide (y<x)) a b
 |.GtE=>oX (λx y=>decide (y<=x)) a b
 |.Is=>vy a b>>=λc=>pure (V.bool c)
 |.IsNot=>vy a b>>=λc=>pure (V.bool (!c))
 |.In=>vB a b>>=λc=>pure (V.bool c)
 |.NotIn=>vB a b>>=λc=>pure (V.bool (!c))
noncomputable def place(i:Int)(n:Nat):Option Nat:=
 if 0<=i then (if i<n then I i.toNat else U) else if 0<=i+n then I (i+n).toNat else U
noncomputable def hk(c:Nat):Str:=⟨#[c]⟩
def Bj(l:List V):V->M V
 |.int i=>bE ((place i l.length).bind λk=>l[k]?)
 |_=>M.bad
def item:V->V->M V
 |.tup l,.int i=>bE ((place i l.length).bind λk=>l[k]?)
 |.str s,.int i=>bE ((place i s.length).bind λk=>(s.cps[k]?).map λc=>V.str (hk c))
 |.ref n,b=>do
  match <-hF n with
  |.list l=>Bj l b
  |.dict _ l=>bE ((keyOf b).bind (ez l))
  |.et _ l=>bE ((lT b).bind (gL l))
  |_=>M.bad
 |_,_=>M.bad
def oR(n:Nat)(l:List V)(b v:V):M Unit:=match b with
 |.int i=>if 0<=i/\i<l.length then nH n (.list (l.set i.toNat v)) else M.bad
 |_=>M.bad
def p9(n:Nat)(l:jz)(b v:V):M Unit:=match lT b with
 |some k=>if l.length+1<=bz then AG n (ku l k v) else M.bad
 |none=>M.bad
def sL(n:Nat)(l:Tab)(b v:V):M Unit:=match keyOf b with
 |some k=>if l.length+1<=bz then putD n (lx l k v) else M.bad
 |none=>if l.isEmpty then p9 n [] b v else M.bad
def setItem:V->V->V->M Unit
 |.ref n,b,v=>do
  match <-hF n with
  |.list l=>oR n l b v
  |.dict _ l=>sL n l b v
  |.et _ l=>p9 n l b v
  |_=>M.bad
 |_,_,_=>M.bad
noncomputable def cut{α:Type}(l:List α)(lo aR:Option Int):List α:=
 (l.drop (lo.elim 0 (clipAt l.length))).take (aR.elim l.length (clipAt l.length)-lo.elim 0 (clipAt l.length))
def pC(s:Str)(lo aR:Option Int):Str:=⟨(cut s.cps.toList lo aR).toArray⟩
def iP(lo aR:Option Int):V->M V
 |.str s=>pure (.str (pC s lo aR))
 |.tup l=>pure (.tup (cut l lo aR))
 |.ref n=>do
  let l <-e8 n
  bP (.list (cut l lo aR))
 |_=>M.bad
def bound:V->M (Option Int)
 |.none=>pure U
 |.int i=>pure (I i)
 |_=>M.bad
inductive j8 where
 |tup(l:List V)
 |lst(n:Nat)
inductive Src where
 |vals(l:List V)
 |lst(n:Nat)
 |keys(n v:Nat)(l:List V)
 |enum(n:Nat)
 |zip(a b:j8)(c:Nat)
 |rev(n k:Nat)
def j8.all(σ:aq):j8->Option (List V)
 |.tup l=>I l
 |.lst n=>listAt σ n
noncomputable def nD(σ:aq)(n:Nat):Option Nat:=match σ[n]? with
 |some (.dict v _)=>I v
 |_=>U
noncomputable def pairUp(o p:Option V):Option V:=match o with
 |some x=>p.map λy=>V.tup [x,y]
 |none=>U
def Src.at(σ:aq):Src->Nat->Option (Option V)
 |.vals l,i=>I l[i]?
 |.lst n,i=>(listAt σ n).map λl=>l[i]?
 |.keys n v l,i=>if nD σ n=I v then I l[i]? else U
 |.enum n,i=>(listAt σ n).map λl=>(l[i]?).map λx=>V.tup [.int i,x]
 |.zip a b _,i=>(a.all σ).bind λl=>(b.all σ).map λm=>pairUp l[i]? m[i]?
 |.rev n k,i=>(listAt σ n).bind λl=>if l.length=k then I l.reverse[i]? else U
def Src.get(s:Src)(i:Nat):M (Option V):=c1 λσ=>s.at σ i
def Src.size(σ:aq):Src->Option Nat
 |.vals l=>I l.length
 |.lst n=>(listAt σ n).map (·.length)
 |.keys n v l=>if nD σ n=I v then I l.length else U
 |.enum n=>(listAt σ n).map (·.length)
 |.zip a b _=>(a.all σ).bind λl=>(b.all σ).map λm=>min l.length m.length
 |.rev n k=>(listAt σ n).bind λl=>if l.length=k then I k else U
def Src.count(s:Src):M Nat:=c1 s.size
def el:V->M Src
 |.tup l=>pure (.vals l)
 |.ref n=>do
  match <-hF n with
  |.list _=>pure (.lst n)
  |.dict v l=>pure (.keys n v (l.map λp=>l3 p.1))
  |_=>M.bad
 |_=>M.bad
noncomputable def lW(a b:Int):List V:=(eP (b-a).toNat).map λ(k:Nat)=>V.int (a+k)
noncomputable def allStrs:List V->Option (List Str)
 |[]=>I []
 |.str s::r=>(allStrs r).map (s :: ·)
 |_::_=>U
def vx:V->M (List V)
 |.tup l=>pure l
 |.ref n=>e8 n
 |_=>M.bad
def jx:V->M V
 |.tup l=>pure (.int l.length)
 |.ref n=>do
  let l <-e8 n
  pure (.int l.length)
 |_=>M.bad
def oe(a:V):M V:=match a with
 |.tup l=>bP (.list l)
 |.ref n=>do
  match <-hF n with
  |.list l=>bP (.list l)
  |.dict _ l=>bP (.list (l.map λp=>l3 p.1))
  |_=>M.bad
 |_=>M.bad
def lY(x:Str):List Str->List Str
 |[]=>[x]
 |y::r=>if strLt y x then y::lY x r else x::y::r
theorem sQ:lY x (y::r)=if strLt y x then y::lY x r else x::y::r:=rfl
def jj:List Str->List Str
 |[]=>[]
 |x::r=>lY x (jj r)
def xE(l:List V):Option (List V):=(allStrs l).map λss=>(jj ss).map V.str
noncomputable def headOf:V->Option Str
 |.tup l=>(match l with
  |x::_=>(match x with
   |.str s=>I s
   |_=>U)
  |[]=>U)
 |_=>U
def Mf(o p:Option Str):Bool:=match o with
 |some x=>(match p with
  |some y=>strLt x y
  |none=>aH)
 |none=>aH
def Cv:List V->Bool
 |[]=>aH
 |a::l=>(match l with
  |[]=>ak
  |b::r=>(match r with
   |[]=>Mf (headOf a) (headOf b)
   |_::_=>aH))
def my:V->M V
 |.ref n=>do
  let l <-e8 n
  if l.length<64 then do
   let r <-bE ((xE l).or (if Cv l then I l else U))
   bP (.list r)
  else M.bad
 |_=>M.bad
def lz(a b:V):M V:=match a with
 |.int x=>(match b with
  |.int y=>pure (.int (min x y))
  |_=>M.bad)
 |_=>M.bad
def ly(a:V):M V:=do
 let l <-vx a
 pure (.tup l)
def pairOf:V->Option (Key×V)
 |.tup l=>(match l with
  |[k,v]=>(keyOf k).map λk=>(k,v)
  |_=>U)
 |_=>U
def kvsOf:List V->Option Tab
 |[]=>I []
 |x::r=>(pairOf x).bind λp=>(kvsOf r).map λt=>p::t
def y3(l:Tab):Tab->Tab
 |[]=>l
 |(k,v)::r=>y3 (lx l k v) r
def r1:V->M V
 |.tup l=>do
  let t <-bE (kvsOf l)
  bP (.dict 0 (y3 [] t))
 |_=>M.bad
def Hw(f:Str)(a:V):M V:=
  if f=("len" : Str) then jx a
  else if f=("list" : Str) then oe a
  else if f=("tuple" : Str) then ly a
  else if f=("sorted" : Str) then my a
  else if f=("dict" : Str) then r1 a
  else M.bad
def blt(f:Str):List V->M V
 |[a]=>Hw f a
 |[a,b]=>if f=("min" : Str) then lz a b else M.bad
 |_=>M.bad
def A3:V->V->M V
 |.ref n,a=>do
  let l <-e8 n
  if l.length+1<=bz then do
   nH n (.list (l++[a]))
   pure .none
  else M.bad
 |_,_=>M.bad
def AZ:V->V->M V
 |.str sep,a=>do
  let l <-vx a
  let ss <-bE (allStrs l)
  if (ss.map (·.length)).sum+ss.length*sep.length<=16777216 then pure (.str (Txt.join sep ss)) else M.bad
 |_,_=>M.bad
def sD(σ:aq)(x:V):List V->Nat->Option Nat
 |[],_=>U
 |y::r,i=>match eG σ y x with
  |some true=>I i
  |some false=>sD σ x r (i+1)
  |none=>U
def A0:V->V->M V
 |.ref n,a=>do
  let l <-e8 n
  c1 λσ=>match iM σ a l with
   |some true=>(sD σ a l 0).map λ(k:Nat)=>V.int (k:Int)
   |_=>U
 |_,_=>M.bad
def AY:V->M V
 |.ref n=>do
  let l <-e8 n
  match l.getLast? with
  |some v=>do
   nH n (.list l.dropLast)
   pure v
  |none=>M.bad
 |_=>M.bad
def A1:V->V->M V
 |.ref n,.ref m=>do
  let l <-e8 n
  let k <-e8 m
  if n≠m/\l.length+k.length<=bz then do
   nH n (.list (l++k))
   pure .none
  else M.bad
 |_,_=>M.bad
def N3(n:Nat):M Tab:=c1 λσ=>dictAt σ n
def A2:V->V->V->M V
 |.ref n,k,v=>do
  let l <-N3 n
  match keyOf k with
  |some q=>(match ez l q with
   |some x=>pure x
   |none=>if l.length+1<=bz then do
     putD n (lx l q v)
     pure v
    else M.bad)
  |none=>M.bad
 |_,_,_=>M.bad
inductive qJ where
 |append|join|index|pop|extend|iz
 |own(c:Str)
noncomputable def l6(σ:aq)(n:Nat):Bool:=match σ[n]? with
 |some (.list _)=>ak
 |_=>aH
noncomputable def qu(σ:aq)(n:Nat):Option (List (Str×V)):=match σ[n]? with
 |some (.inst _ k)=>(match σ[k]? with
  |some (.bI l)=>I l
  |_=>U)
 |_=>U
noncomputable def jr(c m:Str):Str:=c++("." ++ m)
def vb(C:Cfg)(m:Str)(σ:aq)(n:Nat):Option Str:=(hh σ n).bind λc=>(C.cls c).bind λms=>(qu σ n).bind λl=>
 if ms.1.contains m&&(l.lookup m).isNone then I c else U
noncomputable def pd(σ:aq)(n:Nat):Bool:=match σ[n]? with
 |some (.dict _ _)=>ak
 |_=>aH
noncomputable def Ba(m:Str):Option qJ:=if m=("append" : Str) then I .append else if m=("index" : Str) then I .index else if m=("pop" : Str) then I .pop else if m=("extend" : Str) then I .extend else U
def dP(C:Cfg)(v:V)(m:Str)(σ:aq):Option qJ:=match v with
 |.str _=>if m=("join" : Str) then I .join else U
 |.ref n=>if l6 σ n then Ba m else if pd σ n then (if m=("setdefault" : Str) then I .iz else U)
  else (vb C m σ n).map .own
 |_=>U
def runM(C:Cfg)(m:Str):qJ->V->List V->M V
 |.own c,o,as=>C.call (jr c m) (o::as)
 |.append,o,[a]=>A3 o a
 |.join,o,[a]=>AZ o a
 |.index,o,[a]=>A0 o a
 |.pop,o,[]=>AY o
 |.extend,o,[a]=>A1 o a
 |.iz,o,[a,b]=>A2 o a b
 |_,_,_=>M.bad
noncomputable def s3(c:Str):M V:=⟨λk σ=>k (.ref (σ.length+1)) (σ++[O.bI [],.inst c σ.length]),λae az=>ab⟩
noncomputable def vC{α:Type}(r:V)(m:M α):M α:=⟨λk σ=>match r with
 |.none=>m.go k σ
 |_=>.bad,λk σ=>by
 cases r with
 |none=>exact m.nat k σ
 |_=>rfl⟩
def fv(C:Cfg)(c:Str)(vs:List V):M V:=do
 let o <-s3 c
 let r <-C.call (jr c "__init__") (o::vs)
 vC r (pure o)
noncomputable def hH(l:List (Str×V))(m:Str)(v:V):List (Str×V):=if (l.lookup m).isSome then l.map (λp=>if p.1==m then (p.1,v) else p) else l++[(m,v)]
def u7(n:Nat)(m:Str)(v:V):M Unit:=⟨λk σ=>match σ[n]? with
 |some (.inst _ j)=>(match σ[j]? with
  |some (.bI l)=>if 0<j/\l.length+1<=bz then k () (σ.set j (.bI (hH l m v))) else .bad
  |_=>.bad)
 |_=>.bad,λk σ=>by
 induction σ[n]? with
 |none=>rfl
 |some o=>induction o with
  |inst c j=>
   dsimp only
   induction σ[j]? with
   |none=>rfl
   |some o=>induction o with
    |bI l=>exact x9 (r:=.ok () _)
    |_=>rfl
  |_=>rfl⟩
noncomputable def excAt(σ:aq)(n:Nat):Option Str:=match σ[n]? with
 |some (.exc c)=>I c
 |_=>U
def BW(C:Cfg)(m:Str)(σ:aq)(n:Nat):Option Unit:=(hh σ n).bind λc=>(C.cls c).bind λms=>if ms.2.contains m then I () else U
def d5(C:Cfg)(m:Str)(v:V):V->M Unit
 |.ref n=>do
  let _ <-c1 λσ=>BW C m σ n
  u7 n m v
 |_=>M.bad
def cc(C:Cfg)(m:Str):V->M V
 |.ref n=>c1 λσ=>(hh σ n).bind λc=>(C.cls c).bind λms=>if ms.2.contains m then (qu σ n).bind λl=>l.lookup m else U
 |_=>M.bad
inductive a6 where
 |next|brk|cont
 |ret(v:V)
noncomputable def ca(ns:ct)(names:ct):ct:=names.map λ(x,k)=>if k == .free&&ns.lookup x==I .cell then (x,.cell) else (x,k)
def eL(ns:ct)(loc:Loc):ct->M Loc
 |[]=>pure []
 |(x,.free)::r=>(match slot ns x with
  |some (i,.cell)=>do
   let t <-eL ns loc r
   pure (((loc[i]?).getD U)::t)
  |_=>M.bad)
 |(_,.cell)::_=>M.bad
 |(_,_)::r=>do
  let t <-eL ns loc r
  pure (U::t)
theorem vA:eL ns loc ((x,.free)::r)=(match slot ns x with|some (i,.cell)=>(do let t <-eL ns loc r;pure (((loc[i]?).getD U)::t))|_=>M.bad):=rfl
def jZ(ns:ct)(x:Str):Bool:=match slot ns x with
 |some (_,.globalImplicit)=>!(x==("__debug__" : Str))
 |_=>aH
def compLoop(s:Src)(tP:V->Loc->M Loc)(tests:Loc->M Bool)(elt:Loc->M V):Nat->Nat->Loc->M (List V)
 |0,_,_=>M.bad
 |k+1,i,loc=>do
  match <-s.get i with
  |none=>pure []
  |some v=>do
   let bJ <-tP v loc
   if <-tests bJ then do
    let x <-elt bJ
    let r <-compLoop s tP tests elt k (i+1) bJ
    pure (x::r)
   else compLoop s tP tests elt k (i+1) bJ
noncomputable def x6:Expr->Option (Str×Pos)
 |.Name x p=>I (x,p)
 |_=>U
def x5:List Expr->Option (List (Str×Pos))
 |[]=>I []
 |t::eB=>(x6 t).bind λq=>(x5 eB).map λdF=>q::dF
def r0(st:Str->V->Loc->M Loc):List (Str×Pos)->List V->Loc->M Loc
 |[],[],loc=>pure loc
 |q::dF,v::vs,loc=>do
  let bJ <-st q.1 v loc
  r0 st dF vs bJ
 |_,_,_=>M.bad
def bindNames(st:Str->V->Loc->M Loc)(eB:List Expr)(l:List V)(loc:Loc):M Loc:=match x5 eB with
 |some dF=>r0 st dF l loc
 |none=>M.bad
noncomputable def Ad:Expr->Option (List Expr×Nat×Pos)
 |.Tuple eB k p=>I (eB,k,p)
 |_=>U
def bindTo(st:Str->V->Loc->M Loc)(t:Expr)(v:V)(loc:Loc):M Loc:=match x6 t with
 |some q=>st q.1 v loc
 |none=>match Ad t with
  |some q=>(match v with
   |.tup l=>bindNames st q.1 l loc
   |_=>M.bad)
  |none=>M.bad
def nV(C:Cfg)(ns:ct)(x:Str)(loc:Loc):M V:=match slot ns x with
 |some (i,.local)=>ldLoc loc i
 |some (i,.cell)=>ldLoc loc i
 |some (_,.globalImplicit)=>bE (C.glob x)
 |_=>M.bad
noncomputable def yj:Expr->Bool
 |.Call (.Name _ _) [] [] _=>ak
 |_=>aH
noncomputable def pa:Expr->Bool
 |.Starred _ _=>ak
 |_=>aH
def rq(aT:List Expr):Bool:=aT.all λe=>!pa e
noncomputable def Cr:List Str:=["len", "list", "tuple", "sorted", "dict", "min"]
def Ho(C:Cfg)(ns:ct)(f:Str)(aT:List Expr):Bool:=jZ ns f&&(rq aT&&(C.isFn f || ((C.cls f).isSome || Cr.contains f)))
noncomputable def nameIn(e:Expr):Option {t:Str // ∃p,e=.Name t p}:=match e with
 |.Name t p=>I ⟨t,p,ab⟩
 |_=>U
noncomputable def F1(e:Expr):Option {i:Int // ∃k p,e=.Constant (.int i) k p}:=match e with
 |.Constant c k p=>(match c with
  |.int i=>I ⟨i,k,p,ab⟩
  |_=>U)
 |_=>U
noncomputable def subIn(e:Expr):Option {q:Expr×Expr×Pos // e=.Subscript q.1 q.2.1 q.2.2}:=match e with
 |.Subscript o i p=>I ⟨(o,i,p),ab⟩
 |_=>U
noncomputable def Hp(e:Expr):Option {q:Expr×List Expr×Pos // e=.Call q.1 q.2.1 [] q.2.2}:=match e with
 |.Call f as ks p=>(match ks with
  |[]=>I ⟨(f,as,p),ab⟩
  |_::_=>U)
 |_=>U
noncomputable def xW(l:List Expr):Option {t:Expr // l=[t]}:=match l with
 |[t]=>I ⟨t,ab⟩
 |_=>U
noncomputable def HJ(e:Expr):Option {q:Expr×Str×Pos // e=.Attribute q.1 q.2.1 q.2.2}:=match e with
 |.Attribute o m p=>I ⟨(o,m,p),ab⟩
 |_=>U
noncomputable def xn(e:Expr):Option {q:List Expr×Nat×Pos // e=.Tuple q.1 q.2.1 q.2.2}:=match e with
 |.Tuple eB k p=>I ⟨(eB,k,p),ab⟩
 |_=>U
def wj(C:Cfg)(f:Str)(vs:List V):M V:=if C.isFn f then C.call f vs else if (C.cls f).isSome then fv C f vs else if C.calm then blt f vs else M.bad
def k6:V->M Src
 |.int n=>if -1000000<=n/\n<=1000000 then pure (.vals (lW 0 n)) else M.bad
 |_=>M.bad
def yU:V->M Src
 |.ref n=>do
  let _ <-e8 n
  pure (.enum n)
 |_=>M.bad
def uY:V->M Src
 |.tup l=>pure (.vals l.reverse)
 |.ref n=>do
  let l <-e8 n
  pure (.rev n l.length)
 |_=>M.bad
def oE:V->M j8
 |.tup l=>pure (.tup l)
 |.ref n=>do
  let _ <-e8 n
  pure (.lst n)
 |_=>M.bad
noncomputable def refOf:V->Nat
 |.ref n=>n
 |_=>0
def mT(a b:V):M Src:=do
 let x <-oE a
 let y <-oE b
 let c <-bP .cache
 pure (.zip x y (refOf c))
noncomputable def FX:Expr->Bool
 |.Tuple _ _ _=>ak
 |_=>aH
def gz(s:Src)(t:Expr):Bool:=match s with
 |.enum _=>FX t
 |.zip _ _ _=>FX t
 |_=>ak
noncomputable def gS(k:ScopeKind)(names:ct):Bool:=(match k with|.function=>ak|_=>aH) &&
 names.all λp=>match p.2 with
  |.local=>(match names.lookup p.1 with|some .local=>ak|_=>aH)
  |_=>ak
def ji(C:Cfg)(ns:ct)(f:Str):Nat:=if jZ ns f && !C.isFn f then (if f=("range" : Str) then 1 else if f=("enumerate" : Str) then 2 else if f=("reversed" : Str) then 3 else if f=("zip" : Str) then 4 else 0) else 0
def Kr(t:Nat)(v:V):M Src:=if t=1 then k6 v else if t=2 then yU v else if t=3 then uY v else M.bad
def y8{α:Type}(x:V)(yes no:M α):M α:=⟨λk σ=>match x with
 |.bool b=>cond b (yes.go k σ) (no.go k σ)
 |_=>.bad,λk σ=>by
 induction x using V.casesOn with
 |bool b=>induction b with
  |true=>exact yes.nat k σ
  |false=>exact no.nat k σ
 |_=>rfl⟩
mutual
noncomputable def ev(C:Cfg):Expr->ct->Loc->M V
 |.Constant c _ _,_,_=>OS c
 |.Name x _,ns,loc=>if x=("__debug__" : Str) then M.bad else nV C ns x loc
 |.BinOp l op r _,ns,loc=>do
  let a <-ev C l ns loc
  let b <-ev C r ns loc
  binop op a b
 |.UnaryOp op x _,ns,loc=>(match op with
  |.Not=>do
   let a <-ev C x ns loc
   let t <-truth a
   pure (.bool (!t))
  |.USub=>(match F1 x with
   |some i=>pure (.int (-i.1))
   |none=>M.bad)
  |_=>M.bad)
 |.BoolOp op vs _,ns,loc=>B1 C vs op ns loc
 |.Compare l [op] [r] _,ns,loc=>do
  let a <-ev C l ns loc
  let b <-ev C r ns loc
  cmp op a b
 |.Compare l [op,kz] [m,r] _,ns,loc=>do
  let a <-ev C l ns loc
  let b <-ev C m ns loc
  let x <-cmp op a b
  y8 x (do
   let c <-ev C r ns loc
   cmp kz b c) (pure (.bool aH))
 |.Dict [] [] _,_,_=>bP (.dict 0 [])
 |.IfExp t a b _,ns,loc=>do
  let c <-d4 C t ns loc (ev C t ns loc)
  M.cond c (ev C a ns loc) (ev C b ns loc)
 |.Subscript o (.Slice lo aR none _) _,ns,loc=>do
  let a <-ev C o ns loc
  let l <-tL C lo ns loc
  let h <-tL C aR ns loc
  let l' <-bound l
  let h' <-bound h
  iP l' h' a
 |.Subscript o i _,ns,loc=>do
  let a <-ev C o ns loc
  let b <-ev C i ns loc
  item a b
 |.List aT _,ns,loc=>do
  let vs <-kL C aT ns loc
  if vs.length<=bz then bP (.list vs) else M.bad
 |.Tuple aT _ _,ns,loc=>do
  let vs <-kL C aT ns loc
  if vs.length<=bz then pure (.tup vs) else M.bad
 |.Call (.Name f _) as [] _,ns,loc=>
  if Ho C ns f as then (do
   let vs <-kL C as ns loc
   wj C f vs) else M.bad
 |.Call (.Attribute o m ap) as [] p,ns,loc=>
  if ap.endLine=p.line/\as.length<30/\yj o=aH/\rq as=ak then (do
   let v <-ev C o ns loc
   let Ei <-c1 (dP C v m)
   let vs <-kL C as ns loc
   runM C m Ei v vs)
  else M.bad
 |.Attribute o m _,ns,loc=>if yj o=aH then do
   let v <-ev C o ns loc
   cc C m v
  else M.bad
 |.ListComp elt [⟨target,iter,ifs,0⟩] scope _,ns,loc=>do
  let s <-src C iter ns loc (ev C iter ns loc)
  if C.calm&&(gz s target&&gS scope.kind scope.names) then do
   let n <-s.count
   if n<=bz then do
    let bJ <-eL ns loc scope.names
    let l <-compLoop s (bindTo (ff (ca ns scope.names)) target) (tests C ifs (ca ns scope.names)) (ev C elt (ca ns scope.names)) (n+1) 0 bJ
    bP (.list l)
   else M.bad
  else M.bad
 |_,_,_=>M.bad
noncomputable def tL(C:Cfg):Option Expr->ct->Loc->M V
 |none,_,_=>pure .none
 |some e,ns,loc=>ev C e ns loc
noncomputable def kL(C:Cfg):List Expr->ct->Loc->M (List V)
 |[],_,_=>pure []
 |e::r,ns,loc=>do
  let v <-ev C e ns loc
  let vs <-kL C r ns loc
  pure (v::vs)
noncomputable def B1(C:Cfg):List Expr->BoolOp->ct->Loc->M V
 |[],_,_,_=>M.bad
 |e::r,op,ns,loc=>do
  let v <-ev C e ns loc
  match r with
  |[]=>pure v
  |_::_=>do
   let t <-truth v
   match op with
   |.And=>M.cond t (B1 C r op ns loc) (pure v)
   |.Or=>M.cond t (pure v) (B1 C r op ns loc)
noncomputable def d4(C:Cfg):Expr->ct->Loc->M V->M Bool
 |.UnaryOp .Not x _,ns,loc,_=>do
  let b <-d4 C x ns loc (ev C x ns loc)
  pure (!b)
 |.BoolOp op vs _,ns,loc,_=>Ac C vs op ns loc
 |.IfExp t a b _,ns,loc,_=>do
  let c <-d4 C t ns loc (ev C t ns loc)
  M.cond c (d4 C a ns loc (ev C a ns loc)) (d4 C b ns loc (ev C b ns loc))
 |_,_,_,whole=>do
  let v <-whole
  truth v
noncomputable def Ac(C:Cfg):List Expr->BoolOp->ct->Loc->M Bool
 |[],op,_,_=>pure (op == .And)
 |e::r,op,ns,loc=>do
  let b <-d4 C e ns loc (ev C e ns loc)
  match op with
  |.And=>M.cond b (Ac C r op ns loc) (pure aH)
  |.Or=>M.cond b (pure ak) (Ac C r op ns loc)
noncomputable def tests(C:Cfg):List Expr->ct->Loc->M Bool
 |[],_,_=>pure ak
 |e::r,ns,loc=>match r with
  |[]=>d4 C e ns loc (ev C e ns loc)
  |_::_=>M.bad
noncomputable def src(C:Cfg):Expr->ct->Loc->M V->M Src
 |.Call (.Name f _) as [] _,ns,loc,whole=>
  (match as with
  |[a]=>if (ji C ns f=1\/ji C ns f=2)\/ji C ns f=3 then (do
    let v <-ev C a ns loc
    Kr (ji C ns f) v)
   else (do
    let v <-whole
    el v)
  |[a,b]=>if ji C ns f=4/\pa b=aH then (do
    let v <-ev C a ns loc
    let w <-ev C b ns loc
    mT v w)
   else (do
    let v <-whole
    el v)
  |_=>do
   let v <-whole
   el v)
 |_,_,_,whole=>do
  let v <-whole
  el v
end
def yO(C:Cfg)(t:Str):V->M Bool
 |.ref n=>do
  match <-hF n with
  |.exc c=>bE ((C.ups c).map λus=>us.contains t)
  |_=>M.bad
 |_=>M.bad
def clause(C:Cfg)(loc:Loc)(t:Str)(body:Loc->M (a6×Loc))(e:V):M (a6×Loc):=do
 if <-yO C t e then M.safe (body loc) else M.bad
noncomputable def textOf(e:Expr):Option {x:Str // ∃k p,e=.Constant (.str x) k p}:=match e with
 |.Constant c k p=>(match c with
  |.str x=>I ⟨x,k,p,ab⟩
  |_=>U)
 |_=>U
noncomputable def Fx(e:Expr):Option {q:Str×List Expr // ∃p r,e=.Call (.Name q.1 p) q.2 [] r}:=match e with
 |.Call f as ks r=>(match f with
  |.Name c p=>(match ks with
   |[]=>I ⟨(c,as),p,r,ab⟩
   |_=>U)
  |_=>U)
 |_=>U
def uO{α:Type}(c:Str)(e:V):M α:=⟨λae σ=>match e with
 |.ref n=>(match excAt σ n with
  |some q=>if q=c then .exc e σ else .bad
  |none=>.bad)
 |_=>.bad,λk σ=>by
 induction e using V.casesOn with
 |ref n=>
  dsimp only
  induction excAt σ n with
  |none=>rfl
  |some q=>exact x9 (r:=.exc _ _)
 |_=>rfl⟩
theorem J1{α:Type}{c:Str}{n:Nat}{σ:aq}:(uO c (.ref n):M α) σ=(match excAt σ n with|some q=>if q=c then .exc (.ref n) σ else .bad|none=>.bad):=rfl
def raiseOf(C:Cfg)(ns:ct)(c:Str)(as:List Expr):M (a6×Loc):=match C.ups c with
 |some _=>if C.calm&&jZ ns c then (match xW as with
   |some a=>(match textOf a.1 with
    |some x=>if gW x.1 then (do
      let e <-bP (.exc c)
      uO c e) else M.bad
    |none=>M.bad)
   |none=>M.bad) else M.bad
 |none=>M.bad
def Oi(C:Cfg)(ns:ct):Option Expr->Option Expr->M (a6×Loc)
 |some e,none=>(match Fx e with
  |some q=>raiseOf C ns q.1.1 q.1.2
  |none=>M.bad)
 |_,_=>M.bad
inductive r8 where
 |run(e:Expr)
 |asg(x:Str)(e:Expr)
noncomputable def r8.expr:r8->Expr
 |.run e=>e
 |.asg _ e=>e
inductive HX:Stmt->r8->Prop
 |run(f:Expr)(as:List Expr)(p q:Pos):HX (.Expr (.Call f as [] p) q) (.run (.Call f as [] p))
 |asg(x:Str)(f:Expr)(as:List Expr)(p q r:Pos):HX (.Assign [.Name x r] (.Call f as [] p) q) (.asg x (.Call f as [] p))
noncomputable def tryOne(st:Stmt):Option {f:r8 // HX st f}:=match st with
 |.Expr (.Call f as [] p) q=>I ⟨.run (.Call f as [] p),.run f as p q⟩
 |.Assign [.Name x r] (.Call f as [] p) q=>I ⟨.asg x (.Call f as [] p),.asg x f as p q r⟩
 |_=>U
def xo:List Stmt->Option r8
 |[st]=>(tryOne st).map (·.1)
 |_=>U
def xp(ns:ct)(loc:Loc):r8->V->M (a6×Loc)
 |.run _,_=>pure (.next,loc)
 |.asg x _,v=>do
  let bJ <-stLoc ns x v loc
  pure (.next,bJ)
noncomputable def dA{α:Type}(K:a6×Loc->M α)(next:Loc->M α)(r:a6×Loc):M α:=⟨λk σ=>match r.1 with
 |.next=>(next r.2).go k σ
 |f=>(K (f,r.2)).go k σ,λk σ=>by
 obtain⟨f,loc⟩:=r
 induction f with
 |next=>exact(next loc).nat k σ
 |brk=>exact(K (.brk,loc)).nat k σ
 |cont=>exact(K (.cont,loc)).nat k σ
 |ret v=>exact(K (.ret v,loc)).nat k σ⟩
def andThen(r:a6×Loc)(k:Loc->M (a6×Loc)):M (a6×Loc):=dA (λx=>pure x) k r
def hP(test:Loc->M Bool)(body:Loc->M (a6×Loc)):Nat->Loc->M (a6×Loc)
 |0,_=>M.bad
 |k+1,loc=>do
  let c <-test loc
  M.cond c (do
   let r <-body loc
   match r.1 with
   |.next=>hP test body k r.2
   |.cont=>hP test body k r.2
   |.brk=>pure (.next,r.2)
   |.ret v=>pure (.ret v,r.2)) (pure (.next,loc))
open Classical in
def oF(test:Loc->M Bool)(body:Loc->M (a6×Loc))(loc:Loc)(σ:aq):Res (a6×Loc):=
 if h:∃n,hP test body n loc σ≠.bad then hP test body (Classical.choose h) loc σ else .bad
def sC(test:Loc->M Bool)(body:Loc->M (a6×Loc))(loc:Loc):M (a6×Loc):=
 ⟨λk σ=>(oF test body loc σ).bind k,λk σ=>by cases oF test body loc σ <;> rfl⟩
def forLoop(s:Src)(tP:V->Loc->M Loc)(body:Loc->M (a6×Loc)):Nat->Nat->Loc->M (a6×Loc)
 |0,_,_=>M.bad
 |k+1,i,loc=>do
  match <-s.get i with
  |none=>pure (.next,loc)
  |some v=>do
   let bJ <-tP v loc
   let r <-body bJ
   match r.1 with
   |.next=>forLoop s tP body k (i+1) r.2
   |.cont=>forLoop s tP body k (i+1) r.2
   |.brk=>pure (.next,r.2)
   |.ret v=>pure (.ret v,r.2)
def yP(C:Cfg)(t value:Expr)(ns:ct)(loc:Loc):M (a6×Loc):=match nameIn t with
 |some x=>do
  let v <-ev C value ns loc
  let bJ <-stLoc ns x.1 v loc
  pure (.next,bJ)
 |none=>match subIn t with
  |some q=>do
   let v <-ev C value ns loc
   let a <-ev C q.1.1 ns loc
   let b <-ev C q.1.2.1 ns loc
   setItem a b v
   pure (.next,loc)
  |none=>match HJ t with
   |some q=>do
    let v <-ev C value ns loc
    let a <-ev C q.1.1 ns loc
    d5 C q.1.2.1 v a
    pure (.next,loc)
   |none=>match xn t with
    |some _=>if C.calm&&(xn value).isNone then do
      let v <-ev C value ns loc
      let bJ <-bindTo (stLoc ns) t v loc
      pure (.next,bJ)
     else M.bad
    |none=>M.bad
mutual
noncomputable def ex(C:Cfg):Stmt->ct->Loc->M (a6×Loc)
 |.Expr e _,ns,loc=>(match Hp e with
  |some _=>do
   let _ <-ev C e ns loc
   pure (.next,loc)
  |none=>M.bad)
 |.Pass _,_,loc=>pure (.next,loc)
 |.Return none _,_,loc=>pure (.ret .none,loc)
 |.Return (some e) _,ns,loc=>do
  let v <-ev C e ns loc
  pure (.ret v,loc)
 |.Assign eB value _,ns,loc=>(match xW eB with
  |some t=>yP C t.1 value ns loc
  |none=>M.bad)
 |.If t a b _,ns,loc=>do
  let c <-d4 C t ns loc (ev C t ns loc)
  M.cond c (cm C a ns loc) (cm C b ns loc)
 |.For target iter body [] _,ns,loc=>do
  let s <-src C iter ns loc (ev C iter ns loc)
  if C.calm&&gz s target then do
   let n <-s.count
   forLoop s (bindTo (stLoc ns) target) (cm C body ns) (n+1) 0 loc
  else M.bad
 |.While t body [] _,ns,loc=>sC (λl=>d4 C t ns l (ev C t ns l)) (cm C body ns) loc
 |.Raise e c _,ns,loc=>Oi C ns e c
 |.Try body aD qx fin _,ns,loc=>if C.calm&&(qx.isEmpty&&(fin.isEmpty && !aD.isEmpty)) then (match xo body with
  |some f=>M.k3 (ev C f.expr ns loc) (xp ns loc f) (tK C aD ns loc)
  |none=>M.bad) else M.bad
 |_,_,_=>M.bad
noncomputable def cm(C:Cfg):List Stmt->ct->Loc->M (a6×Loc)
 |[],_,loc=>pure (.next,loc)
 |s::r,ns,loc=>do
  let x <-ex C s ns loc
  andThen x (cm C r ns)
noncomputable def tK(C:Cfg):List ExceptHandler->ct->Loc->V->M (a6×Loc)
 |[.ExceptHandler (some ty) none (b::bs) _],ns,loc,e=>(match nameIn ty with
  |some t=>if jZ ns t.1&&(C.ups t.1).isSome then clause C loc t.1 (cm C.l9 (b::bs) ns) e else M.bad
  |none=>M.bad)
 |_,_,_,_=>M.bad
end
structure cX where
 params:List Str
 names:ct
 body:List Stmt
noncomputable def te(params:List Str)(args:List V):ct->Loc
 |[]=>[]
 |(x,_)::r=>((params.zip args).lookup x)::te params args r
def y7(C:Cfg)(f:cX)(args:List V):M V:=
 if args.length=f.params.length then do
  let r <-cm C f.body f.names (te f.params args f.names)
  pure (match r.1 with|.ret v=>v|_=>.none)
 else M.bad
structure gU where
 fns:Str->Option cX
 ms:Str->Option cX
 glob:Str->Option V
 ups:Str->Option (List Str)
 cls:Str->Option (List Str×List Str)
noncomputable def gU.at(T:gU)(f:Str):Option cX:=(T.fns f).or (T.ms f)
def rX(T:gU):Nat->Str->List V->M V
 |0,_,_=>M.bad
 |n+1,f,args=>match T.at f with
  |some fn=>y7 ⟨λx=>(T.fns x).isSome,rX T n,T.glob,ak,T.ups,T.cls⟩ fn args
  |none=>M.bad
theorem O7:rX T (n+1) f args=match T.at f with|some fn=>y7 ⟨λx=>(T.fns x).isSome,rX T n,T.glob,ak,T.ups,T.cls⟩ fn args|none=>M.bad:=rfl
section
variable {σ:aq}{loc:Loc}
theorem We(a b:Int)(i:Nat):(lW a b)[i]? =if i<(b-a).toNat then I (.int (a+i)) else U:=by
 unfold lW;rw[ki];by_cases h:i<(b-a).toNat
 ·rw[bj h,List.getElem?_range h];rfl
 ·rw[bH h,iL (by simpa using h)];rfl
theorem wk{α β:Type}{m:M α}{f:α->M β}{b:β}{cE:aq}(h:(m>>=f) σ=.ok b cE):∃a a0,m σ=.ok a a0/\f a a0=.ok b cE:=by
 induction e:m σ with
 |bad=>rw[cS e]at h;exact iF h
 |exc v a0=>rw[e1 e]at h;exact sU h.symm
 |ok a a0=>rw[aN e]at h;exact⟨a,a0,ab,h⟩
theorem Ci(h:bA.at σ i=I o):compLoop bA bt tt cu (k+1) i loc σ =
  (match o with|none=>(pure []:M (List V))|some v=>(bt v loc>>=λbJ=>tt bJ>>=λc=>if c=ak then (cu bJ>>=λx=>compLoop bA bt tt cu k (i+1) bJ>>=λr=>pure (x::r)) else compLoop bA bt tt cu k (i+1) bJ)) σ:=by
 show(bA.get i>>=_) σ=_;refine(aN (a:=o) (af:=σ) (by unfold Src.get;rw[hU,h])).trans ?_;cases o <;> rfl
theorem OV(h:bA.at σ i=U):compLoop bA bt tt cu (k+1) i loc σ=.bad:=by
 show(bA.get i>>=_) σ=_;rw[cS (by unfold Src.get;rw[hU,h])]
theorem N7(h:bA.at σ i=I o):forLoop bA bt body (k+1) i loc σ =
  (match o with|none=>(pure (.next,loc):M (a6×Loc))|some v=>(bt v loc>>=λbJ=>body bJ>>=λr=>match r.1 with
   |.next=>forLoop bA bt body k (i+1) r.2
   |.cont=>forLoop bA bt body k (i+1) r.2
   |.brk=>pure (.next,r.2)
   |.ret v=>pure (.ret v,r.2))) σ:=by
 show(bA.get i>>=_) σ=_;refine(aN (a:=o) (af:=σ) (by unfold Src.get;rw[hU,h])).trans ?_;cases o <;> rfl
theorem iD(n:Nat):e8 n σ=(match σ[n]? with|some (.list l)=>.ok l σ|_=>.bad):=by
 unfold e8
 induction e:σ[n]? with
 |none=>rw[cS (by rw[nh,e])]
 |some o=>
  rw[aN (a:=o) (af:=σ) (by rw[nh,e])];cases o <;> rfl
theorem length_append(x y:Str):(x++y).length=x.length+y.length:=by
 show(x.cps++y.cps).size=_;exact Array.size_append ..
theorem Cg{α:Type}(l:List α)(lo aR:Option Int):(Mine.Internal.cut l lo aR).length<=l.length:=by
 unfold Mine.Internal.cut;rw[Dx,I5];exact b7 (RV _ _) (Dr _ _)
theorem ra(dW:0<n)(aM:n<σ.length):nH n o σ=.ok () (σ.set n o):=by rw[Kz,bj ⟨dW,aM⟩]
theorem Kd(h:i+1<=j):j-i=(j-(i+1))+1:=by
 rw[ajE,IV (Nat.le_sub_of_add_le (by rw[zO];exact h))]
theorem dy{α:Type}{l:List α}{n:Nat}{a:α}(h:l[n]? =I a):n<l.length:=by
 rcases kh n l.length with aj|aj
 ·exact aj
 ·rw[iL aj]at h;exact bh h
theorem AH(dW:0<n)(h:σ[n]? =I (.dict v l)):putD n m σ=.ok () (σ.set n (.dict (v+1) m)):=by
 show(match σ[n]? with|some (.dict v _)=>if 0<n then Res.ok () (σ.set n (.dict (v+1) m)) else .bad|_=>.bad)=_;rw[h];exact bj dW
theorem Lq(dW:¬0<n):putD n m σ=.bad:=by
 show(match σ[n]? with|some (.dict v _)=>if 0<n then Res.ok () (σ.set n (.dict (v+1) m)) else .bad|_=>.bad)=_
 induction σ[n]? with
 |none=>rfl
 |some o=>induction o with
  |dict v l=>exact bH dW
  |_=>rfl
theorem Ao(dW:¬0<n):nH n o σ=.bad:=by rw[Kz,bH λh=>dW h.1]
end
end Mine.Internal
namespace Mine.Internal
open PySem PyProof.Rows
noncomputable abbrev Map:=List (Addr×Nat)
noncomputable def dJ(vs:List aw)(n:Nat):Obj:={ cls:=.type "tuple",data:=.seq vs.toArray n }
noncomputable def er(vs:List aw)(n:Nat):Obj:={ cls:=.type "list",data:=.seq vs.toArray n }
def cT(ρ:Map)(b:Addr):Prop:=∀p∈ρ,b≠p.1
mutual
inductive Rel(ρ:Map)(h:Heap):aw->V->Prop
 |none:Rel ρ h .none .none
 |bool(b:Bool):Rel ρ h (.bool b) (.bool b)
 |int(i:Int)(t:Tok):Rel ρ h (.int i t) (.int i)
 |str(x:Str)(t:Tok):gW x->Rel ρ h (.str x t) (.str x)
 |tup{a:Addr}{vs:List aw}{n:Nat}{l:List V}:cT ρ a->h.get? a=some (dJ vs n)->vs.length<=bz->b9 ρ h vs l->Rel ρ h (.ref a) (.tup l)
 |ref{a:Addr}{d n:Nat}:ρ[n]? =some (a,d)->Rel ρ h (.ref a) (.ref n)
inductive b9(ρ:Map)(h:Heap):List aw->List V->Prop
 |nil:b9 ρ h [] []
 |cons{v:aw}{vs:List aw}{x:V}{l:List V}:Rel ρ h v x->b9 ρ h vs l->b9 ρ h (v::vs) (x::l)
end
noncomputable def nW:Key->aw->Bool
 |.inl i,v=>Value.isInt i v
 |.inr x,v=>Value.isStrOf x v
noncomputable def keyHash(w:World):Key->Int
 |.inl i=>hashInt i
 |.inr x=>hashStr w x
theorem FO:∀{k:Key}{v:aw},nW k v=ak->(∃i t,k=.inl i/\v=.int i t)\/∃x t,k=.inr x/\v=.str x t
 |.inl i,v,h=>by obtain⟨t,e⟩:=Value.isInt_shape (k:=i) h;exact .inl ⟨i,t,ab,e⟩
 |.inr x,v,h=>by obtain⟨t,e⟩:=Value.isStrOf_shape (x:=x) h;exact .inr ⟨x,t,ab,e⟩
theorem MJ(i:Int)(t:Tok):Value.isInt i (.int i t)=ak:=by simp [Value.isInt]
theorem MI(x:Str)(t:Tok):Value.isStrOf x (.str x t)=ak:=by simp [Value.isStrOf]
theorem aca(h:Q aH s):a3 (bk prog w) A (eqBool (.int a t) (.str b u)) Q E s:=by
 unfold eqBool;refine ir ?_;have e:(Value.int a t==Value.str b u)=aH:=rfl;rw[bH (by rw[e];decide)];show a3 _ _ (compareOp .Eq (Value.int a t) (Value.str b u)>>=_) Q E s;exact aJ (EqMixed.eq_int_str (Dh h))
theorem ab9(h:Q aH s):a3 (bk prog w) A (eqBool (.str b u) (.int a t)) Q E s:=by
 unfold eqBool;refine ir ?_;have e:(Value.str b u==Value.int a t)=aH:=rfl;rw[bH (by rw[e];decide)];show a3 _ _ (compareOp .Eq (Value.str b u) (Value.int a t)>>=_) Q E s;exact aJ (EqMixed.eq_str_int (Dh h))
inductive zv:Key->aw->Prop
 |int(i:Int)(t:Tok):zv (.inl i) (.int i t)
 |str(x:Str)(t:Tok):zv (.inr x) (.str x t)
theorem ta{k:Key}{v:aw}(h:nW k v=ak):zv k v:=by
 rcases FO h with ⟨i,t,rfl,rfl⟩|⟨x,t,rfl,rfl⟩
 ·exact .int i t
 ·exact .str x t
noncomputable def Tc(v:aw):Option Key:=match v with
 |.int i _=>I (.inl i)
 |.str x _=>I (.inr x)
 |_=>U
theorem zv.val(h:zv k v):Tc v=I k:=by induction h with
 |int i t=>rfl
 |str x t=>rfl
theorem OK{α β:Type}[DecidableEq α] [DecidableEq β] {f:α->β}{i j:α}(a8:f i=f j->i=j):decide (i=j)=decide (f i=f j):=IQ.mpr ⟨λh=>by rw[h],a8⟩
def keyKind(prog:Program)(w:World):KeyKind prog w Key where
 is:=nW
 hash:=keyHash w
 inj:=λv a b bu al=>mQ ((ta bu).val.symm.trans (ta al).val)
 byValue:=λk v h=>by
  have q:=ta h;clear h
  induction q with
  |int i t=>rfl
  |str x t=>rfl
 pyHash:=λaK h=>by
  have q:=ta aK;clear aK
  induction q with
  |int i t=>exact wpAny_pyHash_int h
  |str x t=>exact wpAny_pyHash_str h
 eqBool:=λ{A E s a b u v Q} cF aK h=>by
  have p:=ta cF;have q:=ta aK;clear cF aK
  induction p with
  |int i t=>induction q with
   |int j bX=>
    refine wpAny_eqBool_int ?_;rw[show(i==j)=decide ((Sum.inl i:Key)=.inl j) from(OK ajk:decide (i=j)=_)];exact h
   |str y bX=>exact aca h
  |str x t=>induction q with
   |int j bX=>exact ab9 h
   |str y bX=>
    refine wpAny_eqBool_str ?_;rw[show decide (x=y)=decide ((Sum.inr x:Key)=.inr y) from OK Dn];exact h
 «strs»:=λk x t v h=>by
  have e:I (Sum.inr x)=I k:=(ta h).val;cases e;exact(strKind prog w).«strs» x x t v (MI x t)
inductive fp(ρ:Map)(h:Heap):List (Key×aw)->List (Key×V)->Prop
 |nil:fp ρ h [] []
 |cons{k:Key}{v:aw}{x:V}{bY:List (Key×aw)}{l:List (Key×V)}:(∀s,k=.inr s->gW s)->Rel ρ h v x->fp ρ h bY l->fp ρ h ((k,v)::bY) ((k,x)::l)
inductive ij(ρ:Map)(h:Heap):List (List Int×Addr×aw)->List (List Int×V)->Prop
 |nil:ij ρ h [] []
 |cons{k:List Int}{a:Addr}{v:aw}{x:V}{xs:List (List Int×Addr×aw)}{l:List (List Int×V)}:(cT ρ a/\∃vs n,h.get? a=some (dJ vs n))->Rel ρ h v x->ij ρ h xs l->ij ρ h ((k,a,v)::xs) ((k,x)::l)
noncomputable abbrev Ag(prog:Program)(w:World):HeapKind prog w (List Int):=tupleKind (intKind prog w)
structure dE where
 prog:Program
 w:World
 heap:Heap
 eI:List Env
noncomputable abbrev dE.get?(K:dE)(b:Addr):Option Obj:=K.heap.get? b
inductive Qz(h:Heap)(c:Str)(C:Addr):Prop
 |mk(mg:Str->Option aw)(h1:h.Ns mainGlobals mg)(h2:mg c=some (.ref C)):Qz h c C
def wL(K:dE)(c:Str)(C:Addr):Prop:=Qz K.heap c C
inductive Rq(h:Heap)(C N:Addr):Prop
 |mk(nm q:Str)(bs:List aw)(sn:List Str)(sub:List aw)(col:Option Bool)(gR:Option Addr)(iC fC gC lh lg:Option aw)(e:h.get? C=some (excClassObj nm q C N bs [.type "object"] true sn sub false col gR iC fC gC lh lg "object.__new__")):Rq h C N
theorem wi{h:Heap}{C N:Addr}{dk:Str->Option aw}(X:ClsAt h C N dk):Rq h C N:=by
 obtain⟨nm,q,bs,sn,sub,col,gR,iC,fC,gC,lh,lg,e⟩:=X.obj;exact⟨nm,q,bs,sn,sub,col,gR,iC,fC,gC,lh,lg,e⟩
def IF(K:dE)(c:Str)(C:Addr):Prop:=CmpCls K.heap C/\wL K c C
theorem wL.at{K:dE}{c:Str}{C:Addr}{mg:Str->Option aw}(k:wL K c C)(g:K.heap.Ns mainGlobals mg):mg c=I (.ref C):=by
 refine aE λkk=>?_;obtain⟨m,⟨o,aT,cU,h1,h2,_,h3⟩,e⟩:=k;obtain⟨o',ab4,acd,mn,qt,_,GR⟩:=g;refine kk ?_;replace mn:=h1 ▸ mn;cases mn;replace qt:=h2 ▸ qt;cases qt;rw[<-GR,h3];exact e
def hY(o:Obj):Prop:=∃aT cU,o.data=.dict aT cU
def ig(o:Obj):Prop:=o.cls=.type "traceback" /\ ∃lS,o.data=.fields lS/\3<lS.size
def tX(K:dE)(h:Heap)(vs:Array aw):Prop:=1<vs.size/\(vs[1]? =I .none\/∃bb o,vs[1]? =I (.ref bb)/\h.get? bb=I o/\ig o/\K.get? bb=U)
structure pQ(ρ:Map)(h:Heap)(fj:Str->Option aw)(l:List (Str×V)):Prop where
 has:∀x a,l.lookup x=I a->∃v,fj x=I v/\Rel ρ h v a
 no:∀x,l.lookup x=U->fj x=U
inductive Ik(ρ:Map)(h:Heap)(a:Addr)(l:List V):Prop
 |mk(vs:List aw)(n:Nat)(g:h.get? a=some (er vs n))(aj:vs.length<=bz)(r:b9 ρ h vs l):Ik ρ h a l
inductive ID(K:dE)(ρ:Map)(h:Heap)(p:Addr×Nat)(v:Nat)(l:List (Key×V)):Prop
 |mk(e:p.2=v)(aD:(p.1==sysModules)=false)(bY:List (Key×aw))(hd:h.DictOf (keyKind K.prog K.w) p.1 bY)(aj:bY.length<=bz)(r:fp ρ h bY l):ID K ρ h p v l
inductive Q5(K:dE)(ρ:Map)(h:Heap)(a:Addr)(c:Str)(k:Nat):Prop
 |mk(C:Addr)(o:Obj)(cV:Addr)(d:Nat)(ay:IF K c C)(g:h.get? a=some o)(h1:o.cls=.ref C)(h2:∀cd,o.data≠.cls cd)(h3:o.dict=some cV)(bf:cV≠a)(e:ρ[k]? =some (cV,d)):Q5 K ρ h a c k
inductive Ri(ρ:Map)(h:Heap)(a:Addr)(l:List (Str×V)):Prop
 |mk(aj:l.length<=bz)(fj:Str->Option aw)(aM:h.Ns1 a fj)(f:pQ ρ h fj l):Ri ρ h a l
inductive HZ(K:dE)(ρ:Map)(h:Heap)(p:Addr×Nat)(v:Nat)(l:List (List Int×V)):Prop
 |mk(e:p.2=v)(aD:(p.1==sysModules)=false)(xs:List (List Int×Addr×aw))(hd:h.DictOfH (Ag K.prog K.w) p.1 xs)(aj:xs.length<=bz)(r:ij ρ h xs l):HZ K ρ h p v l
inductive PL(h:Heap)(a:Addr):Prop
 |mk(vs:List aw)(n:Nat)(g:h.get? a=some (dJ vs n)):PL h a
inductive Rl(K:dE)(h:Heap)(a:Addr)(c:Str):Prop
 |mk(C:Addr)(o:Obj)(vs:Array aw)(ay:wL K c C)(g:h.get? a=some o)(h1:o.cls=.ref C)(h3:o.data=.fields vs)(bf:tX K h vs)(cP:K.get? a=none):Rl K h a c
def ip(K:dE)(ρ:Map)(h:Heap)(p:Addr×Nat):O->Prop
 |.list l=>Ik ρ h p.1 l
 |.dict v l=>ID K ρ h p v l
 |.inst c k=>Q5 K ρ h p.1 c k
 |.bI l=>Ri ρ h p.1 l
 |.et v l=>HZ K ρ h p v l
 |.cache=>PL h p.1
 |.exc c=>Rl K h p.1 c
inductive Rf(hp:Heap)(ρ:Map)(h:Heap)(e:Env):Prop
 |mk(ao:e.scope.kind≠.module)(L:Addr)(o:Obj)(h1:e.frame=some L)(g:h.get? L=some o)(r:hY o/\cT ρ L/\hp.get? L=none):Rf hp ρ h e
def zB(K:dE)(ρ:Map)(h:Heap)(e:Env):Prop:=Rf K.heap ρ h e
structure Inv(aa:dE)(σ:aq)(ρ:Map)(h:Heap):Prop where
 base:∀b o,aa.get? b=I o->h.get? b=I o
 len:ρ.length=σ.length
 objs:∀(n:Nat) (o:O) (p:Addr×Nat),σ[n]? =I o->ρ[n]? =I p->ip aa ρ h p o
 fresh:∀(n:Nat) (p:Addr×Nat),ρ[n]? =I p->0<n->aa.get? p.1=U
 apart:∀(i j:Nat) (p q:Addr×Nat),ρ[i]? =I p->ρ[j]? =I q->i≠j->p.1≠q.1
 up:∀e∈aa.eI,zB aa ρ h e
def qH(o o':Obj):Prop:=o'=o\/(hY o/\∃eo,o' = { o with slots:=eo })\/(ig o/\ig o')
theorem qH.refl:qH o o:=.inl ab
theorem oN(h:ig o)(d:hY o):False:=by
 obtain⟨_,lS,e,_⟩:=h;obtain⟨aT,cU,bg⟩:=d;replace bg:=e.symm.trans bg;cases bg
theorem qH.trans(x:qH o o')(y:qH o' sY):qH o sY:=by
 rcases x with rfl|⟨d,eo,rfl⟩|⟨t,bX⟩
 ·exact y
 ·rcases y with rfl|⟨_,VC,rfl⟩|⟨t,_⟩
  ·exact .inr (.inl ⟨d,eo,ab⟩)
  ·exact .inr (.inl ⟨d,VC,ab⟩)
  ·exact(oN t d).elim
 ·rcases y with rfl|⟨d,_⟩|⟨_,Ka⟩
  ·exact .inr (.inr ⟨t,bX⟩)
  ·exact(oN bX d).elim
  ·exact .inr (.inr ⟨t,Ka⟩)
def Iy(o:Obj):Prop:=¬hY o/\¬ig o
theorem qH.yM(x:qH o o')(f:Iy o):o'=o:=x.elim id λx=>x.elim (λx=>(f.1 x.1).elim) λx=>(f.2 x.1).elim
structure kY(o o':Obj):Prop where
 tup:∀vs n,o=dJ vs n->o'=o
 dict:hY o->hY o'
 bb:ig o->ig o'
theorem kY.refl:kY o o:=⟨λae az bS=>ab,id,id⟩
theorem kY.trans(x:kY o o')(y:kY o' sY):kY o sY where
 tup:=λvs n e=>(y.tup vs n ((x.tup vs n e).trans e)).trans (x.tup vs n e)
 dict:=λd=>y.dict (x.dict d)
 bb:=λd=>y.bb (x.bb d)
structure Ext(W:List Addr)(ρ:Map)(h:Heap)(aA:Map)(h':Heap):Prop where
 pre:∀(n:Nat) (a:Addr) (v:Nat),ρ[n]? =I (a,v)->∃v',aA[n]? =I (a,v')/\v<=v'/\(v'=v->∀o,h.get? a=I o->hY o->h'.get? a=I o)
 keep:∀b o,h.get? b=I o->b∉W->cT ρ b->∃o',h'.get? b=I o'/\qH o o'
 js:∀b o,h.get? b=I o->∃o',h'.get? b=I o'/\kY o o'
 new:∀(i:Nat) (p:Addr×Nat),aA[i]? =I p->ρ.length<=i->h.get? p.1=U
section
variable {W:List Addr}{ρ aA e3:Map}{h h' fH:Heap}
theorem Ext.alive(x:Ext W ρ h aA h'):∀b o,h.get? b=I o->∃o',h'.get? b=I o':=λb o e=>by obtain⟨o',bg,_⟩:=x.js b o e;exact⟨o',bg⟩
theorem Ext.q3(x:Ext W ρ h aA h'):∀b vs n,h.get? b=I (dJ vs n)->h'.get? b=I (dJ vs n):=λb vs n e=>by
 obtain⟨o',bg,k⟩:=x.js b _ e;rw[bg,k.tup vs n ab]
theorem Ext.J4(x:Ext W ρ h aA h'):∀b o,h.get? b=I o->ig o->∃o',h'.get? b=I o'/\ig o':=λb o e t=>by obtain⟨o',bg,k⟩:=x.js b o e;exact⟨o',bg,k.bb t⟩
theorem Ext.yM(x:Ext W ρ h aA h')(e:h.get? b=I o)(f:Iy o)(fG:b∉W)(off:cT ρ b):h'.get? b=I o:=by
 obtain⟨o',bg,s⟩:=x.keep b o e fG off;rw[bg,s.yM f]
theorem Ext.refl:Ext W ρ h ρ h where
 pre:=λae az v e=>⟨v,e,cI _,λae az g bS=>g⟩
 keep:=λae o e az bS=>⟨o,e,.refl⟩
 js:=λae o e=>⟨o,e,.refl⟩
 new:=λi p e aR=>by rw[iL aR]at e;exact bh e
theorem cT.ext(x:Ext W ρ h aA h')(al:h.get? b=I o)(off:cT ρ b):cT aA b:=λp hp=>by
 obtain⟨i,aR⟩:=R7 hp;rcases kh i ρ.length with aj|aj
 ·obtain⟨_,h1,_⟩:=x.pre i _ _ (iw aj);replace h1:=aR ▸ h1;cases h1;exact off ρ[i] (aj8 aj)
 ·have e5:=x.new i p aR aj;exact λeq=>(by replace e5:=al ▸ (oD (eq ..)) ▸ e5;exact lV e5)
theorem Ext.trans(x:Ext W ρ h aA h')(y:Ext W aA h' e3 fH):Ext W ρ h e3 fH where
 pre:=λn a v e=>by
  refine aE λkk=>?_;obtain⟨v',bg,l,k⟩:=x.pre n a v e;obtain⟨Tu,yZ,l',c6⟩:=y.pre n a v' bg;refine kk ⟨Tu,yZ,b7 l l',λq o g d=>?_⟩;have dx:v'=v:=lO (q ▸ l') l;exact c6 (q.trans dx.symm) o (k dx o g d) d
 keep:=λb o e fG hi=>by
  refine aE λkk=>?_;obtain⟨o',bg,s⟩:=x.keep b o e fG hi;obtain⟨sY,yZ,s'⟩:=y.keep b o' bg fG (cT.ext x e hi);exact kk ⟨sY,yZ,s.trans s'⟩
 js:=λb o e=>by
  refine aE λkk=>?_;obtain⟨o',bg,s⟩:=x.js b o e;obtain⟨sY,yZ,s'⟩:=y.js b o' bg;exact kk ⟨sY,yZ,s.trans s'⟩
 new:=λi p e aR=>by
  rcases kh i aA.length with aj|aj
  ·refine aE λkk=>?_;obtain⟨_,h1,_⟩:=y.pre i _ _ (iw aj);refine kk ?_;replace h1:=e ▸ h1;cases h1;exact x.new i aA[i] (iw aj) aR
  ·have e5:=y.new i p e aj
   induction ax:h.get? p.1 with
   |none=>rfl
   |some o=>obtain⟨o',bg⟩:=x.alive _ _ ax;replace bg:=e5 ▸ bg;exact bh bg
theorem Ext.weak(x:Ext W ρ h aA h')(hw:∀b∈W,b∈W'\/h.get? b=U):Ext W' ρ h aA h' where
 pre:=x.pre
 keep:=λb o e fG hi=>x.keep b o e (λhm=>(hw b hm).elim fG λbg=>by rw[e]at bg;exact lV bg) hi
 js:=x.js
 new:=x.new
theorem Ext.of_keep(hS:∀b∈W,cT ρ b)(ao:∀b o,h.get? b=I o->b∉W->h'.get? b=I o)(aY:∀b o,h.get? b=I o->b∈W->∃o',h'.get? b=I o'/\kY o o'):Ext W ρ h ρ h' where
 pre:=λn a v e=>⟨v,e,cI _,λae o g az=>ao a o g λhm=>hS a hm _ (g4 e) ab⟩
 keep:=λb o e fG ae=>⟨o,ao b o e fG,.refl⟩
 js:=λb o e=>by
  by_cases hm:b∈W
  ·exact aY b o e hm
  ·exact⟨o,ao b o e hm,.refl⟩
 new:=λi p e aR=>by rw[iL aR]at e;exact bh e
theorem Ext.of_keeps(ao:∀b o,h.get? b=I o->h'.get? b=I o):Ext W ρ h ρ h' where
 pre:=λn a v e=>⟨v,e,cI _,λae o g az=>ao a o g⟩
 keep:=λb o e ae az=>⟨o,ao b o e,.refl⟩
 js:=λb o e=>⟨o,ao b o e,.refl⟩
 new:=λi p e aR=>by rw[iL aR]at e;exact bh e
structure Sub(ρ:Map)(h:Heap)(aA:Map)(h':Heap):Prop where
 refs:∀(n:Nat) (a:Addr) (v:Nat),ρ[n]? =I (a,v)->∃v',aA[n]? =I (a,v')
 q3:∀b vs n,cT ρ b->h.get? b=I (dJ vs n)->cT aA b/\h'.get? b=I (dJ vs n)
 J4:∀b o,h.get? b=I o->ig o->∃o',h'.get? b=I o'/\ig o'
theorem Ext.sub(x:Ext W ρ h aA h'):Sub ρ h aA h':=⟨λn a v e=>by obtain⟨v',bg,_⟩:=x.pre n a v e;exact⟨v',bg⟩,λb vs n off e=>⟨cT.ext x e off,x.q3 b vs n e⟩,x.J4⟩
theorem Sub.snoc(hp:∀vs n,h.get? p.1≠I (dJ vs n)):Sub ρ h (ρ++[p]) h:=⟨λn a v e=>⟨v,by
 rw[qW (by rcases kh n ρ.length with aj|aj;exact aj;rw[iL aj]at e;exact bh e)];exact e⟩,λb vs n off e=>⟨λq aL=>by
 rcases hs.mp aL with aL|aL
 ·exact off q aL
 ·rw[bT.mp aL];exact λeq=>hp vs n (eq ▸ e),e⟩,λae o e t=>⟨o,e,t⟩⟩
theorem Sub.keeps(ao:∀b o,h.get? b=I o->h'.get? b=I o):Sub ρ h ρ h':=⟨λae az v e=>⟨v,e⟩,λb ae az off e=>⟨off,ao b _ e⟩,λb o e t=>⟨o,ao b o e,t⟩⟩
theorem tX.sub{K:dE}(t:tX K h vs)(x:Sub ρ h aA h'):tX K h' vs:=⟨t.1,t.2.imp id λq=>by obtain⟨bb,o,e,g,b,z⟩:=q;obtain⟨o',cB,kR⟩:=x.3 bb o g b;exact⟨bb,o',e,cB,kR,z⟩⟩
theorem b9.ind{P:∀(vs:List aw) (l:List V),b9 ρ h vs l->Prop}(aV:P [] [] .nil)(h1:∀{v:aw}{vs:List aw}{x:V}{l:List V}(a:Rel ρ h v x) (r:b9 ρ h vs l),P vs l r->P (v::vs) (x::l) (.cons a r)){vs:List aw}{l:List V}(r:b9 ρ h vs l):P vs l r:=
 b9.rec (motive_1:=λae az bS=>True) (motive_2:=λvs l r=>P vs l r) aS (λae=>aS) (λae az=>aS) (λae az bS=>aS) (λae az bS fc p2=>aS) (λae=>aS) aV (λa r ae au=>h1 a r au) r
theorem Rel.cs{P:∀(v:aw) (x:V),Rel ρ h v x->Prop}(none:P .none .none .none)(bool:∀b:Bool,P (.bool b) (.bool b) (.bool b))(int:∀(i:Int) (t:Tok),P (.int i t) (.int i) (.int i t))(str:∀(x:Str) (t:Tok) (aI:gW x),P (.str x t) (.str x) (.str x t aI))
  (tup:∀{a:Addr}{vs:List aw}{n:Nat}{l:List V}(off:cT ρ a) (g:h.get? a=some (dJ vs n)) (aj:vs.length<=bz) (r:b9 ρ h vs l),P (.ref a) (.tup l) (.tup off g aj r)) (ref:∀{a:Addr}{d n:Nat}(e:ρ[n]? =some (a,d)),P (.ref a) (.ref n) (.ref e)) {v:aw}{x:V}(r:Rel ρ h v x):P v x r:=
 Rel.casesOn (motive_1:=P) r none bool int str tup ref
theorem Rel.sub(x:Sub ρ h aA h')(r:Rel ρ h v a):Rel aA h' v a:=
 Rel.rec (motive_1:=λv a ae=>Rel aA h' v a) (motive_2:=λvs l ae=>b9 aA h' vs l) .none (λb=>.bool b) (λi t=>.int i t) (λs t aD=>.str s t aD) (λoff e aj ae au=>.tup (x.2 _ _ _ off e).1 (x.2 _ _ _ off e).2 aj au) (λe=>(x.1 _ _ _ e).elim λae bg=>.ref bg) .nil (λae az a b=>.cons a b) r
theorem b9.sub(x:Sub ρ h aA h')(r:b9 ρ h vs l):b9 aA h' vs l:=b9.ind (P:=λvs l ae=>b9 aA h' vs l) .nil (λa ae au=>.cons (a.sub x) au) r
theorem Rel.ext(x:Ext W ρ h aA h')(r:Rel ρ h v a):Rel aA h' v a:=r.sub x.sub
theorem b9.ext(x:Ext W ρ h aA h')(r:b9 ρ h vs l):b9 aA h' vs l:=r.sub x.sub
theorem fp.sub(x:Sub ρ h aA h')(r:fp ρ h bY l):fp aA h' bY l:=by
 induction r with
 |nil=>exact .nil
 |cons aD r _ au=>exact .cons aD (r.sub x) au
theorem ij.sub(x:Sub ρ h aA h')(r:ij ρ h xs l):ij aA h' xs l:=by
 induction r with
 |nil=>exact .nil
 |cons ao r _ au=>obtain⟨off,vs,n,e⟩:=ao;exact .cons ⟨(x.2 _ _ _ off e).1,vs,n,(x.2 _ _ _ off e).2⟩ (r.sub x) au
theorem ij.length(r:ij ρ h xs l):xs.length=l.length:=by
 induction r with
 |nil=>rfl
 |cons _ _ _ au=>rw[gy,gy,au]
theorem ij.q3(r:ij ρ h xs l):∀q∈xs,cT ρ q.2.1/\∃vs n,h.get? q.2.1=I (dJ vs n):=by
 induction r with
 |nil=>exact λae hm=>nomatch hm
 |cons ao _ _ au=>exact λq hm=>(cY.mp hm).elim (λe=>e ▸ ao) (au q)
theorem fp.length(r:fp ρ h bY l):bY.length=l.length:=by
 induction r with
 |nil=>rfl
 |cons _ _ _ au=>rw[gy,gy,au]
theorem fp.keys(r:fp ρ h bY l):bY.map (·.1)=l.map (·.1):=by
 induction r with
 |nil=>rfl
 |cons _ _ _ au=>rw[eE,eE,au]
theorem b9.length{vs:List aw}{l:List V}(r:b9 ρ h vs l):vs.length=l.length:=b9.ind (P:=λvs l ae=>vs.length=l.length) ab (λae az au=>by rw[gy,gy,au]) r
theorem b9.append(r:b9 ρ h vs l)(s:b9 ρ h ws m):b9 ρ h (vs++ws) (l++m):=b9.ind (P:=λvs l ae=>b9 ρ h (vs++ws) (l++m)) s (λa ae au=>.cons a au) r
theorem b9.get{k:Nat}(r:b9 ρ h vs l):l[k]? =I x->∃v,vs[k]? =I v/\Rel ρ h v x:=by
 induction r using b9.ind generalizing k with
 |aV=>intro e;exact bh e
 |h1 a r au=>
  intro e
  induction k with
  |zero=>cases e;exact⟨_,ab,a⟩
  |succ k=>exact au e
theorem b9.get_none{k:Nat}(r:b9 ρ h vs l)(e:l[k]? =U):vs[k]? =U:=by
 rw[List.getElem?_eq_none_iff]at e ⊢;rw[r.length];exact e
end
noncomputable abbrev At(H:Heap)(tk:Nat)(s:bp):bp:={ s with heap:=H,toks:=tk }
section
variable (aa:dE)
inductive kd(W:List Addr)(ρ:Map)(s:bp)(af:aq)(R:Map->Heap->Prop)(s':bp):Prop
 |mk(aA:Map)(h':Heap)(tk:Nat)(e:s'=(At h' tk s))(i:Inv aa af aA h')(x:Ext W ρ s.heap aA h')(r:R aA h'):kd W ρ s af R s'
inductive P0(σ:aq)(e:V)(ev:aw)(ρ:Map):Prop
 |mk(n:Nat)(c:Str)(a:Addr)(d:Nat)(h1:e=.ref n)(h2:σ[n]? =some (.exc c))(h3:ev=.ref a)(bf:ρ[n]? =some (a,d)):P0 σ e ev ρ
def jc(σ:aq)(e:V)(ev:aw)(ρ:Map)(_:Heap):Prop:=P0 σ e ev ρ
def ah(W:List Addr)(ρ:Map)(s:bp)(A:Around){α β:Type}(R:α->Map->Heap->β->Prop)(t:Sem β)(r:Res α):Prop:=
 match r with
 |.bad=>True
 |.exc e af=>a3 (bk aa.prog aa.w) A t (λae az=>False) (λev s'=>kd aa W ρ s af (jc af e ev) s') s
 |.ok a af=>a3 (bk aa.prog aa.w) A t (λb s'=>kd aa W ρ s af (λaA h'=>R a aA h' b) s') (λae az=>False) s
end
section
variable {aa:dE}{A:Around}{W:List Addr}{ρ:Map}{s:bp}{α β bN h4:Type}{σ:aq}
theorem kd.mono(h:∀aA h',R aA h'->oo aA h'):kd aa W ρ s af R s'->kd aa W ρ s af oo s':=
 λaU=>by obtain⟨aA,h',tk,e,i,x,r⟩:=aU;exact⟨aA,h',tk,e,i,x,h _ _ r⟩
theorem kd.after(x:Ext W ρ s.heap aZ H):kd aa W aZ (At H tk s) af R s'->kd aa W ρ s af R s':=
 λaU=>by obtain⟨aA,h',tk,e,i,dm,r⟩:=aU;exact⟨aA,h',tk,e,i,x.trans dm,r⟩
theorem ah.bind{t:Sem β}{f:β->Sem bN}{m:M α}{k:α->M h4}{R:α->Map->Heap->β->Prop}{oo:h4->Map->Heap->bN->Prop}
  (h1:ah aa W ρ s A R t (m σ))
  (h2:∀a a0 aZ H tk b,Inv aa a0 aZ H->Ext W ρ s.heap aZ H->R a aZ H b->ah aa W aZ (At H tk s) A oo (f b) (k a a0)) :
  ah aa W ρ s A oo (t>>=f) ((m>>=k) σ):=by
 rw[run_bind]
 induction e:m σ with
 |bad=>exact aS
 |exc _ _=>rw[e]at h1;exact aJ (cH h1 (λae az f=>f.elim) λae az x=>x)
 |ok a a0=>
  rw[e]at h1
  change ah aa W ρ s A oo (t>>=f) (k a a0)
  have go:∀(Q:bN->bp->Prop) (E:aw->bp->Prop),(∀b aZ H tk,Ext W ρ s.heap aZ H->ah aa W aZ (At H tk s) A oo (f b) (k a a0)->a3 (bk aa.prog aa.w) A (f b) Q E (At H tk s))->a3 (bk aa.prog aa.w) A (t>>=f) Q E s:=λQ E aL=>
   aJ (cH h1 (λb s' hp=>by
    obtain⟨aZ,H,tk,rfl,i,x,r⟩:=hp;exact aL b aZ H tk x (h2 a a0 aZ H tk b i x r)) λae az h'=>h'.elim)
  induction aO:k a a0 with
  |bad=>exact aS
  |exc _ _=>
   refine go _ _ λb aZ H tk x aD=>?_;rw[aO]at aD;exact cH aD (λae az f=>f) λae az hp=>hp.after x
  |ok d cE=>
   refine go _ _ λb aZ H tk x aD=>?_;rw[aO]at aD;exact cH aD (λae az hp=>hp.after x) λae az f=>f
theorem ah.ret(i:Inv aa σ ρ s.heap)(r:R a ρ s.heap b) :
  ah aa W ρ s A R (cv b:Sem β) ((cv a:M α) σ):=
 bQ ⟨ρ,s.heap,s.toks,ab,i,Ext.refl,r⟩
theorem ah.mono(h:ah aa W ρ s A R t r)(aP:∀a aA h' b,R a aA h' b->oo a aA h' b) :
  ah aa W ρ s A oo t r:=by
 induction r with
 |bad=>exact aS
 |exc _ _=>exact h
 |ok a af=>exact cH h (λb s' hp=>hp.mono λae az=>aP a _ _ b) λae az x=>x
theorem ah.weak(h:ah aa W ρ s A R t r)(hw:∀b∈W,b∈W'\/s.heap.get? b=U) :
  ah aa W' ρ s A R t r:=by
 induction r with
 |bad=>exact aS
 |exc _ _=>exact cH h (λae az f=>f) λb s' aU=>by obtain⟨aA,h',tk,e,i,x,r⟩:=aU;exact⟨aA,h',tk,e,i,x.weak hw,r⟩
 |ok a af=>exact cH h (λb s' aU=>by obtain⟨aA,h',tk,e,i,x,r⟩:=aU;exact⟨aA,h',tk,e,i,x.weak hw,r⟩) λae az x=>x
theorem ah.ahead(aY:∀(Q:PUnit->bp->Prop) (E:aw->bp->Prop),Q ⟨⟩ s->a3 (bk aa.prog aa.w) A t Q E s)
  (h:ah aa W ρ s A R (f ⟨⟩) r):ah aa W ρ s A R (t>>=f) r:=by
 induction r with
 |bad=>exact aS
 |exc _ _=>exact aJ (aY _ _ h)
 |ok a af=>exact aJ (aY _ _ h)
theorem ah.first{bN:Type}{t:Sem bN}{f:bN->Sem β}{c:bN}{r:Res α}{R:α->Map->Heap->β->Prop}(aY:∀(Q:bN->bp->Prop) (E:aw->bp->Prop),Q c s->a3 (bk aa.prog aa.w) A t Q E s)
  (h:ah aa W ρ s A R (f c) r):ah aa W ρ s A R (t>>=f) r:=by
 induction r with
 |bad=>exact aS
 |exc _ _=>exact aJ (aY _ _ h)
 |ok a af=>exact aJ (aY _ _ h)
theorem ah.standAt(h:ah aa W ρ s A R (f ⟨⟩) r) :
  ah aa W ρ s A R (PySem.standAt p>>=f) r:=ah.ahead (λae az aL=>oA aL) h
theorem ah.holding(h:ah aa W ρ s A R t r) :
  ah aa W ρ s A R (PySem.holding vs t) r:=by
 induction r with
 |bad=>exact aS
 |exc _ _=>exact ir h
 |ok a af=>exact ir h
theorem ah.of_wp
  (h:a3 (bk aa.prog aa.w) A t (λb s'=>kd aa W ρ s af (λaA h'=>R a aA h' b) s') (λae az=>False) s):ah aa W ρ s A R t (.ok a af):=h
end
end Mine.Internal
namespace Mine.Internal
open PySem
def gw(C:Cfg)(elt target:Expr)(ifs:List Expr)(scope:Scope)(s:Src)(ns:ct)(loc:Loc):M V:=
 if C.calm&&(gz s target&&gS scope.kind scope.names) then
  s.count>>=λn=>(if n<=bz then (eL ns loc scope.names>>=λbJ=>
  compLoop s (bindTo (ff (ca ns scope.names)) target) (tests C ifs (ca ns scope.names)) (ev C elt (ca ns scope.names)) (n+1) 0 bJ>>=λl=>
  bP (.list l)) else M.bad)
 else M.bad
def eT(C:Cfg)(target:Expr)(body:List Stmt)(s:Src)(ns:ct)(loc:Loc):M (a6×Loc):=
 if C.calm&&gz s target then s.count>>=λn=>forLoop s (bindTo (stLoc ns) target) (cm C body ns) (n+1) 0 loc else M.bad
def oG(C:Cfg)(t:Expr)(body:List Stmt)(ns:ct)(loc:Loc):M (a6×Loc):=sC (λl=>d4 C t ns l (ev C t ns l)) (cm C body ns) loc
noncomputable def en{α:Type}(C:Cfg)(nG:List Stmt)(ns:ct)(loc:Loc)(K:a6×Loc->M α):M α:=cm C nG ns loc>>=K
def cN(r:a6×Loc):M V:=pure (match r.1 with|.ret v=>v|_=>.none)
noncomputable def cO(l:List Stmt)(i:Nat):Stmt:=(l[i]?).getD (.Pass ⟨0,0,0,0⟩)
noncomputable def rr:Expr:=.Constant .none 0 ⟨0,0,0,0⟩
def m2(l:List Expr)(i:Nat):Expr:=(l[i]?).getD rr
def fh:Stmt->Expr
 |.Assign _ v _=>v
 |.Return (some v) _=>v
 |.Expr v _=>v
 |.For _ i _ _ _=>i
 |.If t _ _ _=>t
 |.While t _ _ _=>t
 |_=>rr
def cy:Stmt->Expr
 |.For t _ _ _ _=>t
 |.Assign eB _ _=>m2 eB 0
 |_=>rr
noncomputable def bU:Stmt->List Stmt
 |.For _ _ b _ _=>b
 |.If _ b _ _=>b
 |.While _ b _ _=>b
 |.Try b _ _ _ _=>b
 |_=>[]
noncomputable def KJ:Stmt->List Stmt
 |.If _ _ b _=>b
 |_=>[]
def jw(e:Expr)(i:Nat):Expr:=match e with
 |.BoolOp _ vs _=>m2 vs i
 |.BinOp l _ r _=>m2 [l,r] i
 |.UnaryOp _ x _=>x
 |.IfExp t a b _=>m2 [t,a,b] i
 |.Compare l _ rs _=>m2 (l::rs) i
 |.Call f as _ _=>m2 (f::as) i
 |.Attribute o _ _=>o
 |.Subscript o j _=>m2 [o,j] i
 |.Slice lo aR st _=>m2 [lo.getD rr,aR.getD rr,st.getD rr] i
 |.List aT _=>m2 aT i
 |.Dict ks vs _=>m2 (ks.map (·.getD rr)++vs) i
 |.Tuple aT _ _=>m2 aT i
 |.ListComp elt gs _ _=>m2 (elt::gs.flatMap λg=>g.iter::g.target::g.ifs) i
 |_=>rr
def e0(e:Expr):Expr:=jw e 0
def eO(e:Expr):Expr:=jw e 2
noncomputable def eZ:Expr->List Expr
 |.ListComp _ [g] _ _=>g.ifs
 |_=>[]
noncomputable def bM:Expr->Scope
 |.ListComp _ _ s _=>s
 |_=>default
end Mine.Internal
namespace Mine.Internal
open PySem PyProof.Rows
noncomputable def defOf(d:DefRec):Str×cX:=(d.name,⟨d.params.args.map (·.arg),d.scope.names,d.body⟩)
def OI(q:Program):List (Str×cX):=(recsOf q).map defOf
noncomputable def E9(q:Program)(loose:List Str):List (ClsRec×MethRec):=(plainsOf q loose).flatMap λc=>c.meths.map λm=>(c,m)
noncomputable def Ft(m:MethRec):cX:=⟨m.params.args.map (·.arg),m.scope.names,m.body⟩
def XJ(q:Program)(loose:List Str):List (Str×cX):=(E9 q loose).map λp=>(jr p.1.name p.2.name,Ft p.2)
noncomputable def acT(cs:List (Str×List Str×List Str)):Str->Option (List Str×List Str):=λx=>cs.lookup x
noncomputable def N8(tab:List (Str×cX)):Str->Option cX:=λx=>tab.lookup x
def Cm(T:gU)(d:Nat):Cfg:=⟨λx=>(T.fns x).isSome,rX T d,T.glob,ak,T.ups,T.cls⟩
noncomputable def X9:PyData->Option V
 |.none=>I .none
 |.bool b=>I (.bool b)
 |.int i=>I (.int i)
 |.str s=>if gW s then I (.str s) else U
 |_=>U
def N2(q:Program):Str->Option V:=λx=>(valOf q x).bind X9
noncomputable def globT(gs:List (Str×V)):Str->Option V:=λx=>gs.lookup x
noncomputable def intOf:V->Option Int
 |.int a=>I a
 |_=>U
noncomputable def strOf:V->Option Str
 |.str a=>I a
 |_=>U
def EK(o:Option V)(v:V):Bool:=((intOf v).isSome&&(o.bind intOf==intOf v)) || ((strOf v).isSome&&(o.bind strOf==strOf v))
def aaF(q:Program)(gs:List (Str×V)):Bool:=gs.all λp=>EK (N2 q p.1) p.2
noncomputable def D4(us:List (Str×List Str)):Str->Option (List Str):=λx=>us.lookup x
noncomputable def xj(xt:List iY):List (Str×List Str):=xt.map λr=>(r.c,r.ups)
def Ek(tab mtab:List (Str×cX))(gs:List (Str×V))(us:List (Str×List Str))(cs:List (Str×List Str×List Str)):gU:=⟨N8 tab,N8 mtab,globT gs,D4 us,acT cs⟩
def QF(T:gU)(d:Nat):Prop:=∀zs:List Int,zs.length<=63->∃σ,rX T d "law" [.ref 0] [.list (zs.map .int)]=.ok (.bool ak) σ
end Mine.Internal
section
variable {aa:Mine.Internal.dE}{A:PySem.Around}{W:List PySem.Addr}{ρ:Mine.Internal.Map}{s:PySem.Shared}{σ:Mine.Internal.aq}{env:PySem.Env}{ns:Mine.Internal.ct}{tx:Mine.Internal.gU}{C:Mine.Internal.Cfg}
namespace Mine.Internal
open PySem PyProof.Rows
theorem EC:∀{ns:ct}{i j:Nat}{k:NameKind},mV ns x i=I (j,k)->ns.lookup x=I k:=by
 intro ey
 induction ey with
 |nil=>
  intro _ _ _ h;exact bh h
 |cons pr r EC=>
  obtain⟨y,c6⟩:=pr;intro i j k h;rw[uS]at h;rw[gI]
  split at h
  ·rename_i he;rw[he];cases h;rfl
  ·rename_i he;rw[he];exact EC h
theorem xG(h:slot ns x=I (j,k)):ns.lookup x=I k:=EC h
theorem Ak:∀{ns:ct}{i j:Nat}{k:NameKind},mV ns x i=I (j,k)->i<=j:=by
 intro ey
 induction ey with
 |nil=>
  intro _ _ _ h;exact bh h
 |cons pr r Ak=>
  obtain⟨y,c6⟩:=pr;intro i j k h;rw[uS]at h
  split at h
  ·cases h;exact cI _
  ·exact IY (Ak h)
set_option tactic.hygienic true in
theorem ED:∀{ns:ct}{i j:Nat}{k c6:NameKind},mV ns x i=I (j,k)->mV ns y i=I (j,c6)->x=y:=by
 intro ey
 induction ey with
 |nil=>
  intro _ _ _ _ h _;exact bh h
 |cons pr r ED=>
  obtain⟨z,o9⟩:=pr;intro i j k c6 h h';rw[uS]at h h'
  split at h <;> split at h'
  ·rename_i ax _ aO;exact(beq_iff_eq.mp ax).trans (beq_iff_eq.mp aO).symm
  ·cases h;exact absurd (Ak h') (ajG _)
  ·cases h';exact absurd (Ak h) (ajG _)
  ·exact ED h h'
theorem Aj(h:slot ns x=I (j,k))(h':slot ns y=I (j,c6)):x=y:=ED h h'
inductive Rj(env:Env)(ns:ct)(loc:Loc)(ρ:Map)(h:Heap):Prop
 |mk(m:Str->Option aw)(aM:h.Ns env.locals m)(aK:∀x i v,slot ns x=some (i,.local)->loc[i]? =some (some v)->∃val,m x=some val/\Rel ρ h val v):Rj env ns loc ρ h
inductive Rk(env:Env)(loc:Loc)(ρ:Map)(h:Heap)(x:Str)(i:Nat):Prop
 |mk(c:Addr)(o:Option aw)(e:env.cells.lookup x=some c)(ay:h.IsCell c o)(aK:∀v,loc[i]? =some (some v)->∃val,o=some val/\Rel ρ h val v):Rk env loc ρ h x i
structure c9(aa:dE)(env:Env)(ns:ct)(loc:Loc)(ρ:Map)(h:Heap):Prop where
 names:env.scope.names=ns
 kind:env.scope.kind=.function
 globals:env.globals=mainGlobals
 kO:env.builtins=builtinsNs
 vars:Rj env ns loc ρ h
 cell:∀x i,slot ns x=I (i,.cell)->Rk env loc ρ h x i
 live:∀x c,env.cells.lookup x=I c->∃o,h.IsCell c o
 jq:cT ρ env.locals
 h8:∀x c,env.cells.lookup x=I c->c≠env.locals/\cT ρ c
 apart:∀x y c,env.cells.lookup x=I c->env.cells.lookup y=I c->x=y
 top:∃e∈aa.eI,e.frame=env.frame
noncomputable def dp(env:Env):List Addr:=env.locals::env.scope.names.filterMap λp=>env.cells.lookup p.1
def qd(env:Env)(b:Addr):Prop:=b≠env.locals/\∀y c,env.cells.lookup y=I c->b≠c
section
variable {aA:Map}{h h':Heap}{loc:Loc}
theorem mem_of_lookup{α:Type}:∀{l:List (Str×α)}{n:Str}{c:α},l.lookup n=I c->(n,c)∈l:=by
 intro ey
 induction ey with
 |nil=>
  intro _ _ h;exact bh h
 |cons pr r mem_of_lookup=>
  obtain⟨k,v⟩:=pr;intro n c h;rw[gI]at h
  split at h
  ·rename_i e
   cases h;rw[beq_iff_eq.mp e];exact b8 ..
  ·exact da _ (mem_of_lookup h)
theorem aaW(hm:(x,k)∈env.scope.names)(ay:env.cells.lookup x=I c):c∈dp env:=da _ (R4.mpr ⟨(x,k),hm,ay⟩)
theorem qd.LY(h:qd env b):b∉dp env:=λhm=>by
 rcases cY.mp hm with rfl|hm
 ·exact h.1 ab
 ·obtain⟨⟨x,k⟩,_,ay⟩:=R4.mp hm;exact h.2 x b ay ab
theorem c9.LM(F:c9 aa env ns loc ρ h)(hd:h.get? b=U):qd env b:=by
 refine⟨λe=>?_,λy c ay e=>?_⟩
 ·obtain⟨m,⟨o,aT,cU,ho,r⟩,aK⟩:=F.vars;rw[<-e,hd]at ho;exact bh ho
 ·obtain⟨_,o,ho,_⟩:=F.live y c ay;rw[<-e,hd]at ho;exact bh ho
theorem Ext.AU(x:Ext W ρ h aA h')(aM:h.Ns a m)(fG:a∉W)(off:cT ρ a):h'.Ns a m:=by
 refine aE λkk=>?_;obtain⟨o,aT,cU,ho,hd,r⟩:=aM;refine kk ?_;obtain⟨o',hE,aD⟩:=x.keep _ _ ho fG off;refine⟨o',aT,cU,hE,?_,r⟩;rcases aD with rfl|⟨_,eo,rfl⟩|⟨t,_⟩
 ·exact hd
 ·exact hd
 ·exact(oN t ⟨aT,cU,hd⟩).elim
theorem Ext.cell(x:Ext W ρ h aA h')(aM:h.IsCell a v)(fG:a∉W)(off:cT ρ a):h'.IsCell a v:=by
 obtain⟨o,ho,hd⟩:=aM;exact⟨o,x.yM ho ⟨λ⟨aT,cU,e⟩=>(by rw[hd]at e;cases e),λ⟨_,lS,e,_⟩=>(by rw[hd]at e;cases e)⟩ fG off,hd⟩
theorem c9.ext(F:c9 aa env ns loc ρ h)(x:Ext W ρ h aA h')(fG:∀b∈W,qd env b):c9 aa env ns loc aA h' where
 names:=F.names
 kind:=F.kind
 globals:=F.globals
 kO:=F.kO
 vars:=by
  refine aE λkk=>?_;obtain⟨m,aM,aK⟩:=F.vars;refine kk ⟨m,x.AU aM (λhm=>(fG _ hm).1 ab) F.jq,λy i v h1 h2=>?_⟩;refine aE λkk=>?_;obtain⟨val,e,aP⟩:=aK y i v h1 h2;exact kk ⟨val,e,aP.ext x⟩
 cell:=λy i h1=>by
  refine aE λkk=>?_;obtain⟨c,o,e,ay,aK⟩:=F.cell y i h1;refine kk ⟨c,o,e,x.cell ay (λhm=>(fG _ hm).2 y c e ab) (F.h8 y c e).2,λv aj=>?_⟩;refine aE λkk=>?_;obtain⟨val,bg,aP⟩:=aK v aj;exact kk ⟨val,bg,aP.ext x⟩
 live:=λy c e=>by
  refine aE λkk=>?_;obtain⟨o,ay⟩:=F.live y c e;refine kk ?_;exact⟨o,x.cell ay (λhm=>(fG _ hm).2 y c e ab) (F.h8 y c e).2⟩
 jq:=by
  refine aE λkk=>?_;obtain⟨m,⟨o,aT,cU,ho,r⟩,aK⟩:=F.vars;exact kk (cT.ext x ho F.jq)
 h8:=λy c e=>by
  refine aE λkk=>?_;obtain⟨_,o,ho,_⟩:=F.live y c e;exact kk ⟨(F.h8 y c e).1,cT.ext x ho (F.h8 y c e).2⟩
 apart:=F.apart
 top:=F.top
end
structure eh(aa:dE)(A:Around)(n:Nat)(q:Bool):Prop where
 handled:q=ak->A.handled=U
 depth:A.depth+2*n<recursionLimit
 units:A.units+16*n+300<cLine
 frames:A.frames=I aa.eI
structure wC(aa:dE)(A:Around)(n:Nat)(q:Bool):Prop where
 handled:q=ak->A.handled=U
 depth:A.depth+2*n<=recursionLimit
 units:A.units+16*n+290<cLine
 frames:A.frames=I aa.eI
section
variable {aA:Map}{h h':Heap}
theorem ip.sub(r:ip aa ρ h p o)(x:Sub ρ h aA h')(h1:∀ba,h.get? p.1=I ba->h'.get? p.1=I ba):ip aa aA h' p o:=by
 induction o with
 |list l=>
  refine aE λkk=>?_;obtain⟨vs,n,g,aj,bl⟩:=r;exact kk ⟨vs,n,h1 _ g,aj,bl.sub x⟩
 |dict v l=>
  refine aE λkk=>?_;obtain⟨e,aD,bY,⟨ba,aT,cU,g,rest⟩,aj,bl⟩:=r;exact kk ⟨e,aD,bY,⟨ba,aT,cU,h1 _ g,rest⟩,aj,bl.sub x⟩
 |inst c k=>
  refine aE λkk=>?_;obtain⟨C,ba,cV,d,ay,g,h3,bf,cP,eS,e⟩:=r;obtain⟨eb,bg⟩:=x.1 _ _ _ e;exact kk ⟨C,ba,cV,eb,ay,h1 _ g,h3,bf,cP,eS,bg⟩
 |bI l=>
  refine aE λkk=>?_;obtain⟨aj,fj,⟨ba,aT,cU,g,rest⟩,f⟩:=r;refine kk ?_;exact⟨aj,fj,⟨ba,aT,cU,h1 _ g,rest⟩,λy a e=>by obtain⟨v,bg,e4⟩:=f.has y a e;exact⟨v,bg,e4.sub x⟩,f.no⟩
 |et v l=>
  refine aE λkk=>?_;obtain⟨e,aD,xs,⟨ba,aT,cU,g,h3,bf,cP,eS,ml⟩,aj,bl⟩:=r;refine kk ⟨e,aD,xs,⟨ba,aT,cU,h1 _ g,h3,bf,cP,λq aL=>?_,ml⟩,aj,bl.sub x⟩;refine aE λkk=>?_;obtain⟨o,items,n,ho,r⟩:=eS q aL;obtain⟨off,vs,m,e⟩:=bl.q3 q aL;refine kk ?_;replace ho:=e ▸ ho;cases ho;exact⟨_,items,n,((x.2 _ _ _ off e).2),r⟩
 |cache=>
  refine aE λkk=>?_;obtain⟨vs,n,g⟩:=r;exact kk ⟨vs,n,h1 _ g⟩
 |exc c=>
  obtain⟨C,ba,vs,ay,g,h3,cP,t,z⟩:=r;exact⟨C,ba,vs,ay,h1 _ g,h3,cP,t.sub x,z⟩
theorem ip.ext(r:ip aa ρ h p o)(x:Ext W ρ h aA h')(h1:∀ba,h.get? p.1=I ba->h'.get? p.1=I ba):ip aa aA h' p o:=r.sub x.sub h1
theorem ip.live(r:ip aa ρ h p o):∃ba,h.get? p.1=I ba:=by
 induction o with
 |list l=>
  obtain⟨vs,n,g,aj,bl⟩:=r;exact⟨_,g⟩
 |dict v l=>
  obtain⟨e,aD,bY,⟨ba,aT,cU,g,rest⟩,aj,bl⟩:=r;exact⟨_,g⟩
 |inst c k=>
  obtain⟨C,ba,cV,d,ay,g,_⟩:=r;exact⟨_,g⟩
 |bI l=>
  obtain⟨aj,fj,⟨ba,aT,cU,g,rest⟩,f⟩:=r;exact⟨_,g⟩
 |et v l=>
  obtain⟨e,aD,bY,⟨ba,aT,cU,g,rest⟩,aj,bl⟩:=r;exact⟨_,g⟩
 |cache=>
  obtain⟨vs,n,g⟩:=r;exact⟨_,g⟩
 |exc c=>
  obtain⟨C,ba,vs,ay,g,_⟩:=r;exact⟨_,g⟩
theorem zB.ext(f:zB aa ρ h e)(x:Ext W ρ h aA h'):zB aa aA h' e:=by
 obtain⟨ao,L,o,hL,ho,hd,off,aV⟩:=f;obtain⟨o',hE,k⟩:=x.js _ _ ho;exact⟨ao,L,o',hL,hE,k.dict hd,cT.ext x ho off,aV⟩
theorem Inv.lt(i:Inv aa σ ρ h){n:Nat}(e:ρ[n]? =I p):∃o,σ[n]? =I o:=by
 have aj:n<ρ.length:=by
  rcases kh n ρ.length with aj|aj
  ·exact aj
  ·rw[iL aj]at e;exact bh e
 exact⟨_,iw (i.len ▸ aj)⟩
theorem Inv.alive(i:Inv aa σ ρ h)(hp:p∈ρ):∃ba,h.get? p.1=I ba:=by
 refine aE λkk=>?_;obtain⟨n,aM⟩:=R7 hp;obtain⟨o,ho⟩:=i.lt aM;refine kk ?_;exact(i.objs n o p ho aM).live
theorem Inv.keep(i:Inv aa σ ρ h)(x:Ext W ρ h ρ h')(fG:∀b∈W,cT ρ b/\aa.get? b=U)(ao:∀b o,h.get? b=I o->b∉W->h'.get? b=I o):Inv aa σ ρ h' where
 base:=λb o e=>ao b o (i.base b o e) λhm=>by rw[(fG b hm).2]at e;exact bh e
 len:=i.len
 objs:=λn o p ax aO=>(i.objs n o p ax aO).ext x (λba g=>ao _ _ g λhm=>(fG _ hm).1 p (g4 aO) ab)
 fresh:=i.fresh
 apart:=i.apart
 up:=λe he=>(i.up e he).ext x
theorem Inv.keeps(i:Inv aa σ ρ h)(ao:∀b o,h.get? b=I o->h'.get? b=I o):Inv aa σ ρ h':=
 i.keep (W:=[]) (Ext.of_keeps ao) (λae hm=>nomatch hm) λb o e ae=>ao b o e
theorem tE:h.get? h.objs.size=U:=by
 induction e:h.get? h.objs.size with
 |none=>rfl
 |some o=>exact absurd (Heap.lt_size e) (hZ _)
theorem Inv.nQ(i:Inv aa σ ρ h):cT ρ h.objs.size:=λp hp=>by
 obtain⟨cj,ax⟩:=i.alive hp;exact λe=>absurd (Heap.lt_size ax) (e ▸ hZ _)
theorem xF(e:(ρ++[q])[n]? =I p):ρ[n]? =I p\/(n=ρ.length/\p=q):=by
 rcases kh n ρ.length with aj|aj
 ·replace e:=qW aj ▸ e;exact .inl e
 ·replace e:=mR aj ▸ e;rcases ajM (n-ρ.length) with hz|hz
  ·replace e:=hz ▸ e;cases e;exact .inr ⟨lO (ajL hz) aj,ab⟩
  ·rw[iL (by simp;exact hz)]at e;exact bh e
theorem Vy{n:Nat}(e:ρ[n]? =I p):(ρ++[q])[n]? =I p:=by
 rw[qW (by rcases kh n ρ.length with aj|aj;exact aj;rw[iL aj]at e;exact bh e)];exact e
theorem Inv.grow(i:Inv aa σ aZ dv)(y:Sub aZ dv (aZ++[(a,0)]) h')(ao:∀b o,dv.get? b=I o->h'.get? b=I o)(hS:cT aZ a)(aV:aa.get? a=U)(n5:∀e∈aa.eI,e.frame≠I a)(ho:ip aa (aZ++[(a,0)]) h' (a,0) o) :
  Inv aa (σ++[o]) (aZ++[(a,0)]) h':=by
 refine⟨λb o e=>ao _ _ (i.base b o e),by simp [i.len],λn o' p ax aO=>?_,λn p hp aM=>?_,λj k p q ax aO tm=>?_,λe he=>?_⟩
 ·rcases xF aO with aO|⟨rfl,rfl⟩
  ·have aj:n<σ.length:=by
    rcases kh n aZ.length with aj|aj
    ·rw[<-i.len];exact aj
    ·replace aO:=iL aj ▸ aO;exact bh aO
   replace ax:=qW aj ▸ ax;exact(i.objs n o' p ax aO).sub y (λba g=>ao _ _ g)
  ·replace ax:=(lN ..) ▸ (mR (cI _) ..) ▸ (i.len ..) ▸ ax;cases ax;exact ho
 ·rcases xF hp with hp|⟨_,rfl⟩
  ·exact i.fresh n p hp aM
  ·exact aV
 ·rcases xF ax with ax|⟨rfl,rfl⟩ <;> rcases xF aO with aO|⟨rfl,rfl⟩
  ·exact i.apart j k p q ax aO tm
  ·exact(hS p (g4 ax)).symm
  ·exact hS q (g4 aO)
  ·exact absurd ab tm
 ·obtain⟨hz,L,ba,hL,g,hd,off,BQ⟩:=i.up e he;refine⟨hz,L,ba,hL,ao _ _ g,hd,λp hp=>?_,BQ⟩;rcases hs.mp hp with hp|hp
  ·exact off p hp
  ·rw[bT.mp hp];exact λq=>n5 e he (hL.trans (dR I q))
theorem Ext.grow(x:Ext W ρ dv aZ h')(bu:dv.get? a=U):Ext W ρ dv (aZ++[(a,0)]) h':=by
 refine⟨λn b v e=>?_,x.keep,x.js,λj p e bw=>?_⟩
 ·obtain⟨v',bg,r⟩:=x.pre n b v e;exact⟨v',Vy bg,r⟩
 ·rcases xF e with e|⟨_,rfl⟩
  ·exact x.new j p e bw
  ·exact bu
theorem Inv.more(i:Inv aa σ aZ h')(x:Ext W ρ dv aZ h')(bu:dv.get? a=U)(Gk:∀vs n,h'.get? a≠I (dJ vs n))(hS:cT aZ a)(aV:aa.get? a=U)(n5:∀e∈aa.eI,e.frame≠I a)(ho:ip aa (aZ++[(a,0)]) h' (a,0) o) :
  Inv aa (σ++[o]) (aZ++[(a,0)]) h'/\Ext W ρ dv (aZ++[(a,0)]) h':=⟨i.grow (.snoc Gk) (λae az e=>e) hS aV n5 ho,x.grow bu⟩
theorem Inv.x4(i:Inv aa σ ρ h)(bu:h.get? a=U):∀e∈aa.eI,e.frame≠I a:=λe he q=>by
 obtain⟨_,L,o,hL,g,_⟩:=i.up e he;replace q:=hL ▸ q;cases q;replace g:=bu ▸ g;exact bh g
theorem Inv.new(i:Inv aa σ ρ h)(ao:∀b o,h.get? b=I o->h'.get? b=I o)(bu:h.get? a=U)(ho:Ext W ρ h (ρ++[(a,0)]) h'->ip aa (ρ++[(a,0)]) h' (a,0) o) :
  Inv aa (σ++[o]) (ρ++[(a,0)]) h'/\Ext W ρ h (ρ++[(a,0)]) h':=by
 have x:Ext W ρ h (ρ++[(a,0)]) h':=(Ext.of_keeps ao).grow bu;exact⟨i.grow x.sub ao (λp hp e=>by obtain⟨cj,ax⟩:=i.alive hp;rw[<-e,bu]at ax;exact bh ax)
  (by cases e:aa.get? a with|none=>rfl|some o=>rw[i.base _ _ e]at bu;exact lV bu) (i.x4 bu) (ho x),x⟩
theorem xH(e:(ρ.set n q)[m]? =I p):(m=n/\p=q)\/(m≠n/\ρ[m]? =I p):=by
 by_cases hm:m=n
 ·subst hm;rcases kh m ρ.length with aj|aj
  ·replace e:=zT aj ▸ e;cases e;exact .inl ⟨ab,ab⟩
  ·rw[iL (by simpa using aj)]at e;exact bh e
 ·replace e:=oC (lL hm) ▸ e;exact .inr ⟨hm,e⟩
theorem Inv.put(i:Inv aa σ ρ h)(dW:0<n)(aM:ρ[n]? =I (a,v))(aK:v<=v')(n3:v'=v->∀ba,h.get? a=I ba->¬hY ba)(ao:∀b ba,b≠a->h.get? b=I ba->h'.get? b=I ba)(Gq:∀ba,h.get? a=I ba->∃k9,h'.get? a=I k9/\kY ba k9)
  (ho:Ext W ρ h (ρ.set n (a,v')) h'->ip aa (ρ.set n (a,v')) h' (a,v') o):Inv aa (σ.set n o) (ρ.set n (a,v')) h'/\Ext W ρ h (ρ.set n (a,v')) h':=by
 have d6:n<ρ.length:=by
  rcases kh n ρ.length with aj|aj
  ·exact aj
  ·replace aM:=iL aj ▸ aM;exact bh aM
 have aI:Ext W ρ h (ρ.set n (a,v')) h':=
  {pre:=λm b u e=>by
    by_cases hm:m=n
    ·subst hm;replace e:=aM ▸ e;cases e;exact⟨v',zT d6,aK,λq o g d=>absurd d (n3 q o g)⟩
    ·exact⟨u,by rw[oC (lL hm)];exact e,cI _,λae o g az=>ao b o (i.apart m n _ _ e aM hm) g⟩
   keep:=λb ba e ae al=>⟨ba,ao b ba (λeq=>al _ (g4 aM) eq) e,.refl⟩
   js:=λb ba e=>by
    by_cases al:b=a
    ·rw[al]at e ⊢;exact Gq ba e
    ·exact⟨ba,ao b ba al e,.refl⟩
   new:=λj p e bw=>by rw[iL (by simpa using bw)]at e;exact bh e }
 refine⟨⟨λb ba e=>ao b ba (λeq=>?_) (i.base b ba e),by simp [i.len],λm o' p ax aO=>?_,λm p hp hm=>?_,λj k p q ax aO tm=>?_,λe he=>(i.up e he).ext aI⟩,aI⟩
 ·have:=i.fresh _ _ aM dW;replace e:=eq ▸ e;replace this:=e ▸ this;exact lV this
 ·rcases xH aO with ⟨rfl,rfl⟩|⟨hm,aO⟩
  ·replace ax:=zT (i.len ▸ d6) ▸ ax;cases ax;exact ho aI
  ·replace ax:=oC (lL hm) ▸ ax;exact(i.objs m o' p ax aO).ext aI (λba g=>ao _ _ (i.apart m n p (a,v) aO aM hm) g)
 ·rcases xH hp with ⟨rfl,rfl⟩|⟨_,hp⟩
  ·exact i.fresh m (a,v) aM hm
  ·exact i.fresh m p hp hm
 ·rcases xH ax with ⟨rfl,rfl⟩|⟨h1,tN⟩
  ·rcases xH aO with ⟨rfl,rfl⟩|⟨h2,Hk⟩
   ·exact absurd ab tm
   ·exact i.apart j k (a,v) q aM Hk tm
  ·rcases xH aO with ⟨rfl,rfl⟩|⟨h2,Hk⟩
   ·exact i.apart j k p (a,v) tN aM tm
   ·exact i.apart j k p q tN Hk tm
theorem Inv.set(i:Inv aa σ ρ h)(dW:0<n)(aM:ρ[n]? =I (a,v))(n3:∀ba,h.get? a=I ba->¬hY ba)(ao:∀b ba,b≠a->h.get? b=I ba->h'.get? b=I ba)(Gq:∀ba,h.get? a=I ba->∃k9,h'.get? a=I k9/\kY ba k9)
  (ho:Ext W ρ h ρ h'->ip aa ρ h' (a,v) o):Inv aa (σ.set n o) ρ h'/\Ext W ρ h ρ h':=by
 have e:ρ.set n (a,v)=ρ:=by
  apply akd
  intro m;by_cases hm:m=n
  ·subst hm;rw[aM,zT (by rcases kh m ρ.length with aj|aj;exact aj;rw[iL aj]at aM;exact bh aM)]
  ·rw[oC (lL hm)]
 have:=i.put (W:=W) (v':=v) (o:=o) dW aM (cI _) (λae=>n3) ao Gq (by rw[e];exact ho);rw[e]at this;exact this
end
theorem FN(h:hY o)(h':hY o'):kY o o' where
 tup:=λvs n e=>by
  obtain⟨_,_,h⟩:=h;replace h:=e ▸ h;cases h
 dict:=λae=>h'
 bb:=λt=>(oN t h).elim
theorem Mz:kY (er vs n) o' where
 tup:=λws m e=>by simp [er,dJ]at e
 dict:=λd=>by obtain⟨_,_,e⟩:=d;cases e
 bb:=λt=>absurd (nw t.1) (by decide)
theorem A7{h h':Heap}{a:Addr}(g:h.get? a=I (er vs k))(hg:h'.get? a=I o'):∀ba,h.get? a=I ba->∃k9,h'.get? a=I k9/\kY ba k9:=λba e=>by
 replace e:=g ▸ e;cases e;exact⟨o',hg,Mz⟩
theorem FC{h h':Heap}{a:Addr}(g:h.get? a=I o)(d:hY o)(hg:h'.get? a=I o')(eb:hY o'):∀ba,h.get? a=I ba->∃k9,h'.get? a=I k9/\kY ba k9:=λba e=>by
 replace e:=g ▸ e;cases e;exact⟨o',hg,FN d eb⟩
theorem Yb:Iy (er vs n):=⟨λd=>(by obtain⟨_,_,e⟩:=d;cases e),λt=>absurd (nw t.1) (by decide)⟩
theorem A8{h:Heap}{a:Addr}{vs:List aw}{n:Nat}(g:h.get? a=I (er vs n))(ws:List aw)(m:Nat):h.get? a≠I (dJ ws m):=λe=>by
 rw[g]at e;injection e with e;injection e with e;exact absurd (nw e) (by decide)
def cM:V->Map->Heap->aw->Prop:=λv ρ h b=>Rel ρ h b v
def sd:Bool->Map->Heap->Bool->Prop:=λv ae az b=>b=v
def H6:List V->Map->Heap->List aw->Prop:=λl ρ h vs=>b9 ρ h vs l
section
variable {α β:Type}
theorem ah.same(i:Inv aa σ ρ s.heap)
  (h:∀(Q:β->bp->Prop) (E:aw->bp->Prop),(∀b tk,R a ρ s.heap b->Q b { s with toks:=tk })->a3 (bk aa.prog aa.w) A t Q E s):ah aa W ρ s A R t (.ok a σ):=
 h _ _ λb tk r=>⟨ρ,s.heap,tk,ab,i,Ext.refl,r⟩
theorem ah.grown(i:Inv aa σ ρ s.heap)
  (h:∀(Q:β->bp->Prop) (E:aw->bp->Prop),(∀b h' tk,(∀c o,s.heap.get? c=I o->h'.get? c=I o)->R a ρ h' b->Q b (At h' tk s))->a3 (bk aa.prog aa.w) A t Q E s) :
  ah aa W ρ s A R t (.ok a σ):=
 h _ _ λb h' tk ao r=>⟨ρ,h',tk,ab,i.keeps ao,Ext.of_keeps ao,r⟩
theorem ah.newTuple(i:Inv aa σ ρ s.heap)(r:b9 ρ s.heap vs l)(aj:l.length<=bz):ah aa W ρ s A cM (PySem.newTuple vs) (.ok (.tup l) σ):=by
 have hlen:=r.length;have ao:∀b o,s.heap.get? b=I o->(s.heap.push (dJ vs 0)).get? b=I o:=λb o e=>ed _ e;refine ah.grown i λQ E br=>?_;refine pT (T := "tuple") (br _ (s.heap.push (dJ vs 0)) s.toks ao ?_) (by refine(?_:vs.toArray.size<=bz);rw[k1,r.length];exact aj);exact Rel.tup (n:=0) i.nQ (gJ _ ab) (by exact gq 0x298202182229021 ab aj hlen) (r.ext (W:=[]) (Ext.of_keeps ao))
theorem ah.newList(i:Inv aa σ ρ s.heap)(r:b9 ρ s.heap vs l)(aj:l.length<=bz):ah aa W ρ s A cM (PySem.newList vs) (bP (.list l) σ):=by
 have hlen:=r.length;have ao:∀b o,s.heap.get? b=I o->(s.heap.push (er vs 0)).get? b=I o:=λb o e=>ed _ e;have ek:=i.new (W:=W) (o:=.list l) ao tE λx=>⟨vs,0,gJ _ ab,by exact gq 0x298202182229021 ab aj hlen,r.ext x⟩;refine pT (T := "list") ⟨ρ++[(s.heap.objs.size,0)],s.heap.push (er vs 0),s.toks,ab,ek.1,ek.2,?_⟩ (by refine(?_:vs.toArray.size<=bz);rw[k1,r.length];exact aj);refine Rel.ref (d:=0) ?_;rw[<-i.len,mR (cI _),lN];rfl
theorem ah.vi(i:Inv aa σ ρ s.heap)
  (h:∀(Q:aw->bp->Prop) (E:aw->bp->Prop),(∀a vs n h' tk,(∀c o,s.heap.get? c=I o->h'.get? c=I o)->s.heap.get? a=U->h'.get? a=I (er vs n)->vs.length<=bz ->
   b9 ρ h' vs l->Q (.ref a) (At h' tk s))->a3 (bk aa.prog aa.w) A t Q E s):ah aa W ρ s A cM t (bP (.list l) σ):=by
 refine h _ _ λa vs n h' tk ao bu hg aj r=>?_;have ek:=i.new (W:=W) (o:=.list l) (h':=h') ao bu λae=>⟨vs,n,hg,aj,r.sub (.snoc (A8 hg))⟩;exact⟨ρ++[(a,0)],h',tk,ab,ek.1,ek.2,Rel.ref (d:=0) (by rw[<-i.len,mR (cI _),lN];rfl)⟩
theorem ah.L3(i:Inv aa σ ρ s.heap)
  (h:∀(Q:aw->bp->Prop) (E:aw->bp->Prop),(∀a bY h' tk,(∀c o,s.heap.get? c=I o->h'.get? c=I o)->s.heap.get? a=U->(a==sysModules)=aH->h'.DictOf (keyKind aa.prog aa.w) a bY->bY.length<=bz ->
   fp ρ h' bY l->Q (.ref a) (At h' tk s))->a3 (bk aa.prog aa.w) A t Q E s):ah aa W ρ s A cM t (bP (.dict 0 l) σ):=by
 refine h _ _ λa bY h' tk ao bu aD hg aj r=>?_;have ek:=i.new (W:=W) (o:=.dict 0 l) (h':=h') ao bu λae=>⟨ab,aD,bY,hg,aj,r.sub (.snoc λws m e=>by obtain⟨o,aT,cU,g,_,hd,_⟩:=hg;replace g:=e ▸ g;cases g;cases hd)⟩;exact⟨ρ++[(a,0)],h',tk,ab,ek.1,ek.2,Rel.ref (d:=0) (by rw[<-i.len,mR (cI _),lN];rfl)⟩
end
section
variable {prog:Program}{w:World}{M:Model}{E:aw->bp->Prop}{h:Heap}{g:Array GenState}{d:Drawn}{t:Nat}{os:OsState}{a C:Addr}{o:Obj}{bm:List aw}{f:kS}{dk:Str->Option aw}
theorem pH.has(x:pH h C bm f dk):(Value.ref C::bm).contains (.type "BaseException")=ak:=by
 rw[List.contains_cons,x.tail.hasType Tn];rfl
theorem abk{D:Addr}{Pe:List aw}{px:kS}{Mb:Str->Option aw}{Q:Bool->bp->Prop}(x:pH h C bm f dk)(aI:h.get? a=I o)(ay:o.cls=.ref C)(y:pH h D Pe px Mb)(fw:(Value.ref C::bm).contains (.ref D)=ak)(aL:Q ak ⟨h,g,d,t,os⟩) :
  a3 M A (excMatches (.ref a) (.ref D)) Q E ⟨h,g,d,t,os⟩:=by
 have f:=tc_notTuple;have dK:=x.obj;have hD:=y.obj;unfold excMatches
 repeat (first|(with_reducible refine Dj aI ?_;rw[ay])|with_reducible refine Dj hD ?_|(with_reducible refine RE hD ?_;rw[y.has])|(with_reducible refine RE dK ?_;rw[fw])|wp_step)
 exact aL
end
section
variable {h h':Heap}{E:aw->bp->Prop}
theorem ip.vh{p:Addr×Nat}{o:O}(r:ip aa ρ h p o):∀ba,h.get? p.1=I ba->¬ig ba:=by
 cases o with
 |list l=>
  obtain⟨vs,n,g,_,_⟩:=r;exact λba al t=>by replace al:=(g ..) ▸ al;cases al;exact absurd (nw t.1) (by decide)
 |dict v l=>
  obtain⟨e,aD,bY,⟨ba,aT,cU,g,_,hd,_⟩,_,_⟩:=r;exact λba al t=>by replace al:=(g ..) ▸ al;cases al;exact oN t ⟨_,_,hd⟩
 |inst c k=>
  obtain⟨C,ba,cV,d,ay,g,h3,_⟩:=r;exact λba al t=>by replace al:=(g ..) ▸ al;cases al;exact(nomatch h3.symm.trans t.1)
 |bI l=>
  obtain⟨_,fj,⟨ba,aT,cU,g,hd,_⟩,_⟩:=r;exact λba al t=>by replace al:=(g ..) ▸ al;cases al;exact oN t ⟨_,_,hd⟩
 |et v l=>
  obtain⟨e,aD,bY,⟨ba,aT,cU,g,_,hd,_⟩,_,_⟩:=r;exact λba al t=>by replace al:=(g ..) ▸ al;cases al;exact oN t ⟨_,_,hd⟩
 |cache=>
  obtain⟨vs,n,g⟩:=r;exact λba al t=>by replace al:=(g ..) ▸ al;cases al;exact absurd (nw t.1) (by decide)
 |exc c=>
  obtain⟨C,ba,vs,ay,g,h3,_⟩:=r;exact λba al t=>by replace al:=(g ..) ▸ al;cases al;exact(nomatch h3.symm.trans t.1)
theorem Inv.O4(i:Inv aa σ ρ h){n:Nat}{c:Str}{e:Addr}{d:Nat}(b4:σ[n]? =I (.exc c))(hi:ρ[n]? =I (e,d))
  (ao:∀b o,h.get? b=I o->b≠e->(∀f∈aa.eI,f.frame≠I b)->(∀bC vs,h.get? e=I bC->bC.data=.fields vs->vs[1]? ≠ I (.ref b))->h'.get? b=I o)
  (a8:∀b o,h.get? b=I o->hY o->∃eo,h'.get? b=I { o with slots:=eo })
  (aY:∀b o,h.get? b=I o->ig o->∃o',h'.get? b=I o'/\ig o')
  (he:∀o vs,h.get? e=I o->o.data=.fields vs->tX aa h vs->∃o' nB,h'.get? e=I o'/\o'.cls=o.cls/\o'.data=.fields nB/\tX aa h' nB):Inv aa σ ρ h'/\Ext W ρ h ρ h':=by
 refine aE λkk=>?_;obtain⟨C,bC,vs,ay,g,h3,cP,tk,z⟩:=i.objs n _ _ b4 hi;refine kk ?_;have g:h.get? e=I bC:=g;have z:aa.get? e=U:=z;refine aE λkk=>?_;obtain⟨ro,nB,cB,c0,j6,i8⟩:=he bC vs g cP tk;refine kk ?_;have J5:∀b,vs[1]? =I (.ref b)->∃o,h.get? b=I o/\ig o/\aa.get? b=U:=λb gQ=>by
  refine aE λkk=>?_;rcases tk.2 with fb|⟨bb,o,ax,c7,eN,eX⟩
  ·refine kk ?_;replace gQ:=(fb ..) ▸ gQ;cases gQ
  ·refine kk ?_;replace gQ:=(ax ..) ▸ gQ;cases gQ;exact⟨o,c7,eN,eX⟩
 have vh:∀b o,h.get? b=I o->¬ig o->∀ro nB,h.get? e=I ro->ro.data=.fields nB->nB[1]? ≠ I (.ref b):=λb o al hc ro nB dx eH oV=>by
  replace dx:=(g ..) ▸ dx;cases dx;replace eH:=(cP ..) ▸ eH;cases eH;refine aE λkk=>?_;obtain⟨o',ax,c7,_⟩:=J5 b oV;refine kk ?_;replace ax:=(al ..) ▸ ax;cases ax;exact hc c7
 have yk:∀b o,h.get? b=I o->(∃f∈aa.eI,f.frame=I b)->hY o/\cT ρ b/\aa.get? b=U:=λb o al aU=>by
  obtain⟨f,a8,j3⟩:=aU;refine aE λkk=>?_;obtain⟨_,L,o',dx,eH,oV,lX,f3⟩:=i.up f a8;refine kk ?_;replace dx:=(j3 ..) ▸ dx;cases dx;replace eH:=(al ..) ▸ eH;cases eH;exact⟨oV,lX,f3⟩
 have aI:Ext W ρ h ρ h':=
  {pre:=λm b v q=>⟨v,q,cI _,λae o al hD=>ao b o al (λdG=>by
    replace al:=(g ..) ▸ (dG ..) ▸ al;cases al;refine aE λkk=>?_;obtain⟨_,_,hD⟩:=hD;refine kk ?_;replace hD:=(cP ..) ▸ hD;cases hD) (λf a8 dG=>(yk b o al ⟨f,a8,dG⟩).2.1 _ (g4 q) ab) (vh b o al λt=>oN t hD)⟩
   keep:=λb o al ae off=>by
    refine aE λkk=>?_;by_cases n5:∃f∈aa.eI,f.frame=I b
    ·skip
     obtain⟨dx,_,_⟩:=yk b o al n5;obtain⟨eo,q⟩:=a8 b o al dx;refine kk ?_;exact⟨_,q,.inr (.inl ⟨dx,eo,ab⟩)⟩
    ·by_cases ll:ig o
     ·skip
      obtain⟨o',dx,eH⟩:=aY b o al ll;refine kk ?_;exact⟨o',dx,.inr (.inr ⟨ll,eH⟩)⟩
     ·refine kk ?_;exact⟨o,ao b o al (λq=>off _ (g4 hi) q:b≠e) (λf a8 q=>n5 ⟨f,a8,q⟩) (vh b o al ll),.refl⟩
   js:=λb o al=>by
    refine aE λkk=>?_;by_cases yE:b=e
    ·subst yE;refine kk ?_;replace al:=(g ..) ▸ al;cases al;refine⟨ro,cB,⟨λws m q=>?_,λaU=>?_,λq=>?_⟩⟩
     ·replace cP:=(q ..) ▸ cP;cases cP
     ·obtain⟨aT,cU,q⟩:=aU;replace q:=(cP ..) ▸ q;cases q
     ·have q:=q.1;replace q:=(h3 ..) ▸ q;cases q
    ·by_cases hD:hY o
     ·skip
      obtain⟨eo,q⟩:=a8 b o al hD;refine kk ?_;exact⟨_,q,FN hD hD⟩
     ·by_cases ll:ig o
      ·skip
       obtain⟨o',dx,eH⟩:=aY b o al ll;refine kk ?_;refine⟨o',dx,⟨λws m q=>?_,λq=>(hD q).elim,λae=>eH⟩⟩;replace ll:=(q ..) ▸ ll;exact absurd (nw ll.1) (by decide)
      ·refine kk ?_;exact⟨o,ao b o al yE (λf a8 q=>hD (yk b o al ⟨f,a8,q⟩).1) (vh b o al ll),.refl⟩
   new:=λj p q bw=>by replace q:=(iL bw ..) ▸ q;cases q }
 refine⟨⟨λb o al=>?_,i.len,λm o p ax c7=>?_,i.fresh,i.apart,λf a8=>(i.up f a8).ext aI⟩,aI⟩
 ·have iV:=i.base b o al;refine ao b o iV (λq=>by replace al:=(z ..) ▸ (q ..) ▸ al;cases al) (λf a8 q=>?_) λro nB dx eH oV=>?_
  ·have:=(yk b o iV ⟨f,a8,q⟩).2.2;replace this:=(al ..) ▸ this;cases this
  ·replace dx:=(g ..) ▸ dx;cases dx;replace eH:=(cP ..) ▸ eH;cases eH;refine aE λkk=>?_;obtain⟨_,_,_,q⟩:=J5 b oV;refine kk ?_;replace q:=(al ..) ▸ q;cases q
 ·by_cases hm:m=n
  ·subst hm;replace c7:=(hi ..) ▸ c7;cases c7;replace ax:=(b4 ..) ▸ ax;cases ax;exact⟨C,ro,nB,ay,cB,c0.trans h3,j6,i8,z⟩
  ·have r:=i.objs m o p ax c7;exact r.ext aI λba al=>ao _ _ al (i.apart m n p (e,d) c7 hi hm) (λf a8 q=>(yk _ _ al ⟨f,a8,q⟩).2.1 p (g4 c7) ab) (vh _ _ al (r.vh ba al))
def Slots(l:List Env)(h h':Heap):Prop:=∀b o,h.get? b=I o->(h'.get? b=I o\/((∃f∈l,f.frame=I b)/\∃eo,h'.get? b=I { o with slots:=eo }))
theorem Wd{Q:Unit->bp->Prop}:∀(l:List Env) (s:bp),(∀f∈l,f.scope.kind≠.module/\∃L o,f.frame=I L/\s.heap.get? L=I o)->(∀h',Slots l s.heap h'->Q () { s with heap:=h' })->a3 (bk aa.prog aa.w) A (readyFrames l) Q E s:=by
 intro l
 induction l with
 |nil=>
  intro s _ aL;exact bQ (aL _ λb o e=>.inl e)
 |cons f r au=>
  intro s aj aL;obtain⟨ao,L,o,a8,ho⟩:=aj f (b8 ..);simp only [readyFrames,a8];refine aJ (RD ho ?_);by_cases aP:((o.slots.getD 3 U).isSome)=ak
  ·rw[bj aP];exact bQ (aL _ λb o e=>.inl e)
  ·rw[bH aP];refine aJ (lK (a:=aH) (by simp [behindIsImport,ao]) ?_);have go:∀back:aw,a3 (bk aa.prog aa.w) A (do
     update L λo=>{ o with slots:=#[I f.code,I (.ref f.globals),o.slots.getD 2 U,I back,o.slots.getD 4 U,f.func.map Value.ref,I (.ref f.builtins)]++(f.cells.map λc=>I (.ref c.2)).toArray }
     readyFrames r) Q E s:=λback=>by
    refine aJ (wpAny_update ho ?_);have rF:=uw (λo:Obj=>{ o with slots:=#[I f.code,I (.ref f.globals),o.slots.getD 2 U,I back,o.slots.getD 4 U,f.func.map Value.ref,I (.ref f.builtins)]++(f.cells.map λc=>I (.ref c.2)).toArray }) ho (by
     obtain⟨gN,c5,Xl,ak0⟩:=o;cases Xl <;> first|rfl|exact((Heap.get?_some_iff.mp ho).2))
    refine au _ (λpx yA=>?_) λh' aD=>aL h' λb ba e=>?_
    ·obtain⟨iU,uk,o',ax,aO⟩:=aj px (da _ yA);refine⟨iU,uk,?_⟩;by_cases hL:uk=L
     ·subst hL;exact⟨_,ax,rF⟩
     ·exact⟨o',ax,(DE _ _ _ _ hL).trans aO⟩
    ·by_cases al:b=L
     ·subst al;rw[ho]at e;cases e;rcases aD b _ rF with q|⟨_,eo,q⟩
      ·exact .inr ⟨⟨f,b8 ..,a8⟩,_,q⟩
      ·exact .inr ⟨⟨f,b8 ..,a8⟩,_,q⟩
     ·rcases aD b ba ((DE _ _ _ _ al).trans e) with q|⟨⟨px,yA,j3⟩,q⟩
      ·exact .inl q
      ·exact .inr ⟨⟨px,da _ yA,j3⟩,q⟩
   induction r using List.casesOn with
   |nil=>exact aJ (wpAny_keptBack_nil λv=>go v)
   |cons c r=>exact aJ (m:=keptBack f aH (c::r)) (bQ (go _))
inductive pO(ev:aw)(h:Heap):Prop
 |mk(a:Addr)(o:Obj)(vs:Array aw)(bb:Addr)(h1:ev=.ref a)(h2:h.get? a=some o)(h3:o.data=.fields vs)(bf:vs[1]? =some (.ref bb)):pO ev h
theorem Ku{a:Addr}{o:Obj}(e:h.get? a=I o):a≠h.objs.size:=fZ (Heap.lt_size e)
inductive PY(K:dE)(σ:aq)(ρ:Map)(h:Heap)(e:V)(ev:aw):Prop
 |mk(n:Nat)(c:Str)(a:Addr)(bC:Obj)(vs:Array aw)(C:Addr)(h1:σ[n]? =some (.exc c))(h2:∃d,ρ[n]? =some (a,d))(h3:e=.ref n)(bf:ev=.ref a)(cP:h.get? a=some bC)(eS:bC.cls=.ref C)(ml:wL K c C)(vZ:bC.data=.fields vs)(BQ:tX K h vs)(alh:K.get? a=none):PY K σ ρ h e ev
theorem jc.at{e:V}{ev:aw}(r:jc σ e ev ρ s.heap)(i:Inv aa σ ρ s.heap):PY aa σ ρ s.heap e ev:=by
 obtain⟨n,c,a,d,h1,h2,h3,bf⟩:=r;obtain⟨C,bC,vs,ay,g,cP,ml,tk,z⟩:=i.objs n _ _ h2 bf;exact⟨n,c,a,bC,vs,C,h2,⟨d,bf⟩,h1,h3,g,cP,ay,ml,tk,z⟩
theorem Ej{e:V}{ev v:aw}{a bb:Addr}{bC:Obj}{vs:Array aw}{Q:Unit->bp->Prop}(i:Inv aa σ ρ s.heap)(r:jc σ e ev ρ s.heap)(pk:ev=.ref a)(bu:s.heap.get? a=I bC)(hd:bC.data=.fields vs)(h1:vs[1]? =I (.ref bb))
  (aL:∀h',Inv aa σ ρ h'->Ext [] ρ s.heap ρ h'->h'.get? a=I bC->Q () { s with heap:=h' }):a3 (bk aa.prog aa.w) A (setField (.ref bb) 3 v) Q E s:=by
 refine aE λkk=>?_;obtain⟨n,c,wt,ro,nB,C,dx,⟨oc,eH⟩,_,lX,f3,oU,_,i3,tk,z⟩:=r.at i;refine kk ?_;replace lX:=(pk ..) ▸ lX;cases lX;replace f3:=(bu ..) ▸ f3;cases f3;replace i3:=(hd ..) ▸ i3;cases i3;have ll:∃o lS,s.heap.get? bb=I o/\o.cls=.type "traceback" /\ o.data=.fields lS/\3<lS.size/\aa.get? bb=U:=by
  refine aE λkk=>?_;rcases tk.2 with fb|⟨akV,o,ax,c7,⟨eN,lS,ob,tM⟩,eX⟩
  ·refine kk ?_;replace h1:=(fb ..) ▸ h1;cases h1
  ·refine kk ?_;replace h1:=(ax ..) ▸ h1;cases h1;exact⟨o,lS,c7,eN,ob,tM,eX⟩
 refine aE λkk=>?_;obtain⟨o,lS,c7,eN,ob,tM,eX⟩:=ll;refine kk ?_;refine II c7 ob tM ?_;have dD:a≠bb:=λq=>by
  replace bu:=(c7 ..) ▸ (q ..) ▸ bu;cases bu;replace eN:=(oU ..) ▸ eN;cases eN
 have vV:=IU ob (·.setIfInBounds 3 v);have rF:=uw (Obj.mapFields (·.setIfInBounds 3 v)) c7 (RR vV);have yG:ig (Obj.mapFields (·.setIfInBounds 3 v) o):=⟨(RS _ _).trans eN,_,vV,by simpa using tM⟩;have n0:∀b ba,b≠bb->s.heap.get? b=I ba->(s.heap.update bb (Obj.mapFields (·.setIfInBounds 3 v))).get? b=I ba:=λb ba al e=>(DE _ _ _ _ al).trans e;obtain⟨dH,dm⟩:=i.O4 (W:=[]) (h':=s.heap.update bb (Obj.mapFields (·.setIfInBounds 3 v))) dx eH (λb ba e ae az Gk=>n0 b ba (λq=>Gk bC vs bu hd (q ▸ h1)) e)
  (λb ba e hD=>⟨ba.slots,n0 b ba (λq=>by replace e:=(c7 ..) ▸ (q ..) ▸ e;cases e;exact oN ⟨eN,lS,ob,tM⟩ hD) e⟩)
  (λb ba e cq=>by
   by_cases al:b=bb
   ·subst al;exact⟨_,rF,yG⟩
   ·exact⟨ba,n0 b ba al e,cq⟩)
  λo' ws jV ky u9=>by
   replace jV:=(bu ..) ▸ jV;cases jV;replace ky:=(hd ..) ▸ ky;cases ky;exact⟨bC,vs,n0 a bC dD bu,ab,hd,u9.1,.inr ⟨bb,_,h1,rF,yG,eX⟩⟩
 exact aL _ dH dm (n0 a bC dD bu)
theorem xI{e:V}{ev:aw}{fr:Option Addr}{Q:Unit->bp->Prop}(i:Inv aa σ ρ s.heap)(r:jc σ e ev ρ s.heap)
  (aL:∀h',Inv aa σ ρ h'->Ext [] ρ s.heap ρ h'->(pO ev s.heap->pO ev h')->Q () { s with heap:=h' }):a3 (bk aa.prog aa.w) A (setFlight ev fr) Q E s:=by
 refine aE λkk=>?_;obtain⟨n,c,a,bC,vs,C,dx,⟨oc,eH⟩,_,rfl,f3,oU,_,i3,tk,z⟩:=r.at i;refine kk ?_;unfold setFlight;refine aE λkk=>?_;rcases tk.2 with fb|⟨bb,o,ax,_⟩
 ·refine kk ?_;refine aJ (gj f3 i3 fb ?_);rw[bH (by decide)];exact bQ (aL _ i .refl id)
 ·refine kk ?_;refine aJ (gj f3 i3 ax ?_);rw[bj (show(Value.ref bb != Value.none)=ak from by simp)];exact Ej i r ab f3 i3 ax λh' dH dm cB=>aL h' dH dm λae=>⟨a,bC,vs,bb,ab,cB,i3,ax⟩
theorem OD{α:Type}[BEq α] [LawfulBEq α] {x:α}{f:Env->α}:∀{l:List Env},(∃e∈l,f e=x)->∃e r,(l.dropWhile λy=>f y != x)=e::r/\f e=x/\e∈l/\∀y∈r,y∈l
 |[],⟨_,h,_⟩=>nomatch h
 |y::l,⟨e,he,aI⟩=>by
  by_cases bL:f y=x
  ·refine⟨y,l,?_,bL,b8 ..,λz hz=>da _ hz⟩;rw[akh,show(f y != x)=aH by simp [bL]];rfl
  ·have hm:e∈l:=by
    rcases cY.mp he with rfl|h
    ·exact absurd aI bL
    ·exact h
   refine aE λkk=>?_;obtain⟨bg,r,h1,h2,h3,bf⟩:=OD (l:=l) ⟨e,hm,aI⟩;refine kk ?_;refine⟨bg,r,?_,h2,da _ h3,λz hz=>da _ (bf z hz)⟩;rw[akh,show(f y != x)=ak by simp [bL]];exact h1
theorem J6{env:Env}{L:Addr}{e:V}{ev head:aw}{b:Bool}{n:Nat}{q:Bool}{Q:Unit->bp->Prop}(aQ:eh aa A n q)(yo:∃f∈aa.eI,f.frame=env.frame)(i:Inv aa σ ρ s.heap)(r:jc σ e ev ρ s.heap)
  (aL:∀h',Inv aa σ ρ h'->Ext [] ρ s.heap ρ h'->pO ev h'->Q () { s with heap:=h' }) :
  a3 (bk aa.prog aa.w) A (do setField ev 1 (<-EntryCells.newEntry head (<-PySem.frameOf env) .none (rawInt L) .none (<-entryPlaceOf L b))) Q E s:=by
 refine aE λkk=>?_;obtain⟨k,c,a,bC,vs,C,dx,⟨oc,eH⟩,_,rfl,f3,oU,_,i3,tk,z⟩:=r.at i;refine kk ?_;unfold PySem.frameOf;refine aJ (aJ (wpAny_frameEnvs aQ.frames ?_));refine aE λkk=>?_;obtain⟨f,fr,h1,h2,h3,bf⟩:=OD (f:=λy:Env=>y.frame) yo;refine kk ?_;rw[h1];unfold frameObject;have Bq:∀y∈f::fr,y∈aa.eI:=λy bL=>(cY.mp bL).elim (λq=>q ▸ h3) (bf y);refine aJ (aJ (Wd (f::fr) s (λy bL=>?_) λH aD=>bQ ?_))
 ·refine aE λkk=>?_;obtain⟨jV,uk,o',ky,u9,_⟩:=i.up y (Bq y bL);refine kk ?_;exact⟨jV,uk,o',ky,u9⟩
 refine aE λkk=>?_;obtain⟨_,uk,o',ky,u9,_⟩:=i.up f h3;refine kk ?_;rw[ky];refine bQ (aJ (wpAny_entryPlaceOf λm1 kG=>?_));unfold EntryCells.newEntry newFields;refine aJ (pT ?_ (kG.sizeOk5 _ _ _ _ _));have yG:ig { cls:=.type "traceback",dict:=U,data:=.fields ([head,Value.ref uk,.none,rawInt L,.none]++(if m1.isEmpty then List.replicate 6 Value.none else m1)).toArray }:=⟨ab,_,ab,by simp only [k1,dM,gy,List.length_nil];lia⟩;generalize aaq:({ cls:=.type "traceback",dict:=U,data:=.fields ([head,Value.ref uk,.none,rawInt L,.none]++(if m1.isEmpty then List.replicate 6 Value.none else m1)).toArray }:Obj)=T at yG ⊢;have old:∀y ba,s.heap.get? y=I ba->∃k9,H.get? y=I k9:=λy ba bL=>(aD y ba bL).elim (λq=>⟨ba,q⟩) λaU=>by obtain⟨_,eo,q⟩:=aU;exact⟨_,q⟩
 obtain⟨ak1,g1,c0,t1⟩:∃cj,H.get? a=I cj/\cj.cls=bC.cls/\cj.data=.fields vs:=by
  rcases aD a bC f3 with q|⟨_,eo,q⟩
  ·exact⟨bC,q,ab,i3⟩
  ·exact⟨_,q,ab,i3⟩
 have g2:=ed (h:=H) T g1;have vV:=IU t1 (·.setIfInBounds 1 (Value.ref H.objs.size));refine II g2 t1 tk.1 ?_;have rF:=uw (Obj.mapFields (·.setIfInBounds 1 (Value.ref H.objs.size))) g2 (RR vV);have aar:H.objs.size≠a:=(Ku g1).symm;have aas:((H.push T).update a (Obj.mapFields (·.setIfInBounds 1 (Value.ref H.objs.size)))).get? H.objs.size=I T:=(DE _ _ _ _ aar).trans (gJ H (by rw[<-aaq];rfl));have n0:∀y ba,y≠a->H.get? y=I ba->((H.push T).update a (Obj.mapFields (·.setIfInBounds 1 (Value.ref H.objs.size)))).get? y=I ba:=λy ba bL e=>(DE _ _ _ _ bL).trans (ed T e);have mn:(vs.setIfInBounds 1 (Value.ref H.objs.size))[1]? =I (.ref H.objs.size):=by simp [tk.1]
 obtain⟨dH,dm⟩:=i.O4 (W:=[]) (h':=(H.push T).update a (Obj.mapFields (·.setIfInBounds 1 (Value.ref H.objs.size)))) dx eH
  (λy ba e tf ZJ ae=>n0 y ba tf ((aD y ba e).elim id λaU=>by obtain⟨⟨px,yA,j3⟩,_⟩:=aU;exact absurd j3 (ZJ px (Bq px yA))))
  (λy ba e hD=>by
   have tf:y≠a:=λq=>by replace e:=(f3 ..) ▸ (q ..) ▸ e;cases e;obtain⟨_,_,q⟩:=hD;replace q:=(i3 ..) ▸ q;cases q
   rcases aD y ba e with q|⟨_,eo,q⟩
   ·exact⟨ba.slots,n0 y ba tf q⟩
   ·exact⟨eo,n0 y _ tf q⟩)
  (λy ba e cq=>by
   have tf:y≠a:=λq=>by replace e:=(f3 ..) ▸ (q ..) ▸ e;cases e;exact nomatch oU.symm.trans cq.1
   rcases aD y ba e with q|⟨_,eo,q⟩
   ·exact⟨ba,n0 y ba tf q,cq⟩
   ·exact⟨_,n0 y _ tf q,cq⟩)
  λo' ws jV rm Lw=>by
   replace jV:=(f3 ..) ▸ jV;cases jV;replace rm:=(i3 ..) ▸ rm;cases rm;refine⟨_,_,rF,(RS _ _).trans c0,vV,by simpa using tk.1,.inr ⟨H.objs.size,T,mn,aas,yG,?_⟩⟩
   induction fb:aa.get? H.objs.size with
   |none=>rfl
   |some o=>
    refine aE λkk=>?_;obtain⟨cj,ax⟩:=old _ _ (i.base _ _ fb);refine kk ?_;exact absurd ab (Ku ax)
 exact aL _ dH dm ⟨a,_,_,H.objs.size,ab,rF,vV,mn⟩
theorem x3{env:Env}{e:V}{ev:aw}{n:Nat}{q:Bool}{Q:Unit->bp->Prop}(aQ:eh aa A n q)(yo:∃f∈aa.eI,f.frame=env.frame)(i:Inv aa σ ρ s.heap)(r:jc σ e ev ρ s.heap)
  (aL:∀h',Inv aa σ ρ h'->Ext [] ρ s.heap ρ h'->pO ev h'->Q () { s with heap:=h' }):a3 (bk aa.prog aa.w) A (noteFrame ev env) Q E s:=by
 refine aE λkk=>?_;obtain⟨k,c,a,bC,vs,C,dx,⟨oc,eH⟩,_,lX,f3,oU,_,i3,tk,z⟩:=r.at i;obtain⟨f,a8,j3⟩:=yo;obtain⟨_,L,o',ky,u9,_⟩:=i.up f a8;refine kk ?_;rw[ky]at j3;unfold noteFrame;rw[<-j3];subst lX;refine aE λkk=>?_;rcases tk.2 with fb|⟨bb,gp,ax,c7,⟨_,lS,eX,ob⟩,_⟩
 ·refine kk ?_;refine aJ (gj f3 i3 fb ?_);rw[bH (by decide)];exact J6 aQ ⟨f,a8,ky.trans j3⟩ i r aL
 ·refine kk ?_;refine aJ (gj f3 i3 ax ?_);rw[bj (show(Value.ref bb != Value.none)=ak from by simp)];refine aJ (gj c7 eX (akv ob) ?_);by_cases tn:(lS[3]==rawInt L)=ak
  ·rw[bj tn];exact bQ (aL _ i .refl ⟨a,bC,vs,bb,ab,f3,i3,ax⟩)
  ·rw[bH tn];refine aJ (Ej i r ab f3 i3 ax λh' dH dm cB=>?_);exact J6 (s:={ s with heap:=h' }) aQ ⟨f,a8,ky.trans j3⟩ dH r λfH ql p4 hc=>aL fH ql (dm.trans p4) hc
end
section
theorem Inv.list(i:Inv aa σ ρ s.heap){n:Nat}{l:List V}{a:Addr}{d:Nat}(b4:σ[n]? =I (.list l))(hi:ρ[n]? =I (a,d)) :
  Ik ρ s.heap a l:=i.objs n _ _ b4 hi
theorem gd{h:Heap}{a:Addr}{vs:List aw}{k:Nat}(e:h.get? a=I (er vs k)):h.IsList a vs.toArray:=⟨_,e,ab,k,ab⟩
theorem lj{h:Heap}{a:Addr}{vs:List aw}{k:Nat}(e:h.get? a=I (dJ vs k)):h.IsTuple a vs.toArray:=⟨_,e,ab,k,ab⟩
theorem p7:bz<2 ^ 63:=by decide
theorem ah.e8{β bN:Type}{t:Sem β}{n:Nat}{k:List V->M bN}{R:bN->Map->Heap->β->Prop}(h:∀l,σ[n]? =I (.list l)->ah aa W ρ s A R t (k l σ)) :
  ah aa W ρ s A R t ((e8 n>>=k) σ):=by
 induction e:σ[n]? with
 |none=>rw[cS (by rw[iD,e])];exact aS
 |some o=>
  induction o with
  |list l=>rw[aN (by rw[iD,e])];exact h l e
  |dict _ _=>rw[cS (by rw[iD,e])];exact aS
  |inst _ _=>rw[cS (by rw[iD,e])];exact aS
  |bI _=>rw[cS (by rw[iD,e])];exact aS
  |et _ _=>rw[cS (by rw[iD,e])];exact aS
  |cache=>rw[cS (by rw[iD,e])];exact aS
  |exc _=>rw[cS (by rw[iD,e])];exact aS
theorem Eu{x y:Str}(aI:PyData.strOk x=ak)(bL:PyData.strOk y=ak):PyData.strOk (x++y)=ak:=by
 unfold PyData.strOk at *;refine(?_:(x.cps++y.cps).all _=ak);rw[Array.all_append,aI,bL];rfl
theorem XB{a b:Int}(h:Small a\/Small b):IntMulOk a b:=
 h.elim (λh=>IntMulOk.of_left (intBits_le_64 h.1 h.2)) λh=>IntMulOk.of_right (intBits_le_64 h.1 h.2)
theorem Small.noPylong{a b:Int}(h:Small b):Builtin.divisionGoesByPylong a b=aH:=PyProof.noPylong_of_log2 (by
 have h1:b.natAbs<2 ^ 64:=Xy (n:=2 ^ 64) h.1 h.2;by_cases hz:b.natAbs=0
 ·rw[hz];decide
 ·exact(Nat.log2_lt hz).mpr (di h1 (Nat.pow_le_pow_right (by decide) (by decide))))
theorem ah.ite{α β:Type}{t:Sem β}{c:Prop}[Decidable c] {m:M α}{R:α->Map->Heap->β->Prop}(h:c->ah aa W ρ s A R t (m σ)):ah aa W ρ s A R t ((if c then m else M.bad) σ):=by
 by_cases ay:c
 ·rw[bj ay];exact h ay
 ·rw[bH ay];exact aS
theorem ah.intOp{op:Operator}{a b:Int}{t u:Tok}(i:Inv aa σ ρ s.heap):ah aa W ρ s A cM (binaryOp op (.int a t) (.int b u)) (Mine.Internal.intOp op a b σ):=by
 induction op with
 |Add=>exact ah.same i λQ E br=>add_int (br _ _ (.int _ _))
 |Sub=>exact ah.same i λQ E br=>sub_int (br _ _ (.int _ _))
 |Mult=>exact ah.ite λay=>ah.same i λQ E br=>alH (br _ _ (.int _ _)) (XB ay)
 |FloorDiv=>exact ah.ite λay=>ah.same i λQ E br=>floordiv_int ay.1 (br _ _ (.int _ _)) (.inl ay.2.noPylong)
 |Mod=>exact ah.ite λay=>ah.same i λQ E br=>mod_int ay.1 (br _ _ (.int _ _))
 |_=>exact aS
theorem ah.zf{a b:aw}{x y:V}(i:Inv aa σ ρ s.heap)(bl:Rel ρ s.heap a x)(cw:Rel ρ s.heap b y) :
  ah aa W ρ s A cM (binaryOp .Add a b) (Mine.Internal.zf x y σ):=by
 induction bl using Rel.cs with
 |str _ _ aI=>
  induction cw using Rel.cs with
  |str _ _ bL=>exact ah.ite λay=>ah.same i λQ E br=>add_str (λbX tk=>br _ _ (.str _ _ ⟨by rw[length_append];exact ay,Eu aI.2 bL.2⟩)) ay
  |_=>exact aS
 |@tup ad vs n l ft ga la dN=>
  induction cw using Rel.cs with
  |@tup bd ws k m ba pv o8 ef=>
   refine ah.ite λay=>?_;have h1:=dN.length;have h2:=ef.length;by_cases aK:vs=[]
   ·subst aK;cases dN;refine ah.same i λQ E br=>?_;exact concat_meets ⟨_,ga,ab⟩ ⟨_,pv,ab⟩ ajd seq_tuple_add ajn ajp (ajr _ _)
     (tuple_addW0 ad bd ([]:List aw).toArray ws.toArray n k U U #[] #[] ab) ⟨ga,pv,br _ _ (.tup ba pv o8 ef)⟩
   ·by_cases hw:ws=[]
    ·subst hw;cases ef;refine ah.same i λQ E br=>?_;rw[lP]at br;exact concat_meets ⟨_,ga,ab⟩ ⟨_,pv,ab⟩ ajd seq_tuple_add ajn ajp (ajr _ _)
      (tuple_addW1 ad bd vs.toArray ([]:List aw).toArray n k U U #[] #[] (by simpa using aK) ab) ⟨ga,pv,br _ _ (.tup ft ga la dN)⟩
    ·have ao:∀b o,s.heap.get? b=I o->(s.heap.push (dJ (vs++ws) 0)).get? b=I o:=λb o e=>ed _ e;refine ah.grown i λQ E br=>P.add_tuple (n:=n) (n2:=k) ga pv (by simpa using aK) (by simpa using hw) ?_ (by simp;exact rx 0x320E0080A808887088C520021 ab ay h1 h2);have:=br (.ref s.heap.objs.size) (s.heap.push (dJ (vs++ws) 0)) s.toks ao (.tup (n:=0) i.nQ (gJ _ ab) (by simp;exact rx 0x320E0080A808887088C520021 ab ay h1 h2) ((dN.append ef).sub (Sub.keeps ao)))
     simpa [dJ] using this
  |_=>exact aS
 |ref cC=>
  induction cw using Rel.cs with
  |ref gQ=>
   refine ah.e8 λl aj=>ah.e8 λm hm=>ah.ite λay=>?_;obtain⟨vs,k,ga,la,dN⟩:=i.list aj cC;obtain⟨ws,c6,pv,o8,ef⟩:=i.list hm gQ;have h1:=dN.length;have h2:=ef.length;refine ah.vi i λQ E br=>P.add_list (n:=k) (n2:=c6) ga pv ?_ (by simp;exact rx 0x320E0080A808887088C520021 ab ay h1 h2);have ao:∀b o,s.heap.get? b=I o->(s.heap.push (er (vs++ws) 0)).get? b=I o:=λb o e=>ed _ e;have:=br s.heap.objs.size (vs++ws) 0 (s.heap.push (er (vs++ws) 0)) s.toks ao tE (gJ _ ab) (by simp;exact rx 0x320E0080A808887088C520021 ab ay h1 h2) ((dN.append ef).sub (Sub.keeps ao))
   simpa [er] using this
  |_=>exact aS
 |_=>exact aS
theorem ah.binop(i:Inv aa σ ρ s.heap)(bl:Rel ρ s.heap a x)(cw:Rel ρ s.heap b y) :
  ah aa W ρ s A cM (binaryOp op a b) (binop op x y σ):=by
 have other:ah aa W ρ s A cM (binaryOp op a b) ((cond (isAdd op) (Mine.Internal.zf x y) M.bad) σ):=by
  induction op with
  |Add=>exact ah.zf i bl cw
  |_=>exact aS
 induction bl using Rel.cs with
 |int p t=>
  induction cw using Rel.cs with
  |int q u=>exact ah.intOp i
  |_=>exact aS
 |none=>exact other
 |bool _=>exact other
 |str _ _ _=>exact other
 |tup _ _ _=>exact other
 |ref _=>exact other
end
section
variable {h:Heap}
def t6(h:Heap)(v:aw)(d:PyData):Prop:=∃as,Reads h v d as/\d.canLay0=ak
def zq(h:Heap)(vs:List aw)(ds:List PyData):Prop:=∃as,ReadsAll h vs ds as/\PyData.canLayAll0 ds=ak
theorem Lb(h1:∀d,mU f x=I d->t6 h v d)(h2:∀ds,g6 f l=I ds->zq h vs ds)(e:g6 f (x::l)=I ds):zq h (v::vs) ds:=by
 have e:(match mU f x,g6 f l with|some d,some ds=>I (d::ds)|_,_=>U)=I ds:=e
 induction ax:mU f x with
 |none=>replace e:=ax ▸ e;exact bh e
 |some d=>
  induction aO:g6 f l with
  |none=>replace e:=aO ▸ ax ▸ e;exact bh e
  |some OC=>
   replace e:=aO ▸ ax ▸ e;cases e;refine aE λkk=>?_;obtain⟨as,aP,ay⟩:=h1 d ax;obtain⟨bs,qn,yD⟩:=h2 OC aO;refine kk ?_;exact⟨as++bs,.cons aP qn,by show(d.canLay0&&PyData.canLayAll0 OC)=ak;rw[ay,yD];rfl⟩
theorem JX(a8:∀n d a b,f n=I d->ρ[n]? =I (a,b)->t6 h (.ref a) d)(r:Rel ρ h v x)(e:mU f x=I d):t6 h v d:=by
 refine Rel.rec (motive_1:=λv x ae=>∀d,mU f x=I d->t6 h v d) (motive_2:=λvs l ae=>∀ds,g6 f l=I ds->zq h vs ds) ?_ ?_ ?_ ?_ ?_ ?_ ?_ ?_ r d e
 ·intro d e;cases e;exact⟨_,.none,ab⟩
 ·intro b d e;cases e;exact⟨_,.bool b,ab⟩
 ·intro i t d e;cases e;exact⟨_,.int i t,ab⟩
 ·intro x t aI d e;cases e;exact⟨_,.str x t,aI.2⟩
 ·intro a vs n l _ g _ r au d e;obtain⟨ds,ax,rfl⟩:=hr.mp (show(g6 f l).map PyData.tuple=I d from e);obtain⟨as,aP,ay⟩:=au ds ax;exact⟨as,.tuple (vs:=vs.toArray) (n:=n) g ab ab (by simpa using aP),ay⟩
 ·intro a b n aM d e;exact a8 _ _ _ _ e aM
 ·intro ds e;cases e;exact⟨_,.nil,ab⟩
 ·intro v vs x l _ _ h1 h2 ds e;exact Lb h1 h2 e
theorem T9(a8:∀n d a b,f n=I d->ρ[n]? =I (a,b)->t6 h (.ref a) d)(r:b9 ρ h vs l)(e:g6 f l=I ds):zq h vs ds:=
 b9.ind (P:=λvs l ae=>∀ds,g6 f l=I ds->zq h vs ds) (λds e=>by cases e;exact⟨_,.nil,ab⟩) (λr ae au ds e=>Lb (λd=>JX a8 r) au e) r ds e
theorem JY(i:Inv aa σ ρ h):∀(k n:Nat) (d:PyData) (a b:Addr),i1 σ k n=I d->ρ[n]? =I (a,b)->t6 h (.ref a) d
 |0,_,_,_,_,e,_=>by exact bh e
 |k+1,n,d,a,b,e,aM=>by
  have e:(match σ[n]? with|some (.list l)=>(g6 (i1 σ k) l).map PyData.list|_=>U)=I d:=e
  induction ax:σ[n]? with
  |none=>rw[ax]at e;exact bh e
  |some o=>
   rw[ax]at e
   induction o with
   |dict _ _=>exact bh e
   |inst _ _=>exact bh e
   |bI _=>exact bh e
   |et _ _=>exact bh e
   |cache=>exact bh e
   |exc _=>exact bh e
   |list l=>
    refine XN e λds aO=>?_;obtain⟨vs,m,g,aj,r⟩:=i.objs n _ _ ax aM;obtain⟨as,aP,ay⟩:=T9 (λn d a b=>JY i k n d a b) r aO;exact⟨a::as,.list (vs:=vs.toArray) (n:=m) g ab ab (by simpa using aP),ay⟩
theorem uM(i:Inv aa σ ρ h)(r:Rel ρ h v x)(e:toPy σ x=I d):t6 h v d:=
 JX (λn d a b=>JY i 4 n d a b) r e
end
section
theorem DY(h:eG σ x y=I b):(∃cV kM,toPy σ x=I cV/\toPy σ y=I kM/\min cV.depth kM.depth<=200/\b=PyData.eqv cV kM)\/B3 σ x y=I b:=by
 unfold eG at h
 induction ax:toPy σ x with
 |none=>replace h:=ax ▸ h;exact .inr h
 |some cV=>
  induction aO:toPy σ y with
  |none=>replace h:=aO ▸ ax ▸ h;exact .inr h
  |some kM=>
   replace h:=aO ▸ ax ▸ h;have h:(if min cV.depth kM.depth<=200 then I (PyData.eqv cV kM) else U)=I b:=h;by_cases hd:min cV.depth kM.depth<=200
   ·replace h:=bj hd ▸ h;cases h;exact .inl ⟨cV,kM,ab,ab,hd,ab⟩
   ·replace h:=bH hd ▸ h;exact bh h
theorem yl(e:hh σ k=I c):∃j,σ[k]? =I (.inst c j):=by
 unfold hh at e
 induction q:σ[k]? with
 |none=>rw[q]at e;exact bh e
 |some o=>
  rw[q]at e
  induction o with
  |inst mv j=>cases e;exact⟨j,ab⟩
  |_=>exact bh e
theorem yd(e:listAt σ k=I l):σ[k]? =I (.list l):=by
 unfold listAt at e
 induction q:σ[k]? with
 |none=>rw[q]at e;exact bh e
 |some o=>
  rw[q]at e
  induction o with
  |list mv=>cases e;rfl
  |_=>exact bh e
theorem OH(e:dictAt σ k=I l):∃v,σ[k]? =I (.dict v l):=by
 unfold dictAt at e
 induction q:σ[k]? with
 |none=>rw[q]at e;exact bh e
 |some o=>
  rw[q]at e
  induction o with
  |dict v mv=>cases e;exact⟨v,ab⟩
  |_=>exact bh e
theorem ab7(h:B3 σ x y=I b):∃n m,x=.ref n/\y=.ref m/\((∃c d i j,σ[n]? =I (.inst c i)/\σ[m]? =I (.inst d j)/\b=(n==m))\/∃l k,σ[n]? =I (.list l)/\σ[m]? =I (.list k)/\l.length≠k.length/\b=aH):=by
 induction x using V.casesOn with
 |ref n=>
  induction y using V.casesOn with
  |ref m=>
   refine⟨n,m,ab,ab,?_⟩;have lists:(match listAt σ n,listAt σ m with|some l,some k=>if l.length=k.length then U else I aH|_,_=>U)=I b->∃l k,σ[n]? =I (.list l)/\σ[m]? =I (.list k)/\l.length≠k.length/\b=aH:=λh=>by
    induction ax:listAt σ n with
    |none=>replace h:=ax ▸ h;exact bh h
    |some l=>
     induction aO:listAt σ m with
     |none=>replace h:=aO ▸ ax ▸ h;exact bh h
     |some k=>
      replace h:=aO ▸ ax ▸ h;dsimp only at h;by_cases aj:l.length=k.length
      ·replace h:=bj aj ▸ h;exact bh h
      ·replace h:=bH aj ▸ h;cases h;exact⟨l,k,yd ax,yd aO,aj,ab⟩
   have h:(match hh σ n,hh σ m with|some _,some _=>I (n==m)|_,_=>(match listAt σ n,listAt σ m with|some l,some k=>if l.length=k.length then U else I aH|_,_=>U))=I b:=h
   induction ax:hh σ n with
   |none=>replace h:=ax ▸ h;exact .inr (lists h)
   |some c=>
    induction aO:hh σ m with
    |none=>replace h:=aO ▸ ax ▸ h;exact .inr (lists h)
    |some d=>
     replace h:=aO ▸ ax ▸ h;cases h;refine aE λkk=>?_;obtain⟨i,h1⟩:=yl ax;obtain⟨j,h2⟩:=yl aO;refine kk ?_;exact .inl ⟨c,d,i,j,h1,h2,ab⟩
  |_=>exact bh h
 |_=>exact bh h
theorem ah.ask{α β:Type}{t:Sem β}{f:aq->Option α}{R:α->Map->Heap->β->Prop}(h:∀a,f σ=I a->ah aa W ρ s A R t (.ok a σ)):ah aa W ρ s A R t (c1 f σ):=by
 rw[hU]
 induction e:f σ with
 |none=>exact aS
 |some a=>exact h a e
theorem acb(i:Inv aa σ ρ s.heap)(bl:Rel ρ s.heap a x)(cw:Rel ρ s.heap b y)(ex:toPy σ x=I cV)(oa:toPy σ y=I kM)
  (hd:min cV.depth kM.depth<=200) (cF:A.units+200<cLine):SeqAt.EqAt A s a b (PyData.eqv cV kM):=by
 refine aE λkk=>?_;obtain⟨as,dN,c0⟩:=uM i bl ex;obtain⟨bs,ef,dY⟩:=uM i cw oa;exact kk (SeqAt.eqAt_reads cV kM A s a b as bs dN ef c0 dY (fz (zN ‹_<=200› _) ‹_›))
theorem ip.cache(r:ip aa ρ h p o)(e:h.get? p.1=I (dJ vs n)):o=.cache:=by
 induction o with
 |list l=>
  refine aE λkk=>?_;obtain⟨ws,m,g,_⟩:=r;refine kk ?_;exact absurd e (A8 g vs n)
 |dict v l=>
  refine aE λkk=>?_;obtain⟨_,_,_,⟨_,_,_,g,_,d,_⟩,_⟩:=r;refine kk ?_;replace g:=e ▸ g;cases g;cases d
 |inst c k=>
  refine aE λkk=>?_;obtain⟨_,_,_,_,_,g,d,_⟩:=r;refine kk ?_;replace g:=e ▸ g;cases g;cases d
 |bI l=>
  refine aE λkk=>?_;obtain⟨_,_,⟨_,_,_,g,d,_⟩,_⟩:=r;refine kk ?_;replace g:=e ▸ g;cases g;cases d
 |et v l=>
  refine aE λkk=>?_;obtain⟨_,_,_,⟨_,_,_,g,_,d,_⟩,_⟩:=r;refine kk ?_;replace g:=e ▸ g;cases g;cases d
 |cache=>rfl
 |exc c=>
  refine aE λkk=>?_;obtain⟨_,_,_,_,g,d,_⟩:=r;refine kk ?_;replace g:=e ▸ g;cases g;cases d
theorem Rel.uniq(i:Inv aa σ ρ h)(r:Rel ρ h v x)(q:Rel ρ h v y):x=y:=by
 refine Rel.rec (motive_1:=λv x ae=>∀y,Rel ρ h v y->x=y) (motive_2:=λvs l ae=>∀m,b9 ρ h vs m->l=m) ?_ ?_ ?_ ?_ ?_ ?_ ?_ ?_ r y q
 ·intro y q;cases q;rfl
 ·intro b y q;cases q;rfl
 ·intro j t y q;cases q;rfl
 ·intro z t _ y q;cases q;rfl
 ·intro a vs n l off g _ _ au y q
  cases q with
  |tup _ cB _ dn=>replace cB:=g ▸ cB;cases cB;rw[au _ dn]
  |ref e=>exact absurd ab (off _ (g4 e))
 ·intro a d n e y q
  cases q with
  |tup off _ _ _=>exact absurd ab (off _ (g4 e))
  |@ref _ eb m bg=>
   by_cases qp:n=m
   ·rw[qp]
   ·exact absurd ab (i.apart n m (a,d) (a,eb) e bg qp)
 ·intro m q;cases q;rfl
 ·intro v vs x l _ _ h1 h2 m q
  cases q with
  |cons a b=>rw[h1 _ a,h2 _ b]
theorem Inv.cmp{h:Heap}(i:Inv aa σ ρ h){n j d:Nat}{c:Str}{a:Addr}(b4:σ[n]? =I (.inst c j))(bK:ρ[n]? =I (a,d)):∃C,h.CmpInst a C [.type "object"]:=by
 refine aE λkk=>?_;obtain⟨C,o,cV,eb,⟨X,_⟩,g,h3,_⟩:=i.objs n _ _ b4 bK;obtain⟨N,dk,cl,he,aM⟩:=X.keeps i.base;obtain⟨nm,q,bs,sn,sub,col,gR,iC,fC,gC,lh,lg,dK⟩:=wi cl;exact kk ⟨C,o,nm,q,N,bs,ak,sn,sub,aH,col,gR,iC,fC,gC,lh,lg, "object.__new__",dk,g,h3,dK,cl.ns,he,aM⟩
theorem Hf(i:Inv aa σ ρ s.heap){a b:aw}{x y:V}{e:Bool}(bl:Rel ρ s.heap a x)(cw:Rel ρ s.heap b y)(h:B3 σ x y=I e)(cF:A.units+200<cLine) :
  SeqAt.RcAt A s a b e/\SeqAt.RcNeAt A s a b (!e)/\SeqAt.EqAt A s a b e:=by
 have Bo:A.units<cLine:=by exact fk 0x142120020284264782400021 ab cF
 have Gd:A.units+1<cLine:=by exact fk 0xA10842400020284264782400021 ab cF
 obtain⟨n,m,rfl,rfl,h|⟨l,k,h1,h2,aj,rfl⟩⟩:=ab7 h
 ·obtain⟨c,d,_,_,h1,h2,rfl⟩:=h
  cases bl with
  |@ref HP y2 _ cC=>
  cases cw with
  |@ref tU db _ gQ=>
  obtain⟨C,X⟩:=i.cmp h1 cC;obtain⟨D,Y⟩:=i.cmp h2 gQ;obtain⟨hp,g,mu,t,os⟩:=s;by_cases qp:n=m
  ·subst qp;replace gQ:=cC ▸ gQ;cases gQ;rw[jJ];exact⟨λprog w E Q aL=>richCompare_eq_same zX X Bo aL,λprog w E Q aL=>richCompare_ne_same zX X Gd aL,.same _⟩
  ·have dD:HP≠tU:=i.apart n m _ _ cC gQ qp;rw[zL qp];have rc:SeqAt.RcAt A ⟨hp,g,mu,t,os⟩ (.ref HP) (.ref tU) aH:=λprog w E Q aL=>richCompare_eq_other zX zX X Y dD Bo aL;exact⟨rc,λprog w E Q aL=>richCompare_ne_other zX zX X Y dD Gd aL,.of_refs dD rc⟩
 ·cases bl with
  |@ref HP y2 _ cC=>
  cases cw with
  |@ref tU db _ gQ=>
  obtain⟨vs,j,g1,_,dN⟩:=i.list h1 cC;obtain⟨ws,FT,g2,_,ef⟩:=i.list h2 gQ;have ax:=dN.length;have aO:=ef.length;have aD:(vs.toArray.size != ws.toArray.size)=ak:=by simp;lia
  have rc:=alE (gd g1) (gd g2) aD Bo;refine⟨rc,alD (gd g1) (gd g2) aD Bo,.of_refs (λeq=>?_) rc⟩;subst eq;replace g2:=g1 ▸ g2;cases g2;simp at aD
open Classical in
def wo(σ:aq)(ρ:Map)(h:Heap)(y:V)(v:aw):Bool:=decide (∃x,Rel ρ h v x/\eG σ x y=I ak)
open Classical in
theorem PC(i:Inv aa σ ρ s.heap)(r:Rel ρ s.heap v x)(h:eG σ x y=I e):wo σ ρ s.heap y v=e:=by
 unfold wo
 induction e with
 |true=>exact kg ⟨x,r,h⟩
 |false=>
  refine jI ?_;rintro⟨dm,dn,h'⟩;replace h':=h ▸ Rel.uniq i dn r ▸ h';cases h'
theorem Ti(i:Inv aa σ ρ s.heap)(bl:Rel ρ s.heap a x)(cw:Rel ρ s.heap b y)(h:eG σ x y=I e)(cF:A.units+200<cLine):SeqAt.EqAt A s a b e:=by
 rcases DY h with ⟨cV,kM,ex,oa,hd,rfl⟩|h
 ·exact acb i bl cw ex oa hd cF
 ·exact(Hf i bl cw h cF).2.2
theorem JJ(i:Inv aa σ ρ s.heap)(cw:Rel ρ s.heap b y)(cF:A.units+200<cLine):∀{vs:List aw}{l:List V}{k:Bool},b9 ρ s.heap vs l->iM σ y l=I k ->
  k=vs.any (wo σ ρ s.heap y)/\∀v∈vs,SeqAt.EqAt A s v b (wo σ ρ s.heap y v):=by
 intro vs l k r h
 induction l generalizing vs k with
 |nil=>cases r;cases h;exact⟨ab,λae aK=>nomatch aK⟩
 |cons x l au=>
  cases r with
  |cons r rs=>
  have h:(match eG σ x y,iM σ y l with|some e,some t=>I (e || t)|_,_=>U)=I k:=h
  induction ax:eG σ x y with
  |none=>replace h:=ax ▸ h;exact bh h
  |some e=>
   induction aO:iM σ y l with
   |none=>replace h:=aO ▸ ax ▸ h;exact bh h
   |some t=>
    replace h:=aO ▸ ax ▸ h;cases h;obtain⟨h1,h2⟩:=au rs aO;have al:=PC i r ax;refine⟨by rw[Sa,al,<-h1],λu hm=>?_⟩;rcases cY.mp hm with rfl|hm
    ·rw[al];exact Ti i r cw ax cF
    ·exact h2 u hm
theorem Inv.dict(i:Inv aa σ ρ s.heap){n v:Nat}{l:Tab}{p:Addr×Nat}(b4:σ[n]? =I (.dict v l))(bK:ρ[n]? =I p) :
  ID aa ρ s.heap p v l:=i.objs n _ p b4 bK
theorem vu(bl:Rel ρ h a x)(e:keyOf x=I k):nW k a=ak/\∀s,k=.inr s->gW s:=by
 induction bl using Rel.cs with
 |int i t=>cases e;exact⟨MJ i t,λs e=>by cases e⟩
 |str x t aI=>cases e;exact⟨MI x t,λs e=>by cases e;exact aI⟩
 |_=>exact bh e
theorem fp.at(r:fp ρ h bY l):(ez l k=U->valueAt bY k=U)/\∀x,ez l k=I x->∃v,valueAt bY k=I v/\Rel ρ h v x:=by
 induction r with
 |nil=>exact⟨λae=>ab,λae e=>by exact bh e⟩
 |@cons c6 v x bY l aD r rs au=>
  unfold ez valueAt at au ⊢;rw[su,su];by_cases ao:c6=k
  ·simp only [ao,decide_true];exact⟨λe=>(by exact lV e),λy e=>(by cases e;exact⟨v,ab,r⟩)⟩
  ·simp only [ao,decide_false];exact au
theorem fp.isSome(r:fp ρ h bY l):(valueAt bY k).isSome=(ez l k).isSome:=by
 have:=r.at (k:=k)
 induction e:ez l k with
 |none=>rw[this.1 e];rfl
 |some x=>obtain⟨v,aK,_⟩:=this.2 x e;rw[aK];rfl
theorem ah.hF{β bN:Type}{t:Sem β}{n:Nat}{k:O->M bN}{R:bN->Map->Heap->β->Prop}(h:∀o,σ[n]? =I o->ah aa W ρ s A R t (k o σ)) :
  ah aa W ρ s A R t ((hF n>>=k) σ):=by
 induction e:σ[n]? with
 |none=>rw[cS (by rw[nh,e])];exact aS
 |some o=>rw[aN (a:=o) (af:=σ) (by rw[nh,e])];exact h o e
theorem ah.Fe{α β bN:Type}{t:Sem β}{o:Option α}{k:α->M bN}{R:bN->Map->Heap->β->Prop}(h:∀a,o=I a->ah aa W ρ s A R t (k a σ)):ah aa W ρ s A R t ((bE o>>=k) σ):=by
 induction o with
 |none=>exact aS
 |some a=>exact h a ab
theorem ah.Ct{α β bN:Type}{t:Sem β}{f:aq->Option α}{k:α->M bN}{R:bN->Map->Heap->β->Prop}(h:∀a,f σ=I a->ah aa W ρ s A R t (k a σ)):ah aa W ρ s A R t ((c1 f>>=k) σ):=by
 induction e:f σ with
 |none=>rw[cS (by rw[hU,e])];exact aS
 |some a=>rw[aN (a:=a) (af:=σ) (by rw[hU,e])];exact h a e
theorem ah.vB{a b:aw}{x y:V}{f:Bool->Bool}{op:CmpOp}(i:Inv aa σ ρ s.heap)(cF:A.units+201<cLine)(bl:Rel ρ s.heap a x)(cw:Rel ρ s.heap b y)(ti:(op=.In/\f=id)\/(op=.NotIn/\f=not)) :
  ah aa W ρ s A cM (compareOp op a b) ((Mine.Internal.vB x y>>=λc=>(cv (V.bool (f c)):M V)) σ):=by
 induction cw using Rel.cs with
 |@ref ad d n bK=>
  refine(?_:ah aa W _ _ A _ _ ((Mine.Internal.among x n>>=λb=>(cv (V.bool (f b)):M V)) σ));unfold Mine.Internal.among;rw[M.assoc];refine ah.hF λo ho=>?_
  induction o with
  |list l=>
   refine ah.Ct λk ao=>?_;obtain⟨vs,m,g,aj,r⟩:=i.list ho bK;obtain⟨rfl,he⟩:=JJ (A:=A.in1) i bl (by exact show A.units+1+200<cLine from fk 0x1421323C10848000020284264F82400021 ab cF:A.in1.units+200<cLine) r ao;rcases ti with ⟨rfl,rfl⟩|⟨rfl,rfl⟩
   ·refine ah.same i λQ E br=>SeqAt.in_listAt _ (gd g) (λy bL=>he y (by simpa using bL)) ?_;have:=br _ s.toks (.bool _)
    simpa using this
   ·refine ah.same i λQ E br=>SeqAt.notIn_listAt _ (gd g) (λy bL=>he y (by simpa using bL)) ?_;have:=br _ s.toks (.bool _)
    simpa using this
  |dict oc l=>
   refine ah.Fe λk ao=>?_;obtain⟨kk,dB,rfl⟩:=hr.mp ao;obtain⟨_,aD,bY,hd,aj,r⟩:=i.dict ho bK;rcases ti with ⟨rfl,rfl⟩|⟨rfl,rfl⟩
   ·exact ah.same i λQ E br=>wpAny_in_of (vu bl dB).1 aD hd.mapOf (br _ _ (by rw[r.isSome];exact .bool _))
   ·exact ah.same i λQ E br=>wpAny_notIn_of (vu bl dB).1 aD hd.mapOf (br _ _ (by rw[r.isSome];exact .bool _))
  |inst _ _=>exact aS
  |bI _=>exact aS
  |et _ _=>exact aS
  |cache=>exact aS
  |exc _=>exact aS
 |_=>exact aS
theorem ah.oX(i:Inv aa σ ρ s.heap)(bl:Rel ρ s.heap a x)(cw:Rel ρ s.heap b y)
  (h1:∀(m n:Int) (p q:Tok) (Q E:aw->bp->Prop),a=.int m p->b=.int n q->Q (.bool (f m n)) s->a3 (bk aa.prog aa.w) A t Q E s):ah aa W ρ s A cM t (Mine.Internal.oX f x y σ):=by
 induction bl using Rel.cs with
 |int m p=>induction cw using Rel.cs with
  |int n q=>exact ah.same i λQ E br=>h1 m n p q Q E ab ab (br _ s.toks (.bool _))
  |_=>exact aS
 |_=>exact aS
set_option tactic.hygienic true in
theorem ah.vy(i:Inv aa σ ρ s.heap)(bl:Rel ρ s.heap a x)(cw:Rel ρ s.heap b y)(ti:(op=.Is/\f=id)\/(op=.IsNot/\f=not)) :
  ah aa W ρ s A cM (compareOp op a b) ((Mine.Internal.vy x y>>=λc=>(cv (V.bool (f c)):M V)) σ):=by
 cases cw with
 |none=>
  refine(?_:ah aa W ρ s A cM _ (.ok (V.bool (f (isNone x))) σ));have e:plainIs a .none=ak/\(a == .none)=isNone x:=by cases bl <;> exact⟨ab,ab⟩
  rcases ti with ⟨rfl,rfl⟩|⟨rfl,rfl⟩
  ·exact ah.same i λQ E br=>wpAny_is_plain e.1 (by rw[e.2];exact br _ s.toks (.bool _))
  ·exact ah.same i λQ E br=>wpAny_isNot_plain e.1 (by rw[e.2];exact br _ s.toks (.bool _))
 |_=>exact aS
open AutoSeq1 (wpAny_loadPart') in
theorem acD(l:Addr)(aT:Array DictEntry)(cU:Nat)(gR:Option Addr)(eo:Array (Option aw))(b:Str)(u:Tok) :
  Meets (Builtin.«dict.__eq__» ⟨[.ref l,.str b u],[]⟩) (λae R s=>s.heap.get? l=I { cls:=.type "dict",dict:=gR,data:=.dict aT cU,slots:=eo }/\R (.ok (.ret .notImplemented)) s):=.of_wp λprog w A R s h=>by
 obtain⟨hp,g,d,tk,os⟩:=s;obtain⟨aj,h⟩:=h;have f1:=ajm
 wp_walk using wpAny_loadPart' aj
 exact⟨_,ab,h⟩
open AutoSeq1 (wpAny_loadPart') in
theorem Vl(b:Str)(u:Tok)(l:Addr)(aT:Array DictEntry)(cU:Nat)(gR:Option Addr)(eo:Array (Option aw)) :
  Meets (Builtin.«str.__eq__» ⟨[.str b u,.ref l],[]⟩) (λae R s=>s.heap.get? l=I { cls:=.type "dict",dict:=gR,data:=.dict aT cU,slots:=eo }/\R (.ok (.ret .notImplemented)) s):=.of_wp λprog w A R s h=>by
 obtain⟨hp,g,d,tk,os⟩:=s;obtain⟨aj,h⟩:=h
 wp_walk using wpAny_loadPart' aj,RD aj
 exact⟨_,ab,h⟩
theorem ab8(i:Inv aa σ ρ s.heap){a b:aw}{x y:V}{e:Bool}(bl:Rel ρ s.heap a x)(cw:Rel ρ s.heap b y)(h:yT σ x y=I e)(cF:A.units<cLine):SeqAt.RcAt A s a b e:=by
 induction bl using Rel.cs with
 |@ref l d n bK=>
  induction cw using Rel.cs with
  |str z u=>
   refine aE λkk=>?_;obtain⟨t,aY,rfl⟩:=hr.mp (show(dictAt σ n).map (λae=>aH)=I e from h);obtain⟨v,b4⟩:=OH aY;obtain⟨_,_,_,⟨⟨cls,gR,data,eo⟩,aT,cU,g,⟨ay,_,_⟩,hd,_⟩,_⟩:=i.dict b4 bK;refine kk ?_;simp only at ay hd;subst ay hd;exact λprog w E Q h=>SeqAt.rc_eq_decline_or (k:=aH) ⟨_,g,ab⟩ (IL s z u) (by decide) ajm akn akm
    (λae aL=>zK akn ⟨_,g,ab⟩ F.entry_dict_eq (F.args_dict_eq_2 _ _) (acD l aT cU gR eo z u) ⟨g,aL⟩)
    (λae aL=>zK akm (IL s z u) F.entry_str_eq (F.args_str_eq_2 _ _) (Vl z u l aT cU gR eo) ⟨g,aL⟩)
    (λae aL=>lK (ab:isSame (.ref l) (.str z u)=pure aH) aL) (.inr cF) h
  |_=>exact bh h
 |_=>exact bh h
theorem ah.cmp{op:CmpOp}{a b:aw}{x y:V}(i:Inv aa σ ρ s.heap)(cF:A.units+201<cLine)(bl:Rel ρ s.heap a x)(cw:Rel ρ s.heap b y) :
  ah aa W ρ s A cM (compareOp op a b) (cmp op x y σ):=by
 have Gd:A.in1.units+200<cLine:=by exact show A.units+1+200<cLine from fk 0x1421323C10848000020284264F82400021 ab cF
 induction op with
 |Eq=>
  refine(?_:ah aa W ρ s A cM _ (c1 (λσ=>((eG σ x y).or (yT σ x y)).map V.bool) σ));refine ah.ask λc ay=>?_;obtain⟨k,ao,rfl⟩:=hr.mp ay
  induction aK:eG σ x y with
  |some e=>
   replace ao:=aK ▸ ao;cases ao;refine aE λkk=>?_;rcases DY aK with ⟨cV,kM,ex,oa,hd,rfl⟩|h
   ·obtain⟨as,dN,c0⟩:=uM i bl ex;obtain⟨bs,ef,dY⟩:=uM i cw oa;exact kk (ah.same i λQ E br=>SeqAt.compareEq_reads dN ef c0 dY (fz (zN (w4 ‹_<=200›) _) ‹_›) (br _ s.toks (.bool _)))
   ·exact kk (ah.same i λQ E br=>(Hf (A:=A) i bl cw h (by exact fk 0x284264782400020284264F82400021 ab cF)).1 _ _ E Q (br _ s.toks (.bool _)))
  |none=>
   replace ao:=aK ▸ ao;have ao:yT σ x y=I k:=ao;exact ah.same i λQ E br=>ab8 i bl cw ao (by exact fk 0x142120020284264F82400021 ab cF) _ _ E Q (br _ s.toks (.bool _))
 |NotEq=>
  refine(?_:ah aa W ρ s A cM _ (c1 (λσ=>(eG σ x y).map λe=>V.bool (!e)) σ));refine ah.ask λc ay=>?_;obtain⟨k,ao,rfl⟩:=hr.mp ay;refine aE λkk=>?_;rcases DY ao with ⟨cV,kM,ex,oa,hd,rfl⟩|h
  ·obtain⟨as,dN,c0⟩:=uM i bl ex;obtain⟨bs,ef,dY⟩:=uM i cw oa;exact kk (ah.same i λQ E br=>SeqAt.compareNe_reads dN ef c0 dY (fz (zN (w4 ‹_<=200›) _) ‹_›) (br _ s.toks (.bool _)))
  ·exact kk (ah.same i λQ E br=>(Hf (A:=A) i bl cw h (by exact fk 0x284264782400020284264F82400021 ab cF)).2.1 _ _ E Q (br _ s.toks (.bool _)))
 |Lt=>exact ah.oX i bl cw (λm n p q Q E cC gQ h=>by subst cC gQ;exact lt_int h)
 |LtE=>exact ah.oX i bl cw (λm n p q Q E cC gQ h=>by subst cC gQ;exact le_int h)
 |Gt=>exact ah.oX i bl cw (λm n p q Q E cC gQ h=>by subst cC gQ;exact gt_int h)
 |GtE=>exact ah.oX i bl cw (λm n p q Q E cC gQ h=>by subst cC gQ;exact ge_int h)
 |Is=>exact ah.vy (f:=id) i bl cw (.inl ⟨ab,ab⟩)
 |IsNot=>exact ah.vy (f:=not) i bl cw (.inr ⟨ab,ab⟩)
 |In=>exact ah.vB (f:=id) i cF bl cw (.inl ⟨ab,ab⟩)
 |NotIn=>exact ah.vB (f:=not) i cF bl cw (.inr ⟨ab,ab⟩)
set_option tactic.hygienic true in
theorem ah.truth(i:Inv aa σ ρ s.heap)(bl:Rel ρ s.heap a x):ah aa W ρ s A sd (truthy a) (truth x σ):=by
 cases bl with
 |bool _=>exact ah.same i λQ E br=>Dh (br _ s.toks ab)
 |_=>exact aS
end
section
theorem AM(aM:n<=bz):(n:Int)<2 ^ 63:=by
 have:=qX.mpr (fz aM p7);exact this
theorem Ls(h:place i n=I k)(aM:n<=bz):seqIndex? i n=I k/\-(2 ^ 63)<=i/\i<2 ^ 63:=by
 unfold place at h
 split at h
 ·split at h
  ·cases h;exact⟨seqIndex_of (by assumption) (by assumption),pY (by decide) ‹0<=i›,DD (by assumption) (AM aM)⟩
  ·exact bh h
 ·next aR=>
  split at h
  ·next aV=>
   cases h;have hm:-(n:Int)<=i:=Int.le_of_sub_nonneg (by rw[Int.sub_neg];exact aV);exact⟨seqIndex_neg (DC.mp aR) hm,pY (Int.neg_le_neg (w8 (AM aM))) hm,DD (DC.mp aR) (by decide)⟩
  ·exact bh h
theorem WL{i:Int}{n:Nat}(h:¬0<=i)(aV:0<=i+(n:Int)):(i+(n:Int)).toNat<n:=(DA aV).mpr (by have:=Sh (DC.mp h) n;rw[Sb]at this;exact this)
theorem place_lt(h:place i n=I k):k<n:=by
 unfold place at h
 split at h
 ·split at h
  ·cases h;exact JZ ‹_› ‹_›
  ·exact bh h
 ·split at h
  ·cases h;exact WL ‹_› ‹_›
  ·exact bh h
theorem aaK(g:s.heap.get? l=I (er vs n))(aj:vs.length<=bz)
  (ao:place i vs.length=I k) (aI:vs[k]? =I x) (h:Q x s):a3 (bk aa.prog aa.w) A (getItem (.ref l) (.int i t)) Q E s:=by
 have aD:=p7;unfold place at ao
 split at ao
 ·rename_i aV
  split at ao
  ·cases ao;exact wpAny_getItem_list (gd g) aV (zV ‹_› (pY (yf aj) (by decide))) (by simpa using aI) h
  ·exact bh ao
 ·rename_i aV
  split at ao
  ·cases ao;exact wpAny_getItem_list_neg (gd g) (by lia) (by simp;lia) (by lia) (by simpa using aI) h
  ·exact bh ao
theorem ah.bE{α β:Type}{t:Sem β}{o:Option α}{R:α->Map->Heap->β->Prop}(h:∀a,o=I a->ah aa W ρ s A R t (.ok a σ)):ah aa W ρ s A R t (bE o σ):=by
 induction o with
 |none=>exact aS
 |some a=>exact h a ab
theorem ah.LR{α β bN:Type}{t:Sem β}{o:Option α}{k:α->M bN}{R:bN->Map->Heap->β->Prop}(h:∀a,o=I a->ah aa W ρ s A R t (k a σ)):ah aa W ρ s A R t ((Mine.Internal.bE o>>=k) σ):=by
 induction o using Option.casesOn with
 |none=>exact aS
 |some a=>exact h a ab
theorem Inv.et(i:Inv aa σ ρ s.heap){n v:Nat}{l:jz}{p:Addr×Nat}(b4:σ[n]? =I (.et v l))(bK:ρ[n]? =I p) :
  HZ aa ρ s.heap p v l:=i.objs n _ p b4 bK
theorem Ug(r:b9 ρ h vs l):uN l=I ks->ItemsAre (intKind prog w) ks vs:=by
 induction r using b9.ind generalizing ks with
 |aV=>intro e;cases e;exact .nil
 |@h1 v vs x l r rs au=>
  intro e
  induction r using Rel.cs with
  |int j t=>
   obtain⟨eB,ax,rfl⟩:=hr.mp (show(uN l).map (j :: ·)=I ks from e);exact .cons (MJ j t) (au ax)
  |_=>exact bh e
theorem J0(r:Rel ρ h b y)(e:lT y=I k):∃a,b=.ref a/\(Ag prog w).is h k a/\cT ρ a/\∃vs n,h.get? a=I (dJ vs n):=by
 induction r using Rel.cs with
 |@tup a vs n l off g aj r=>exact⟨a,ab,⟨_,vs.toArray,n,g,ab,ab,by simpa using Ug r e⟩,off,vs,n,g⟩
 |_=>exact bh e
theorem ij.at(r:ij ρ h xs l):(gL l k=U->atKey xs k=U)/\∀x,gL l k=I x->∃p,atKey xs k=I p/\Rel ρ h p.2 x:=by
 induction r with
 |nil=>exact⟨λae=>ab,λae e=>by exact bh e⟩
 |@cons c6 a v x xs l aD r rs au=>
  unfold gL atKey at au ⊢;rw[su,su];by_cases ao:c6=k
  ·simp only [ao,decide_true];exact⟨λe=>(by exact lV e),λy e=>(by cases e;exact⟨(a,v),ab,r⟩)⟩
  ·simp only [ao,decide_false];exact au
theorem ah.item{a b:aw}{x y:V}(i:Inv aa σ ρ s.heap)(cF:A.units+201<cLine)(bl:Rel ρ s.heap a x)(cw:Rel ρ s.heap b y) :
  ah aa W ρ s A cM (getItem a b) (item x y σ):=by
 have aD:=p7
 induction bl using Rel.cs with
 |tup _ g aj r=>
  induction cw using Rel.cs with
  |int k t=>
   have hlen:=r.length;refine ah.bE λv aK=>?_;refine bind_some aK λj bw aK=>?_;obtain⟨val,e,aP⟩:=r.get aK;obtain⟨h1,h2,h3⟩:=Ls bw (by exact gq 0x298203102329021 ab aj hlen);exact ah.same i λQ E br=>ajt g h2 h3 (by simpa [hlen] using h1) (by simpa using e) (br _ s.toks aP)
  |_=>exact aS
 |str x t aI=>
  induction cw using Rel.cs with
  |int k u=>
   refine ah.bE λv aK=>?_;refine bind_some aK λj bw aK=>?_;obtain⟨c,ay,rfl⟩:=hr.mp aK;obtain⟨h1,h2,h3⟩:=Ls bw aI.1;refine ah.same i λQ E br=>P.getItem_str (c:=c) ?_ (by rw[h1];simpa using ay) (br _ _ (.str _ _ ⟨by show 1<=bz;decide,?_⟩))
   ·simp only [Bool.or_eq_false_iff,decide_eq_false_iff_not];exact⟨sv.mpr (by assumption),DC.mpr (by assumption)⟩
   ·have bf:=aI.2;unfold PyData.strOk at bf ⊢;rw[Array.all_eq_true]at bf;have d6:j<(_:Str).cps.size:=place_lt bw;have:=bf j d6;replace ay:=akv d6 ▸ ay;cases ay
    simpa [hk] using this
  |_=>exact aS
 |ref bK=>
  refine ah.hF λo ho=>?_
  induction o with
  |list l=>
   induction cw using Rel.cs with
   |int k t=>
    refine ah.bE λv aK=>?_;obtain⟨vs,m,g,aj,r⟩:=i.list ho bK;refine bind_some aK λj bw aK=>?_;obtain⟨val,e,aP⟩:=r.get aK;exact ah.same i λQ E br=>aaK g aj (by rw[r.length];exact bw) e (br _ s.toks aP)
   |_=>exact aS
  |dict oc l=>
   refine ah.bE λv aK=>?_;refine bind_some aK λkk dB aK=>?_;obtain⟨_,aD,bY,hd,aj,r⟩:=i.dict ho bK;obtain⟨val,e,aP⟩:=r.at.2 v aK;exact ah.same i λQ E br=>wpAny_getItem_of (vu cw dB).1 hd.mapOf e (br _ _ aP)
  |et oc l=>
   refine ah.bE λv aK=>?_;refine bind_some aK λkk dB aK=>?_;obtain⟨_,aD,xs,hd,aj,r⟩:=i.et ho bK;obtain⟨p,e,aP⟩:=r.at.2 v aK;obtain⟨ad,rfl,ao,_⟩:=J0 (prog:=aa.prog) (w:=aa.w) cw dB;exact ah.same i λQ E br=>wpAny_getItem_heap (ai9 (by exact fk 0xA10842400020284264F82400021 ab cF)) ao hd e (br _ _ aP)
  |inst _ _=>exact aS
  |bI _=>exact aS
  |cache=>exact aS
  |exc _=>exact aS
 |_=>exact aS
theorem b9.cut(r:b9 ρ h vs l)(lo aR:Option Int):b9 ρ h (Mine.Internal.cut vs lo aR) (Mine.Internal.cut l lo aR):=by
 have hd:∀(n:Nat) {vs:List aw}{l:List V},b9 ρ h vs l->b9 ρ h (vs.drop n) (l.drop n):=by
  intro n
  induction n with
  |zero=>intro vs l r;exact r
  |succ n au=>intro vs l r;cases r with
   |nil=>exact .nil
   |cons _ r=>exact au r
 have aY:∀(n:Nat) {vs:List aw}{l:List V},b9 ρ h vs l->b9 ρ h (vs.take n) (l.take n):=by
  intro n
  induction n with
  |zero=>intro vs l r;exact .nil
  |succ n au=>intro vs l r;cases r with
   |nil=>exact .nil
   |cons a r=>exact .cons a (au r)
 unfold Mine.Internal.cut;rw[r.length];exact aY _ (hd _ r)
theorem VB(vs:List aw)(lo aR:Option Int):slicePick vs.toArray lo aR U=(Mine.Internal.cut vs lo aR).toArray:=by
 rw[slicePick_plain];simp [Mine.Internal.cut]
theorem ah.bound{β bN:Type}{t:Sem β}{v:aw}{x:V}{k:Option Int->M bN}{R:bN->Map->Heap->β->Prop}(r:Rel ρ s.heap v x)(h:∀o,IsPart v o->ah aa W ρ s A R t (k o σ)) :
  ah aa W ρ s A R t ((Mine.Internal.bound x>>=k) σ):=by
 induction r using Rel.cs with
 |none=>exact h _ .none
 |int _ _=>exact h _ (.int _ _)
 |_=>exact aS
theorem Kt(p:IsPart v o)(h:Q o s):a3 (bk aa.prog aa.w) A (Builtin.Slice.slicePartIndex v) Q E s:=by
 induction p with
 |none=>exact ajc h
 |int i t=>exact slicePart_int h
theorem adS(lo aR:Option Int)(n:Nat):Builtin.Slice.sliceAdjust lo aR 1 (n:Int)=(((lo.elim 0 (clipAt n):Nat):Int),((aR.elim n (clipAt n):Nat):Int)) /\
  Builtin.Slice.slicePlaces ((lo.elim 0 (clipAt n):Nat):Int) ((aR.elim n (clipAt n):Nat):Int) 1=aR.elim n (clipAt n)-lo.elim 0 (clipAt n):=by
 constructor
 ·unfold Builtin.Slice.sliceAdjust;simp only [(by decide:¬((1:Int)<0)),if_false];congr 1
  ·induction lo with
   |none=>rfl
   |some i=>
    have:=Dm n i;simp only [Option.elim];rw[this]
    split <;> first|exact O0 ‹_›|exact O2 ‹_› (kj _)
  ·induction aR with
   |none=>rfl
   |some i=>
    have:=Dm n i;simp only [Option.elim];rw[this]
    split <;> first|exact O0 ‹_›|exact O2 ‹_› (kj _)
 ·unfold Builtin.Slice.slicePlaces;simp only [(by decide:(1:Int) > 0),if_true,Int.ediv_one]
  split <;> first|exact WM ‹_›|exact WN ‹_›
theorem WT(vs:List aw)(a k:Nat):((eP k).filterMap λ(j:Nat)=>vs.toArray[((a:Int)+(j:Int)*1).toNat]?)=(vs.drop a).take k:=by
 have e:(λ(j:Nat)=>vs.toArray[((a:Int)+(j:Int)*1).toNat]?)=λj=>vs.toArray[a+j]?:=by
  funext j
  have:((a:Int)+(j:Int)*1).toNat=a+j:=by exact Ud
  rw[this]
 rw[e];have:=pick_run vs.toArray a k;rw[List.filterMap_map]at this;exact this
theorem aaJ{t eo:Addr}{vs:List aw}{n:Nat}{fM lR:aw}{lo aR:Option Int}{Q:aw->bp->Prop}{E:aw->bp->Prop}(g:s.heap.get? t=I (dJ vs n))(aD:s.heap.IsSliceOf eo fM lR .none)
  (m1:IsPart fM lo) (pu:IsPart lR aR) (gf:vs.length<=bz)
  (h1:Mine.Internal.cut vs lo aR=vs->Q (.ref t) s) (h2:Q (.ref s.heap.objs.size) { s with heap:=s.heap.push (dJ (Mine.Internal.cut vs lo aR) 0) }):a3 (bk aa.prog aa.w) A (getItem (.ref t) (.ref eo)) Q E s:=by
 obtain⟨os,vH,yD,qr⟩:=id aD;have aY:IsTup s.heap t vs.toArray:=lj g;have aap:s.TypeIs (.ref eo) "slice":=⟨os,vH,yD⟩;unfold getItem;refine ir ?_;refine aJ (aiY aY.typeIs (by decide) ?_);refine aJ (qQ (name:=aB "__getitem__") aY.typeIs Dl
  (mP Dl aY.typeIs entry_tuple_getitem ?_ (args_tuple_getitem _ _)))
 refine(?_:a3 _ _ (Builtin.Tuple.tupleItemsOf (.ref t)>>=_) _ _ s);refine aJ (tupleItemsOf_ aY ?_);refine aJ (wV aap ?_);rw[bj (by decide)];obtain⟨bu,hp⟩:=adS lo aR vs.length;have rK:∀(jd:Int×Int×Nat->bp->Prop) (jf:aw->bp->Prop),jd (((lo.elim 0 (clipAt vs.length):Nat):Int),1,aR.elim vs.length (clipAt vs.length)-lo.elim 0 (clipAt vs.length)) s ->
   a3 (bk aa.prog aa.w) A.in1 (Builtin.Slice.sliceApplied (.ref eo) (pure ((vs.toArray.size:Nat):Int))) jd jf s:=by
  intro jd jf aL;unfold Builtin.Slice.sliceApplied Builtin.Slice.sliceFields;refine aJ (aJ (gj vH qr (x:=fM) ab (aJ (gj vH qr (x:=lR) ab (aJ (gj vH qr (x:=.none) ab (bQ ?_)))))));refine aJ (ajc ?_);refine(?_:a3 _ _ (if ((1:Int)==0)=ak then _ else _) _ _ s);rw[bH (by decide)];refine aJ (Kt m1 (aJ (Kt pu (aJ (bQ ?_)))));rw[k1];refine(?_:a3 _ _ (match Builtin.Slice.sliceAdjust lo aR 1 (vs.length:Int) with|(lo,aR)=>pure (lo,(1:Int),Builtin.Slice.slicePlaces lo aR 1)) _ _ s);rw[bu];refine(?_:a3 _ _ (pure (_,(1:Int),Builtin.Slice.slicePlaces _ _ 1)) _ _ s);rw[hp];exact bQ aL
 refine aJ (rK _ _ ?_);have Zv:sizeOk (.seq (Mine.Internal.cut vs lo aR).toArray):=by
  refine(?_:(Mine.Internal.cut vs lo aR).toArray.size<=bz);rw[k1];exact b7 (Cg vs lo aR) gf
 dsimp only;rw[WT]
 split
 ·rename_i ay
  simp only [g5,beq_iff_eq,k1]at ay;have e:Mine.Internal.cut vs lo aR=vs:=by
   unfold Mine.Internal.cut;have aV:lo.elim 0 (clipAt vs.length)=0:=DB ay.1.1;rw[aV]at ay ⊢;rw[ake,ay.2,I1]
  refine aJ (m:=Builtin.Tuple.tupleIsExact (.ref t)) (aJ (wV aY.typeIs (bQ ?_)));rw[bj (by decide)];exact aJ (qP (bQ ⟨_,ab,bQ (h1 e)⟩))
 ·exact aJ (m:=Builtin.Tuple.tupleExact _) (pT (bQ ⟨_,ab,bQ h2⟩) Zv)
theorem Vj(h:b-a=n)(hle:b<=n):a=0\/n=0:=by
 rcases ajM n with e|e
 ·exact .inr e
 ·subst h;exact .inl (Nat.eq_zero_of_not_pos λbu=>absurd (ajC (di e (Dr _ _)) bu) (qT.mpr hle))
theorem ach(aR:Option Int)(n:Nat):aR.elim n (clipAt n)<=n:=by
 induction aR with
 |none=>exact cI _
 |some i=>
  have:=Dm n i;simp only [Option.elim];exact uv.mp (acX (kj _) ‹_›)
theorem Kf(x:Str)(lo aR:Option Int):(Builtin.Str.strSliceIndices lo aR 1 x.length).filterMap (x.cps[·]?)=Mine.Internal.cut x.cps.toList lo aR /\
  ((Builtin.Str.strSliceIndices lo aR 1 x.length).length=x.length->Mine.Internal.cut x.cps.toList lo aR=x.cps.toList):=by
 have e:Builtin.Str.strSliceIndices lo aR 1 x.length=sliceRange ((lo.elim 0 (clipAt x.length):Nat):Int) ((aR.elim x.length (clipAt x.length):Nat):Int) 1:=by
  unfold Builtin.Str.strSliceIndices;simp only [(by decide:(1:Int) > 0),if_true];congr 1
  ·induction lo with
   |none=>rfl
   |some i=>simp only [Option.elim];rw[Dm]
  ·induction aR with
   |none=>rfl
   |some i=>simp only [Option.elim];rw[Dm]
 have aj:x.cps.toList.length=x.length:=by simp [Str.length]
 have NH:Mine.Internal.cut x.cps.toList lo aR=(x.cps.toList.drop (lo.elim 0 (clipAt x.length))).take (aR.elim x.length (clipAt x.length)-lo.elim 0 (clipAt x.length)):=by
  unfold Mine.Internal.cut;rw[aj]
 rw[e,sliceRange_one]
 constructor
 ·rw[pick_run,NH]
 ·intro h;replace h:=(k2 ..) ▸ (c3 ..) ▸ h;have aV:=Vj h (ach aR x.length);rw[NH];rcases aV with aV|aV
  ·rw[aV]at h ⊢;rw[ake,h,<-aj,I1]
  ·have:x.cps.toList=[]:=List.eq_nil_of_length_eq_zero (aj.trans aV);rw[this];simp
theorem Vm(aI:gW x)(h:∀c∈y.cps.toList,c∈x.cps.toList)(aj:y.length<=x.length):gW y:=by
 refine⟨b7 aj aI.1,?_⟩;have bf:=aI.2;unfold PyData.strOk at bf ⊢;rw[Array.all_eq_true_iff_forall_mem]at bf ⊢;intro c ay;exact bf c (aku.mp (h c (aku.mpr ay)))
theorem gW.cut(aI:gW x)(lo aR:Option Int):gW (pC x lo aR):=by
 refine Vm aI ?_ ?_
 ·intro c ay;simp only [pC,Mine.Internal.cut]at ay;exact ajV (ajU ay)
 ·have:=Cg x.cps.toList lo aR
  simpa [pC,Str.length] using this
set_option tactic.hygienic true in
theorem ah.slice{a fM lR:aw}{eo:Addr}{x:V}{lo aR:Option Int}(i:Inv aa σ ρ s.heap)(bl:Rel ρ s.heap a x)(aD:s.heap.IsSliceOf eo fM lR .none)(m1:IsPart fM lo)(pu:IsPart lR aR) :
  ah aa W ρ s A cM (getItem a (.ref eo)) (iP lo aR x σ):=by
 induction bl using Rel.cs with
 |@tup _ vs n l off g aj r=>
  refine ah.grown i λQ E br=>aaJ g aD m1 pu aj (λe=>?_) ?_
  ·refine br _ s.heap s.toks (λae az e=>e) (.tup (n:=n) off g aj ?_);have:=r.cut lo aR;rw[e]at this;exact this
  ·have ao:∀b o,s.heap.get? b=I o->(s.heap.push (dJ (Mine.Internal.cut vs lo aR) 0)).get? b=I o:=λb o e=>ed _ e;exact br _ _ s.toks ao (.tup (n:=0) i.nQ (gJ _ ab) (b7 (Cg vs lo aR) aj) ((r.cut lo aR).sub (Sub.keeps ao)))
 |str y t bL=>
  obtain⟨p,hp⟩:∃p:Option (Int×Tok),fM=partValue p/\p.map (·.1)=lo:=by
   induction m1 with
   |none=>exact⟨U,ab,ab⟩
   |int k u=>exact⟨I (k,u),ab,ab⟩
  obtain⟨q,aL⟩:∃p:Option (Int×Tok),lR=partValue p/\p.map (·.1)=aR:=by
   induction pu with
   |none=>exact⟨U,ab,ab⟩
   |int k u=>exact⟨I (k,u),ab,ab⟩
  refine aE λkk=>?_;obtain⟨os,vH,yD,qr⟩:=aD;refine kk ?_;refine ah.same i λQ E br=>wpAny_getItem_str_slice (l:=p) (u:=q) (st:=U) ⟨os,vH,yD,by rw[qr,hp.1,aL.1];rfl⟩ ab ?_;have ax:slicePicked y p q U=Builtin.Str.strSliceIndices lo aR 1 y.length:=by unfold slicePicked;rw[hp.2,aL.2];rfl
  unfold sliceMade;rw[ax]
  split
  ·rename_i ay
   simp only [g5,beq_iff_eq]at ay;have:=(Kf _ lo aR).2 ay.2;refine br _ s.toks ?_;have aO:∀x:Str,Mine.Internal.cut x.cps.toList lo aR=x.cps.toList->pC x lo aR=x:=λx e=>by unfold pC;rw[e]
   refine(?_:Rel _ _ _ (V.str _));rw[aO _ this];exact .str _ _ bL
  ·rw[(Kf _ lo aR).1];exact⟨(bL.cut lo aR).1,br _ _ (.str _ _ (bL.cut lo aR))⟩
 |ref bK=>
  refine ah.e8 λl b4=>?_;refine aE λkk=>?_;obtain⟨vs,m,g,aj,r⟩:=i.list b4 bK;refine kk ?_;refine ah.vi i λQ E br=>wpAny_getItem_list_slice (gd g) aD m1 pu .none (by simp) ?_ (by simpa using aj);rw[VB];have ao:∀b o,s.heap.get? b=I o->(s.heap.push (er (Mine.Internal.cut vs lo aR) 0)).get? b=I o:=λb o e=>ed _ e;exact br _ (Mine.Internal.cut vs lo aR) 0 _ s.toks ao tE (gJ _ ab) (b7 (Cg vs lo aR) aj) ((r.cut lo aR).sub (Sub.keeps ao))
 |_=>exact aS
end
section
theorem VG{n:Nat}{k:Int}(g:s.heap.get? l=I (er vs n))(aV:0<=k)(ao:k<vs.length)(NB:k<2 ^ 63)
  (h:Q () { s with heap:=s.heap.update l (gZ (·.setIfInBounds k.toNat v)) }):a3 (bk aa.prog aa.w) A (PySem.setItem (.ref l) (.int k t) v) Q E s:=by
 have cq:s.heap.IsList l vs.toArray:=gd g;unfold PySem.setItem;refine ir ?_;refine aJ (aiY cq.typeIs (by decide) ?_);refine aJ (qQ (name:=aB "__setitem__") cq.typeIs aja
  (mP aja cq.typeIs entry_list_setitem ?_ (args_list_setitem _ _ _)))
 refine(?_:a3 _ _ (Builtin.List.listSubscript? (.int k t)>>=_) _ _ s);refine aJ (wpAny_listSubscript_int (fitsIndex_of aV NB) ?_);clear NB;obtain⟨j,rfl⟩:=Int.eq_ofNat_of_zero_le aV;have bw:j<vs.length:=by exact Bk ‹_›
 have aI:vs.toArray[j]? =I vs[j]:=by simp [bw]
 refine(?_:a3 _ _ ((seqItemAt l j>>=λr=>pure (r.map (j,·)))>>=_) _ _ s);refine aJ (aJ (wpAny_seqItemAt g ab (bQ ?_)));rw[aI];refine(?_:a3 _ _ (setSeqItemAt l j v>>=_) _ _ s);refine aJ (wpAny_setSeqItemAt g ab ?_);exact bQ ⟨.none,ab,bQ h⟩
theorem D5(g:s.heap.get? l=I (er vs n))(a8:f vs.toArray=ws.toArray) :
  ∃m,(s.heap.update l (gZ f)).get? l=I (er ws m):=by
 have e:gZ f (er vs n)=er ws (if ws.length=vs.length then n else n+1):=by
  unfold gZ er;simp only [a8];congr 2;simp
 have:=uw (gZ f) g (by rw[e];rfl);rw[e]at this;exact⟨_,this⟩
theorem b9.set(r:b9 ρ h vs l)(q:Rel ρ h v x):b9 ρ h (vs.set k v) (l.set k x):=by
 induction r using b9.ind generalizing k with
 |aV=>exact .nil
 |h1 a r au=>
  induction k with
  |zero=>exact .cons q r
  |succ k=>exact .cons a au
theorem A9:¬hY (er vs k):=λaU=>by obtain⟨_,_,e⟩:=aU;cases e
theorem ah.TI(i:Inv aa σ ρ s.heap)(b4:σ[n]? =I (.list l))(hi:ρ[n]? =I (a,d))(g:s.heap.get? a=I (er vs k))
  (hm:∃ws,b9 ρ s.heap ws m/\ws.length<=bz/\∀(Q:Unit->bp->Prop) (E:aw->bp->Prop),(∀h',(∃j,h'.get? a=I (er ws j))->(∀b o,b≠a->s.heap.get? b=I o->h'.get? b=I o)->Q () { s with heap:=h' })->a3 (bk aa.prog aa.w) A t Q E s) :
  ah aa W ρ s A (λae az bS fc=>True) t (nH n (.list m) σ):=by
 refine aE λkk=>?_;obtain⟨ws,r,aj,Ga⟩:=hm;refine kk ?_;by_cases dW:0<n
 case neg=>rw[Ao dW];exact aS
 rw[ra dW (dy b4)];refine Ga _ _ λh' hg ao=>?_;obtain⟨j,hg⟩:=hg;have ek:=i.set (W:=W) (n:=n) (a:=a) (o:=.list m) (h':=h') dW hi (λba e=>by replace e:=g ▸ e;cases e;exact A9) ao (A7 g hg) λx=>⟨ws,j,hg,aj,r.ext x⟩;exact⟨ρ,h',s.toks,ab,ek.1,ek.2,aS⟩
theorem fp.stored(aD:∀s,k=.inr s->gW s)(e4:Rel ρ h v x)(r:fp ρ h bY l):fp ρ h (PySem.stored bY k v) (lx l k x):=by
 have aal:∀{bY:List (Key×aw)}{l:Tab},fp ρ h bY l->(bY.any λfQ=>decide (fQ.1=k))=(l.any λp=>decide (p.1=k)):=by
  intro bY l r
  induction r with
  |nil=>rfl
  |cons _ _ _ au=>rw[Sa,Sa,au]
 have Go:∀{bY:List (Key×aw)}{l:Tab},fp ρ h bY l->fp ρ h (bY.map λfQ=>if fQ.1=k then (fQ.1,v) else fQ) (l.map λp=>if p.1=k then (p.1,x) else p):=by
  intro bY l r
  induction r with
  |nil=>exact .nil
  |@cons c6 v' dm bY l gD dn _ au=>
   rw[eE,eE];by_cases ao:c6=k
   ·rw[bj ao,bj ao];exact .cons gD e4 au
   ·rw[bH ao,bH ao];exact .cons gD dn au
 have rK:∀{bY:List (Key×aw)}{l:Tab},fp ρ h bY l->fp ρ h (bY++[(k,v)]) (l++[(k,x)]):=by
  intro bY l r
  induction r with
  |nil=>exact .cons aD e4 .nil
  |cons gD dn _ au=>exact .cons gD dn au
 unfold PySem.stored lx;rw[aal r];by_cases ay:(l.any λp=>decide (p.1=k))=ak
 ·rw[bj ay,bj ay];exact Go r
 ·rw[bH ay,bH ay];exact rK r
theorem OL(l:Tab)(k:Key)(x:V):(lx l k x).length<=l.length+1:=by
 unfold lx
 split
 ·rw[c3];exact jL _
 ·rw[dM];exact cI _
theorem Inv.putD(i:Inv aa σ ρ s.heap)(dW:0<n)(b4:σ[n]? =I (.dict v l))(hi:ρ[n]? =I (a,d))(hg:h'.DictOf (keyKind aa.prog aa.w) a rz)(ao:∀b o,b≠a->s.heap.get? b=I o->h'.get? b=I o)(r:fp ρ s.heap rz m)(aj:rz.length<=bz) :
  Inv aa (σ.set n (.dict (v+1) m)) (ρ.set n (a,v+1)) h'/\Ext W ρ s.heap (ρ.set n (a,v+1)) h'/\True:=by
 obtain⟨ax,aD,bY,Z8,_,_⟩:=i.dict b4 hi;have ax:d=v:=ax;subst ax;have:=i.put (W:=W) (v':=d+1) (o:=.dict (d+1) m) dW hi (jL _) (λe=>absurd e (w0 _)) ao (by obtain⟨_,_,_,g,_,d,_⟩:=Z8;obtain⟨_,_,_,cB,_,eb,_⟩:=id hg;exact FC g ⟨_,_,d⟩ cB ⟨_,_,eb⟩) λx=>⟨ab,aD,rz,hg,aj,r.sub x.sub⟩;exact⟨this.1,this.2,aS⟩
theorem ah.TK(i:Inv aa σ ρ s.heap)(b4:σ[n]? =I (.dict v l))(hi:ρ[n]? =I (a,d))
  (hm:∃rz,fp ρ s.heap rz m/\rz.length<=bz/\∀(Q:Unit->bp->Prop) (E:aw->bp->Prop),(∀h' tk,h'.DictOf (keyKind aa.prog aa.w) a rz->(∀b o,b≠a->s.heap.get? b=I o->h'.get? b=I o)->Q () (At h' tk s))->a3 (bk aa.prog aa.w) A t Q E s) :
  ah aa W ρ s A (λae az bS fc=>True) t (putD n m σ):=by
 refine aE λkk=>?_;obtain⟨rz,r,aj,Ga⟩:=hm;refine kk ?_;by_cases dW:0<n
 case neg=>rw[Lq dW];exact aS
 rw[AH dW b4];refine Ga _ _ λh' tk hg ao=>?_;refine aE λkk=>?_;obtain⟨dH,dm,_⟩:=i.putD (W:=W) dW b4 hi hg ao r aj;exact kk ⟨_,h',tk,ab,dH,dm,aS⟩
theorem ij.stored{h:Heap}{k:List Int}{ad:Addr}{v:aw}{x:V}(aD:cT ρ ad/\∃vs n,h.get? ad=I (dJ vs n))(e4:Rel ρ h v x){xs:List (List Int×Addr×aw)}{l:jz}(r:ij ρ h xs l):ij ρ h (storedH xs k ad v) (ku l k x):=by
 have Go:∀{xs:List (List Int×Addr×aw)}{l:jz},ij ρ h xs l->ij ρ h (xs.map (putAt k v)) (l.map λp=>if p.1=k then (p.1,x) else p):=by
  intro xs l r
  induction r with
  |nil=>exact .nil
  |@cons c6 wt v' dm xs l gD dn _ au=>
   rw[eE,eE];unfold putAt;by_cases ao:c6=k
   ·rw[bj ao,bj ao];exact .cons gD e4 au
   ·rw[bH ao,bH ao];exact .cons gD dn au
 have rK:∀{xs:List (List Int×Addr×aw)}{l:jz},ij ρ h xs l->ij ρ h (xs++[(k,ad,v)]) (l++[(k,x)]):=by
  intro xs l r
  induction r with
  |nil=>exact .cons aD e4 .nil
  |cons gD dn _ au=>exact .cons gD dn au
 unfold storedH ku
 induction e:gL l k with
 |none=>rw[r.at.1 e];exact rK r
 |some y=>obtain⟨p,hp,_⟩:=r.at.2 y e;rw[hp];exact Go r
theorem Uv(l:jz)(k:List Int)(x:V):(ku l k x).length<=l.length+1:=by
 unfold ku
 split
 ·rw[c3];exact jL _
 ·rw[dM];exact cI _
theorem acE{prog:Program}{w:World}{h:Heap}{a:Addr}(g:h.DictOf (keyKind prog w) a []):h.DictOfH (Ag prog w) a []:=by
 refine aE λkk=>?_;obtain⟨o,aT,cU,ho,aI,hd,ao,hp,aM⟩:=g;have e:aT.toList=[]:=by
  generalize aT.toList=L at hp;cases hp;rfl
 exact kk ⟨o,aT,cU,ho,aI,hd,e,λae hm=>absurd hm gH,R2⟩
theorem WC(dW:0<n)(h:σ[n]? =I o)(aK:nC o=I v):AG n m σ=.ok () (σ.set n (.et (v+1) m)):=by
 refine(?_:(match σ[n]?.bind nC with|some v=>if 0<n then Res.ok () (σ.set n (.et (v+1) m)) else .bad|none=>.bad)=_);rw[h];refine(?_:(match nC o with|some v=>if 0<n then Res.ok () (σ.set n (.et (v+1) m)) else .bad|none=>.bad)=_);rw[aK];exact bj dW
theorem WD(dW:¬0<n):AG n m σ=.bad:=by
 show(match σ[n]?.bind nC with|some v=>if 0<n then Res.ok () (σ.set n (.et (v+1) m)) else .bad|none=>.bad)=_
 induction σ[n]?.bind nC with
 |none=>rfl
 |some o=>exact bH dW
theorem ah.p9{n v:Nat}{o:O}{l:jz}{a:Addr}{d:Nat}{bv OP:aw}{y z:V}{xs:List (List Int×Addr×aw)}(i:Inv aa σ ρ s.heap)(cF:A.units+201<cLine)(b4:σ[n]? =I o)(aK:nC o=I v)(hi:ρ[n]? =I (a,d))(Z7:d=v)(Ge:(a==sysModules)=aH)
  (hd:s.heap.DictOfH (Ag aa.prog aa.w) a xs) (aj:xs.length<=bz) (r:ij ρ s.heap xs l) (cw:Rel ρ s.heap bv y) (rc:Rel ρ s.heap OP z) :
  ah aa W ρ s A (λae az bS fc=>True) (PySem.setItem (.ref a) bv OP) (Mine.Internal.p9 n l y z σ):=by
 unfold Mine.Internal.p9
 induction dB:lT y with
 |none=>exact aS
 |some k=>
  refine ah.ite λay=>?_;refine aE λkk=>?_;obtain⟨ad,rfl,ao,aY⟩:=J0 (prog:=aa.prog) (w:=aa.w) cw dB;refine kk ?_;by_cases dW:0<n
  case neg=>rw[WD dW];exact aS
  rw[WC dW b4 aK];subst Z7;refine wpAny_setItem_heap (ai9 (by exact fk 0xA10842400020284264F82400021 ab cF)) ao hd (λh' kI gD=>?_) aj;refine aE λkk=>?_;obtain⟨ba,_,_,ho,_,aab,_⟩:=id hd;obtain⟨k9,_,_,hE,_,aaa,_⟩:=id kI;have ek:=i.put (W:=W) (v':=d+1) (o:=.et (d+1) (ku l k z)) dW hi (jL _) (λe=>absurd e (w0 _)) (λb o al e=>(gD.2 b al).trans e)
   (FC ho ⟨_,_,aab⟩ hE ⟨_,_,aaa⟩) λx=>⟨ab,Ge,_,kI,by rw[((r.stored (k:=k) aY rc).length)];exact b7 (Uv ..) ay,(r.stored aY rc).sub x.sub⟩
  exact kk ⟨_,h',_,ab,ek.1,ek.2,aS⟩
theorem ah.setItem(i:Inv aa σ ρ s.heap)(cF:A.units+201<cLine)(bl:Rel ρ s.heap a x)(cw:Rel ρ s.heap b y)(rc:Rel ρ s.heap c z) :
  ah aa W ρ s A (λae az bS fc=>True) (PySem.setItem a b c) (setItem x y z σ):=by
 induction bl using Rel.cs with
 |ref bK=>
  refine ah.hF λo b4=>?_
  induction o using O.casesOn with
  |list l=>
   induction cw using Rel.cs with
   |int k t=>
    refine ah.ite λay=>?_;refine aE λkk=>?_;obtain⟨vs,m,g,aj,r⟩:=i.list b4 bK;have hlen:=r.length;obtain⟨aV,h1⟩:=ay;have aD:=p7;refine kk (ah.TI i b4 bK g ⟨vs.set (Int.toNat _) c,r.set rc,by simpa using aj,λQ E br=>VG g aV (by rw[r.length];assumption) (zV ‹_› (pY (yf (by rw[<-r.length];assumption)) (by decide))) (br _ (D5 g (by simp)) λb o al e=>?_)⟩);rw[xa _ _ (lL al)];exact e
   |_=>exact aS
  |dict oc l=>
   refine(?_:ah aa W ρ s A _ _ (sL _ l y z σ));unfold sL
   induction dB:keyOf y with
   |none=>
    induction l using List.casesOn with
    |cons _ _=>exact aS
    |nil=>
     refine aE λkk=>?_;obtain⟨ax,aD,bY,hd,aj,r⟩:=i.dict b4 bK;refine kk ?_;cases r;exact ah.p9 i cF b4 ab bK ax aD (acE hd) (iu _) .nil cw rc
   |some kk=>
    refine ah.ite λay=>?_;refine aE λkk=>?_;obtain⟨_,aD,bY,hd,aj,r⟩:=i.dict b4 bK;obtain⟨h1,h2⟩:=vu cw dB;have hlen:=r.length;refine kk ?_;exact ah.TK i b4 bK ⟨_,r.stored h2 rc,by rw[(r.stored h2 rc).length];exact b7 (OL ..) ay,λQ E br=>wpAny_setItem_pairs h1 hd (λh' kI ao=>br h' _ kI λb o al e=>(ao.2 b al).trans e) aj⟩
  |inst _ _=>exact aS
  |bI _=>exact aS
  |et oc l=>
   refine aE λkk=>?_;obtain⟨ax,aD,xs,hd,aj,r⟩:=i.et b4 bK;exact kk (ah.p9 i cF b4 ab bK ax aD hd aj r cw rc)
  |cache=>exact aS
  |exc _=>exact aS
 |_=>exact aS
theorem ah.vx{β bN:Type}{t:Sem β}{x:V}{k:List V->M bN}{R:bN->Map->Heap->β->Prop}(h1:∀l,x=.tup l->ah aa W ρ s A R t (k l σ))(h2:∀n l,x=.ref n->σ[n]? =I (.list l)->ah aa W ρ s A R t (k l σ)) :
  ah aa W ρ s A R t ((Mine.Internal.vx x>>=k) σ):=by
 induction x using V.casesOn with
 |tup l=>exact h1 l ab
 |ref n=>exact ah.e8 λl aj=>h2 n l ab aj
 |none=>exact aS
 |bool _=>exact aS
 |int _=>exact aS
 |str _=>exact aS
theorem ah.jx(i:Inv aa σ ρ s.heap)(bl:Rel ρ s.heap a x):ah aa W ρ s A cM (call (.builtin "len") [a]) (jx x σ):=by
 have aD:=p7
 induction bl using Rel.cs with
 |tup off g aj r=>
  refine ah.same i λQ E br=>P.len_tuple g (by simp;exact AM ‹_›) ?_;have:=br _ (s.toks+1+1) (.int _ (s.toks+1))
  simpa [r.length] using this
 |ref bK=>
  refine ah.e8 λl b4=>?_;obtain⟨vs,m,g,aj,r⟩:=i.list b4 bK;refine ah.same i λQ E br=>Calls.call_len_list (gd g) (by simp;exact AM ‹_›) ?_;have:=br _ (s.toks+1+1) (.int _ (s.toks+1))
  simpa [r.length] using this
 |_=>exact aS
theorem Yx(r:fp ρ h bY l):∀{vs:List aw},vs.length=bY.length->(∀(j:Nat) (v:aw),vs[j]? =I v->∃k x,bY[j]? =I (k,x)/\nW k v=ak)->b9 ρ h vs (l.map λp=>l3 p.1):=by
 induction r with
 |nil=>
  intro vs aj _;rw[aj6.mp aj];exact .nil
 |cons aD r rs au=>
  intro vs aj H
  induction vs using List.casesOn with
  |nil=>cases aj
  |cons v vs=>
   obtain⟨c6,dm,e,ao⟩:=H 0 v ab;cases e;refine .cons ?_ (au (RT aj) λj v aK=>H (j+1) v aK);rcases FO ao with ⟨i,t,rfl,rfl⟩|⟨y,t,rfl,rfl⟩
   ·exact .int i t
   ·exact .str y t (aD y ab)
theorem ZZ(cq:s.TypeIs (.ref r) "dict")(h:Q aH s):a3 (bk aa.prog aa.w) A (Builtin.List.listLengthHint (.ref r)) Q E s:=by
 unfold Builtin.List.listLengthHint;refine aJ (zI cq PySem.F.slot_dict_len.lookup ?_);generalize Nv:("dict.__len__" : String)=Za
 wp_delta
 rw[show splitId Za=I ("dict", "__len__") from by subst Nv;decide +kernel];subst Nv;refine aJ (Dk (T := "dict") (b:=ak) cq PySem.F.kt_sub_dict ?_);refine ai7 (λGL=>absurd GL (by decide)) λae=>?_;refine ai7 (λae=>?_) λGL=>absurd (by decide +kernel) GL;exact aJ (wV cq (bQ h))
theorem ac6(aU:A.handled=U)(qr:(d==sysModules)=aH)(hd:s.heap.DictAt (keyKind aa.prog aa.w) d bY cU)(aM:bY.length<=bz)
  (br:∀h' tk acc c,(∀b o,s.heap.get? b=I o->h'.get? b=I o)->h'.get? s.heap.objs.size=I (er acc c)->acc.length=bY.length->(∀(j:Nat) (v:aw),acc[j]? =I v->∃k x,bY[j]? =I (k,x)/\nW k v=ak)->Q (.ref s.heap.objs.size) (At h' tk s)) :
  a3 (bk aa.prog aa.w) A (call (.type "list") [.ref d]) Q E s:=by
 refine ajg (Q₁:=λobj s₁=>obj=.ref s.heap.objs.size/\s₁ = { s with heap:=s.heap.push { cls:=.type "list",data:=.seq #[] } }) PySem.F.called_list (PySem.F.typeCall_list_1 _) PySem.F.entry_list_init (code_list_new _ ⟨ab,ab⟩) ?_;rintro obj s₁ ⟨rfl,rfl⟩;have BM:s.heap.objs.size≠d:=Nat.ne_of_gt (hd.lt_size:d<s.heap.objs.size);have vX:(s.heap.push { cls:=.type "list",data:=.seq #[] }).get? s.heap.objs.size=I { cls:=.type "list",data:=.seq #[] }:=gJ _ ab;refine⟨⟨_,vX,ab⟩,PySem.F.args_list_init_2 _ _,?_⟩;have AO:∀(f:Obj->Obj) (h:Heap) b o,b≠s.heap.objs.size->h.get? b=I o->(h.update s.heap.objs.size f).get? b=I o:=λf h b o al e=>(xa _ _ (lL al)).trans e;refine(?_:a3 _ _ (do let old <-Builtin.List.listItems (.ref s.heap.objs.size);Builtin.List.listUpdate (.ref s.heap.objs.size) (λae=>#[]);letGo old.toList.reverse;Builtin.List.listExtendWith (.ref s.heap.objs.size) (.ref d) .none) _ _ _);refine aJ ?_;unfold Builtin.List.listItems;refine aJ (pS vX ab (bQ ?_));refine(?_:a3 _ _ (updateSeq s.heap.objs.size (λae=>#[])>>=λae=>letGo (#[]:Array aw).toList.reverse>>=λae=>Builtin.List.listExtendWith (.ref s.heap.objs.size) (.ref d) .none) _ _ _);refine aJ (RA vX ab (aJ (IK ?_)));have GO:=uw (gZ (λae=>(#[]:Array aw))) vX ab;have vT:((s.heap.push { cls:=.type "list",data:=.seq #[] }).update s.heap.objs.size (gZ (λae=>(#[]:Array aw)))).DictAt (keyKind aa.prog aa.w) d bY cU:=(hd.push _).at' λo e=>AO _ _ _ _ BM.symm e;have kept:∀b o,s.heap.get? b=I o->((s.heap.push { cls:=.type "list",data:=.seq #[] }).update s.heap.objs.size (gZ (λae=>(#[]:Array aw)))).get? b=I o:=λb o e=>AO _ _ _ _ (fZ (Heap.lt_size e)) (ed _ e);generalize (s.heap.push { cls:=.type "list",data:=.seq #[] }).update s.heap.objs.size (gZ (λae=>(#[]:Array aw)))=dv at GO vT kept ⊢;unfold Builtin.List.listExtendWith;refine aJ (wV (T := "dict") vT.dictOf.typeIs ?_);have vG:Builtin.List.listSameRef (.ref s.heap.objs.size) (.ref d)=aH:=by simp [Builtin.List.listSameRef,BM]
 have e5:(Value.type "dict" == Value.type "list")=aH:=by decide
 have n2:(Value.type "dict" == Value.type "tuple")=aH:=by decide
 simp only [vG,e5,n2,Bool.or_false,Bool.false_eq_true,if_false];refine aJ (ai2 qr vT ?_);have NW:s.heap.objs.size≠dv.objs.size:=fZ (Heap.lt_size GO);refine aJ (ir (ZZ (vT.push _).dictOf.typeIs ?_));rw[bj (by decide +kernel)];refine aJ (qP (aJ ?_));have NT:=ed ({ cls:=.type "dict_keyiterator",data:=.fields #[.ref d,.int 0 0,.int bY.length 0,.int cU 0] }:Obj) GO;refine(?_:a3 _ _ (updateSeq s.heap.objs.size (·.push .none)>>=λae=>updateSeq s.heap.objs.size (·.pop)) _ _ _);refine aJ (RA NT ab ?_);have NS:=uw (gZ (·.push Value.none)) NT ab;refine RA (hz:=by seq_fits) NS ab ?_;have aat:=uw (gZ (·.pop)) NS ab;have hT:∀b o,b≠s.heap.objs.size->(dv.push ({ cls:=.type "dict_keyiterator",data:=.fields #[.ref d,.int 0 0,.int bY.length 0,.int cU 0] }:Obj)).get? b=I o->(((dv.push ({ cls:=.type "dict_keyiterator",data:=.fields #[.ref d,.int 0 0,.int bY.length 0,.int cU 0] }:Obj)).update s.heap.objs.size (gZ (·.push Value.none))).update s.heap.objs.size (gZ (·.pop))).get? b=I o:=λb o al e=>AO _ _ _ _ al (AO _ _ _ _ al e);have aaA:=hT _ _ NW.symm (gJ _ ab);have aac:(((dv.push ({ cls:=.type "dict_keyiterator",data:=.fields #[.ref d,.int 0 0,.int bY.length 0,.int cU 0] }:Obj)).update s.heap.objs.size (gZ (·.push Value.none))).update s.heap.objs.size (gZ (·.pop))).DictAt (keyKind aa.prog aa.w) d bY cU:=(vT.push _).at' λo e=>hT _ _ BM.symm e;have YC:∀b o,s.heap.get? b=I o->(((dv.push ({ cls:=.type "dict_keyiterator",data:=.fields #[.ref d,.int 0 0,.int bY.length 0,.int cU 0] }:Obj)).update s.heap.objs.size (gZ (·.push Value.none))).update s.heap.objs.size (gZ (·.pop))).get? b=I o:=λb o e=>hT _ _ (fZ (Heap.lt_size e)) (ed _ (kept b o e));refine bQ ⟨RI PySem.F.plain_extend_loop _,?_⟩;refine codeAny_extend_loopS (Walks.dictKeys (A:=A.in1.in1) (knd:=keyKind aa.prog aa.w) aU dv.objs.size d (fZ vT.lt_size:d≠dv.objs.size) bY cU).toS aM s.heap.objs.size (by simp [NW,BM]) .none bY.length 0 _ #[] _ ab (iu _) ⟨⟨_,aaA,ab,ab⟩,aac⟩ aat (ItemsOf.nil _) λs' acc c hm aau NN=>?_;rw[Moved.eq_with hm];refine⟨ab,br s'.heap s'.toks acc.toList c (λb o e=>hm.heap b o (λvL=>?_) (YC b o e)) (by simpa [er] using aau) (by rw[Array.length_toList,NN.1]) λj v aK=>NN.2 j v (by simpa using aK)⟩;rcases cY.mp vL with bg|vL
 ·exact absurd (Heap.lt_size e) (by rw[bg];exact hZ _)
 ·have:=Heap.lt_size (kept b o e);rw[bT.mp vL]at this;exact absurd this (hZ _)
theorem ah.oe(aU:A.handled=U)(i:Inv aa σ ρ s.heap)(bl:Rel ρ s.heap a x):ah aa W ρ s A cM (call (.type "list") [a]) (oe x σ):=by
 have key:∀(ad:Addr) (T:String) (o:Obj) (vs:List aw) (n:Nat) (l:List V),a=.ref ad->(T = "list" \/ T = "tuple")->s.heap.get? ad=I o->o.cls=.type T->o.data=.seq vs.toArray n->vs.length<=bz ->
   b9 ρ s.heap vs l->ah aa W ρ s A cM (call (.type "list") [a]) (bP (.list l) σ):=by
  intro ad T o vs n l e cq ho ay hd aj r;subst e;refine ah.vi i λQ E br=>call_list_seq ad cq ho ay hd (λh' mv ao hg=>?_) (by simpa using aj);exact br _ vs mv h' s.toks ao tE hg aj (r.sub (Sub.keeps ao))
 induction bl using Rel.cs with
 |tup off g aj r=>exact key _ "tuple" _ _ _ _ ab (.inr ab) g ab ab aj r
 |ref bK=>
  refine ah.hF λo b4=>?_
  induction o with
  |list l=>
   refine aE λkk=>?_;obtain⟨vs,m,g,aj,r⟩:=i.list b4 bK;refine kk ?_;exact key _ "list" _ _ _ l ab (.inl ab) g ab ab aj r
  |dict oc l=>
   refine aE λkk=>?_;obtain⟨_,qr,bY,hd,aj,r⟩:=i.dict b4 bK;obtain⟨cU,hd⟩:=hd.dictAt;refine kk ?_;refine ah.vi i λQ E br=>ac6 aU qr hd aj λh' tk acc c ao hg h1 h2=>?_;exact br _ acc c h' tk ao tE hg (by rw[h1];exact aj) (Yx (r.sub (Sub.keeps ao)) h1 h2)
  |inst _ _=>exact aS
  |bI _=>exact aS
  |et _ _=>exact aS
  |cache=>exact aS
  |exc _=>exact aS
 |none=>exact aS
 |bool _=>exact aS
 |int _ _=>exact aS
 |str _ _ _=>exact aS
theorem ah.ly{a:aw}{x:V}(i:Inv aa σ ρ s.heap)(bl:Rel ρ s.heap a x):ah aa W ρ s A cM (call (.type "tuple") [a]) (ly x σ):=by
 refine ah.vx (λl e=>?_) λn l e b4=>?_
 ·subst e
  cases bl with
  |tup off g aj r=>exact ah.same i λQ E br=>call_tuple_same (lj g) (br _ s.toks (.tup off g aj r))
 ·subst e
  cases bl with
  |ref bK=>
   obtain⟨vs,m,g,aj,r⟩:=i.list b4 bK;refine ah.grown i λQ E br=>call_tuple_list (gd g) (λh' ao=>?_) (by simpa using aj);have iU:∀b o,s.heap.get? b=I o->(h'.push (dJ vs 0)).get? b=I o:=λb o e=>ed _ (ao b o e);exact br _ (h'.push (dJ vs 0)) s.toks iU (.tup (n:=0) (i.keeps ao).nQ (gJ _ ab) aj (r.sub (Sub.keeps iU)))
set_option tactic.hygienic true in
theorem ah.A3(i:Inv aa σ ρ s.heap)(bl:Rel ρ s.heap a x)(cw:Rel ρ s.heap b y):ah aa W ρ s A cM (call (.builtin "list.append") [a,b]) (A3 x y σ):=by
 induction bl using Rel.cs with
 |@ref a d n bK=>
  refine ah.e8 λl b4=>ah.ite λay=>?_;obtain⟨vs,m,g,aj,r⟩:=i.list b4 bK;by_cases dW:0<n
  case neg=>rw[cS (Ao dW)];exact aS
  rw[aN (ra dW (dy b4))];refine ai5 ⟨m,g⟩ (λh' hg ao=>?_) (by simpa using aj);obtain⟨ej,hg⟩:=hg;have hg:h'.get? a=I (er (vs++[b]) ej):=by simpa [er] using hg
  have ek:=i.set (W:=W) (n:=n) (a:=a) (o:=.list (l++[y])) (h':=h') dW bK (λba e=>by replace e:=g ▸ e;cases e;exact A9) (λc o al e=>ao.extBut c o al e) (A7 g hg)
   λz=>⟨vs++[b],ej,hg,by simp;exact gq 0xA109801010C11142120021 ab ay r.length,(r.append (.cons cw .nil)).ext z⟩
  exact⟨ρ,h',s.toks,ab,ek.1,ek.2,.none⟩
 |_=>exact aS
theorem b9.last(r:b9 ρ h vs l):l.getLast? =I x->∃ws v,vs=ws++[v]/\b9 ρ h ws l.dropLast/\Rel ρ h v x:=by
 induction r using b9.ind with
 |aV=>intro e;exact bh e
 |@h1 v vs y l a r au=>
  intro e
  cases r with
  |nil=>cases e;exact⟨[],v,ab,.nil,a⟩
  |@cons v' nB akJ l' wt dn=>
   refine aE λkk=>?_;obtain⟨ws,u,ax,dN,q⟩:=au (by rw[<-e];rfl);refine kk ?_;exact⟨v::ws,u,by rw[ax];rfl,.cons a dN,q⟩
theorem ab5(ws:List aw)(v:aw):(ws++[v]).toArray.eraseIdxIfInBounds ((ws++[v]).toArray.size-1)=ws.toArray:=by
 have ao:(ws++[v]).toArray.size-1=ws.length:=by rw[k1,dM];rfl
 rw[ao];unfold Array.eraseIdxIfInBounds;rw[dif_pos (by rw[k1,dM];exact jK _)]
 apply Array.toList_inj.mp
 rw[Array.toList_eraseIdx];refine(?_:(ws++[v]).eraseIdx ws.length=ws)
 induction ws with
 |nil=>rfl
 |cons a ws au=>refine(?_:a::(ws++[v]).eraseIdx ws.length=a::ws);rw[au (by rw[k1,dM];rfl)]
theorem ah.AY(i:Inv aa σ ρ s.heap)(bl:Rel ρ s.heap a x):ah aa W ρ s A cM (call (.builtin "list.pop") [a]) (AY x σ):=by
 induction bl using Rel.cs with
 |@ref a d n bK=>
  refine ah.e8 λl b4=>?_;refine aE λkk=>?_;obtain⟨vs,m,g,aj,r⟩:=i.list b4 bK;refine kk ?_
  induction ie:l.getLast? with
  |none=>exact aS
  |some y=>
   by_cases dW:0<n
   case neg=>rw[cS (Ao dW)];exact aS
   rw[aN (ra dW (dy b4))];refine aE λkk=>?_;obtain⟨ws,v,rfl,dN,q⟩:=r.last ie;refine kk (zK PySem.F.slot_list_pop ⟨_,g,ab⟩ PySem.F.entry_list_pop (PySem.F.args_list_pop_1 _) (alF a _ m v (by simp) (by simpa using aj)) ⟨g,?_⟩);refine aE λkk=>?_;obtain⟨j,hg⟩:=D5 (f:=λxs=>xs.eraseIdxIfInBounds ((ws++[v]).toArray.size-1)) g (ab5 ws v);refine kk ?_;have ek:=i.set (W:=W) (n:=n) (a:=a) (o:=.list l.dropLast) dW bK (λba e=>by replace e:=g ▸ e;cases e;exact A9) (λc o al e=>(xa _ _ (lL al)).trans e) (A7 g hg)
    λz=>⟨ws,j,hg,by replace aj:=dM ▸ aj;exact b7 (g0 _ _) aj,dN.ext z⟩
   exact⟨ρ,_,s.toks,ab,ek.1,ek.2,q.ext ek.2⟩
 |_=>exact aS
theorem ah.A1(i:Inv aa σ ρ s.heap)(bl:Rel ρ s.heap a x)(cw:Rel ρ s.heap b y):ah aa W ρ s A cM (call (.builtin "list.extend") [a,b]) (A1 x y σ):=by
 induction bl using Rel.cs with
 |@ref a d n bK=>
  induction cw using Rel.cs with
  |@ref b eb k ab6=>
   refine ah.e8 λl b4=>ah.e8 λl' Zf=>ah.ite λay=>?_;refine aE λkk=>?_;obtain⟨vs,m,g,aj,r⟩:=i.list b4 bK;obtain⟨ws,ej,cB,gu,dn⟩:=i.list Zf ab6;have ax:=r.length;have aO:=dn.length;refine kk ?_;by_cases dW:0<n
   case neg=>rw[cS (Ao dW)];exact aS
   rw[aN (ra dW (dy b4))];refine zK PySem.F.slot_list_extend ⟨_,g,ab⟩ PySem.F.entry_list_extend (PySem.F.args_list_extend_2 _ _) (alG a _ m b _ ej ?_ (by simpa using aj) (by simp;exact rx 0x426020E0080A808887088C520021 ab ay.2 ax aO)) ⟨g,cB,?_⟩
   ·intro al;have:=(xb.mp al).2;have aD:=p7;unfold Builtin.List.listTooLong at this;simp at this;exact sZ (rx 0x8421020E0084C0084A808887088C520021 ab ay.2 ax aO this)
   ·obtain⟨j,hg⟩:=D5 (f:=λx=>x++ws.toArray) (ws:=vs++ws) g (by simp);have ek:=i.set (W:=W) (n:=n) (a:=a) (o:=.list (l++l')) dW bK (λba e=>by replace e:=g ▸ e;cases e;exact A9) (λc o al e=>(xa _ _ (lL al)).trans e) (A7 g hg)
     λz=>⟨vs++ws,j,hg,by rw[dM];exact rx 0x320E0080A808887088C520021 ab ay.2 ax aO,(r.append dn).ext z⟩
    exact⟨ρ,_,s.toks,ab,ek.1,ek.2,.none⟩
  |_=>exact aS
 |_=>exact aS
theorem Et(r:b9 ρ h vs l):allStrs l=I ss->StrsAre vs ss/\∀x∈ss,gW x:=by
 induction r using b9.ind generalizing ss with
 |aV=>intro e;cases e;exact⟨.nil,λae h=>nomatch h⟩
 |@h1 v vs x l r rs au=>
  intro e
  induction r using Rel.cs with
  |str y t bL=>
   obtain⟨eB,ax,rfl⟩:=hr.mp (show(allStrs l).map (y :: ·)=I ss from e);obtain⟨h1,h2⟩:=au ax;exact⟨.cons y t h1,λz hz=>(cY.mp hz).elim (λe=>e ▸ bL) (h2 z)⟩
  |_=>exact bh e
theorem Kg(aD:PyData.strOk sep=ak):∀{ss:List Str},(∀x∈ss,gW x)->PyData.strOk (Str.join sep ss)=ak
 |[],_=>by refine(?_:PyData.strOk Str.empty=ak);simp [PyData.strOk,Str.empty]
 |[x],h=>(h x (by simp)).2
 |x::y::r,h=>by
  refine(?_:PyData.strOk (x++sep++Str.join sep (y::r))=ak);exact Eu (Eu (h x (by simp)).2 aD) (Kg aD λz hz=>h z (da _ hz))
set_option tactic.hygienic true in
theorem ah.AZ{a b:aw}{x y:V}(i:Inv aa σ ρ s.heap)(bl:Rel ρ s.heap a x)(cw:Rel ρ s.heap b y):ah aa W ρ s A cM (call (.builtin "str.join") [a,b]) (AZ x y σ):=by
 induction bl using Rel.cs with
 |str sep t aI=>
  have key:∀ss,(ss.map (·.length)).sum+ss.length*sep.length<=16777216->(∀x∈ss,gW x)->gW (Txt.join sep ss):=λss h1 h2=>by
   refine⟨?_,?_⟩
   ·show(Builtin.Str.glued sep ss).length<=bz;rw[size_glued];exact show _<=16777216 from gq 0x8000007C2620020298218000007C2520021 ab h1 (ajH _ (Dr _ _):(ss.length-1)*sep.length<=ss.length*sep.length)
   ·show PyData.strOk (Builtin.Str.glued sep ss)=ak;rw[StrLaws.glued_eq_join];exact Kg aI.2 h2
  refine ah.vx (λl e=>?_) λn l e b4=>?_
  ·subst e
   cases cw with
   |tup off g aj r=>
    refine ah.LR λss lq=>ah.ite λay=>?_;obtain⟨h1,h2⟩:=Et r lq;exact ah.same i λQ E br=>join_tuple (lj g) (by simpa using h1) ay λbX k=>br _ _ (.str _ _ (key ss ay h2))
  ·subst e
   cases cw with
   |ref bK=>
    obtain⟨vs,m,g,aj,r⟩:=i.list b4 bK;refine ah.LR λss lq=>ah.ite λay=>?_;obtain⟨h1,h2⟩:=Et r lq;exact ah.same i λQ E br=>join_list (gd g) (by simpa using h1) ay λbX k=>br _ _ (.str _ _ (key ss ay h2))
 |_=>exact aS
end
end Mine.Internal
namespace Mine.Internal
open PySem PyProof.Rows PySem.Calls
section
theorem big(ek:aa.heap.NoLimit)(i:Inv aa σ ρ s.heap):(s.heap.objs.size==sysModules)=aH:=by
 have:=modules_low (ek.keeps i.base);exact zL (Nat.ne_of_gt this)
theorem Ki(h1:strLt b a=aH)(h2:strLt c b=aH):strLt c a=aH:=by
 unfold strLt at *;rw[decide_eq_false_iff_not] at *;exact List.le_trans h1 h2
theorem Kj(h:strLt a b=ak):strLt b a=aH:=by
 unfold strLt at *;rw[decide_eq_false_iff_not];exact List.lt_asymm (qS h)
theorem Kk(h1:strLt b a=aH)(h2:strLt a b=aH):a=b:=by
 unfold strLt at *;rw[decide_eq_false_iff_not] at *;have:a.cps.toList=b.cps.toList:=List.le_antisymm h1 h2;cases a;cases b
 simpa using Array.toList_inj.mp this
noncomputable abbrev CF(l:List Str):Prop:=l.Pairwise λa b=>strLt b a=aH
theorem E5:∀{l:List Str},y∈lY x l↔y=x\/y∈l:=by
 intro ey
 induction ey with
 |nil=>
  simp [lY]
 |cons z r E5=>
  rw[sQ]
  split
  ·rw[cY,E5,cY];exact⟨λh=>by rcases h with h|h|h <;> simp [h],λh=>by rcases h with h|h|h <;> simp [h]⟩
  ·rw[cY]
theorem E4:∀{l:List Str},(lY x l).Perm (x::l):=by
 intro ey
 induction ey with
 |nil=>exact .refl _
 |cons z r E4=>
  rw[sQ]
  split
  ·exact(List.Perm.cons z E4).trans (.swap x z r)
  ·exact .refl _
theorem E3:∀{l:List Str},CF l->CF (lY x l):=by
 intro ey
 induction ey with
 |nil=>intro _;exact R0 _ _
 |cons z r E3=>
  intro h;have h:=qV.mp h;rw[sQ]
  split
  ·rename_i hz
   refine qV.mpr ⟨λy bL=>?_,E3 h.2⟩;rcases E5.mp bL with rfl|bL
   ·exact Kj hz
   ·exact h.1 y bL
  ·rename_i hz
   have hz:strLt z x=aH:=by simpa using hz
   refine qV.mpr ⟨λy bL=>?_,qV.mpr h⟩;rcases cY.mp bL with rfl|bL
   ·exact hz
   ·exact Ki hz (h.1 y bL)
theorem EB:∀{l:List Str},(jj l).Perm l:=by
 intro ey
 induction ey with
 |nil=>exact .refl _
 |cons x r EB=>exact(E4).trans (.cons x EB)
theorem EA:∀{l:List Str},CF (jj l):=by
 intro ey
 induction ey with
 |nil=>exact .nil
 |cons _ _ EA=>exact E3 EA
theorem K6:∀(p:Str) (l:List Str),risingS p l=ak->CF (p::l)
 |p,[],_=>R0 _ _
 |p,x::r,h=>by
  have h:(!PySem.Spec.ltCps x.cps.toList p.cps.toList&&risingS x r)=ak:=h;replace h:=(alI ..) ▸ (g5 ..) ▸ h;have h1:strLt x p=aH:=by unfold strLt;simpa using h.1
  have au:=K6 x r h.2;refine qV.mpr ⟨λy bL=>?_,au⟩;rcases cY.mp bL with rfl|bL
  ·exact h1
  ·exact Ki h1 ((qV.mp au).1 y bL)
theorem Vs(hp:l.Perm m)(aD:sortedS l=ak):l=jj m:=by
 refine List.Perm.eq_of_pairwise (le:=λa b=>strLt b a=aH) (λa b ae az h1 h2=>Kk h1 h2) ?_ EA (hp.trans EB.symm)
 induction l with
 |nil=>exact .nil
 |cons x r=>exact K6 x r aD
theorem Vk(q:StrsAre vs ss):(∀x∈ss,gW x)->b9 ρ h vs (ss.map V.str):=by
 induction q with
 |nil=>exact λae=>.nil
 |cons y t _ au=>exact λaD=>.cons (.str y t (aD y (b8 ..))) (au λx aI=>aD x (da _ aI))
theorem ah.ads(i:Inv aa σ ρ s.heap)(g:s.heap.get? a=I (er vs m))(r:b9 ρ s.heap vs l)(ay:l.length<64)(lq:allStrs l=I ss):ah aa W ρ s A cM (call (.builtin "sorted") [.ref a]) (bP (.list ((jj ss).map V.str)) σ):=by
 obtain⟨h1,h2⟩:=Et r lq;have Nl:=r.length;refine ah.vi i λQ E br=>sorted_strs (gd g) h1 (by exact fk 0x103C1084A00808508840F042120021 ab ay Nl) λout akX a1 a2 HQ=>?_;obtain⟨e,he⟩:=sortedAll_at s.heap vs out;have gu:out.toList.length=ss.length:=by rw[a1.length,a2.length_eq]
 have gD:=Vs a2 HQ;subst gD;have rN:(16777216:Nat)=bz:=rfl;refine br _ out.toList e _ s.toks (λae az=>RG) ?_ (by simpa [er,seqObj] using he) (by exact rx 0x41C2044000003E1088C708885088C508C40F042120021 ab ay h1.length Nl gu rN) (Vk a1 λx aI=>h2 x (a2.mem_iff.mp aI))
 induction ax:s.heap.get? (s.heap.objs.size+1) with
 |none=>rfl
 |some o=>exact absurd (Heap.lt_size ax) (qT.mpr (jL _))
theorem Tg:∀{l:List V}{k j:Nat},sD σ y l k=I j->∃m,j=k+m/\(∃x,l[m]? =I x/\eG σ x y=I ak)/\∀p,p<m->∃x,l[p]? =I x/\eG σ x y=I aH:=by
 intro l
 induction l with
 |nil=>
  intro k j h;exact bh h
 |cons x r au=>
  intro k j h;have h:(match eG σ x y with|some true=>I k|some false=>sD σ y r (k+1)|none=>U)=I j:=h
  induction e:eG σ x y with
  |none=>replace h:=e ▸ h;exact bh h
  |some b=>
   replace h:=e ▸ h
   induction b with
   |true=>cases h;exact⟨0,ab,⟨x,ab,e⟩,λp hp=>absurd hp (IW _)⟩
   |false=>
    obtain⟨m,h1,h2,h3⟩:=au h;refine⟨m+1,by exact lO (gq 0x21300A020406084A001022 ab h1) (gq 0x810980500406084A001023 ab h1),h2,λp hp=>?_⟩
    induction p with
    |zero=>exact⟨x,ab,e⟩
    |succ p=>exact h3 p (by exact fk 0x2842400401094010842400021 ab hp)
theorem ah.A0(cF:A.units+201<cLine)(i:Inv aa σ ρ s.heap)(bl:Rel ρ s.heap a x)(cw:Rel ρ s.heap b y):ah aa W ρ s A cM (call (.builtin "list.index") [a,b]) (A0 x y σ):=by
 have me:=p7
 induction bl using Rel.cs with
 |ref bK=>
  refine ah.e8 λl b4=>ah.ask λc ay=>?_;obtain⟨vs,m,g,aj,r⟩:=i.list b4 bK
  induction aK:iM σ y l with
  |none=>replace ay:=aK ▸ ay;exact bh ay
  |some t=>
   induction t with
   |false=>replace ay:=aK ▸ ay;exact bh ay
   |true=>
    replace ay:=aK ▸ ay;obtain⟨j,bw,rfl⟩:=hr.mp ay;obtain⟨ej,rfl,⟨z,hz,abh⟩,yr⟩:=Tg bw;rw[lM];obtain⟨_,he⟩:=JJ (A:=A.in1) i cw (by exact show A.units+1+200<cLine from fk 0x1421323C10848000020284264F82400021 ab cF:A.in1.units+200<cLine) r aK;have hlen:=r.length;have m9:=dy hz;have fm:∀(p:Nat) (q:V) (e:Bool) (hp:p<vs.length),l[p]? =I q->eG σ q y=I e->wo σ ρ s.heap y vs[p]=e:=λp q e hp h1 h2=>by
     obtain⟨v,aK,e4⟩:=r.get h1;replace aK:=iw hp ▸ aK;cases aK;exact PC i e4 h2
    refine ah.same i λQ E br=>zK PySem.F.slot_list_index ⟨_,g,ab⟩ PySem.F.entry_list_index (PySem.F.args_list_index_2 _ _)
     (SeqAt.list_indexAt _ vs.toArray m U #[] b (wo σ ρ s.heap y) ej (by simp;exact w3 m9 hlen.symm) (zV (A5 (w3 m9 hlen.symm)) (pY (yf (by assumption)) (by decide))) ?_ ?_) ⟨g,λv aK=>he v (by simpa using aK),br _ _ (.int _ _)⟩
    ·simpa using fm ej z ak (by exact w3 m9 hlen.symm) hz abh
    ·intro p hp d6;obtain⟨q,h1,h2⟩:=yr p d6
     simpa using fm p q aH (by simpa using hp) h1 h2
 |_=>exact aS
theorem ah.lz(aU:A.handled=U)(i:Inv aa σ ρ s.heap)(bl:Rel ρ s.heap a x)(cw:Rel ρ s.heap b y):ah aa W ρ s A cM (call (.builtin "min") [a,b]) (lz x y σ):=by
 induction bl using Rel.cs with
 |int p t=>
  induction cw using Rel.cs with
  |int q u=>
   refine(?_:ah aa W ρ s A cM _ (.ok (V.int (min p q)) σ));have e:min p q=if q<p then q else p:=by rw[Int.min_def];split <;> split;exact absurd ‹q<p› (sv.mpr ‹_›);rfl;rfl;exact Int.le_antisymm (w8 (DC.mp ‹_›)) (sv.mp ‹_›)
   rw[e];exact ah.grown i λQ E br=>min_two_ints aU λh' tk ao=>br _ h' _ ao (by refine(?_:Rel ρ h' _ _);split;exact .int _ _;exact .int _ _)
  |_=>exact aS
 |_=>exact aS
theorem ah.A2(i:Inv aa σ ρ s.heap)(bl:Rel ρ s.heap a x)(cw:Rel ρ s.heap b y)(rc:Rel ρ s.heap c z):ah aa W ρ s A cM (call (.builtin "dict.setdefault") [a,b,c]) (A2 x y z σ):=by
 induction bl using Rel.cs with
 |@ref ad d n bK=>
  refine ah.Ct λl gu=>?_;obtain⟨oc,b4⟩:=OH gu
  induction ao:keyOf y with
  |none=>exact aS
  |some k=>
   refine aE λkk=>?_;obtain⟨ax,aD,bY,hd,aj,r⟩:=i.dict b4 bK;obtain⟨fC,gC⟩:=vu cw ao;refine kk ?_
   induction wa:ez l k with
   |some u=>
    refine aE λkk=>?_;obtain⟨v,aK,e4⟩:=r.at.2 u wa;refine kk ((?_:ah aa W ρ s A cM _ ((match ez l k with|some x=>(cv x:M V)|none=>_) σ)));rw[wa];exact ah.same i λQ E br=>call_meetsIn ajo hd.typeIs ajq (ajs _ _ _) (aje (keyKind aa.prog aa.w) ad fC aD c)
     ⟨bY,hd,aj,(λv' tg=>by replace tg:=aK ▸ tg;cases tg;exact br _ _ e4),(λaM=>by replace aM:=aK ▸ aM;exact lV aM)⟩
   |none=>
    have aK:=r.at.1 wa;refine(?_:ah aa W ρ s A cM _ ((match ez l k with|some x=>(cv x:M V)|none=>if l.length+1<=bz then (putD n (lx l k z)>>=λae=>cv z) else M.bad) σ));rw[wa];refine ah.ite λay=>?_;by_cases dW:0<n
    case neg=>rw[cS (Lq dW)];exact aS
    rw[aN (AH dW b4)];refine call_meetsIn ajo hd.typeIs ajq (ajs _ _ _) (aje (keyKind aa.prog aa.w) ad fC aD c)
     ⟨bY,hd,aj,(λv' tg=>by replace tg:=aK ▸ tg;exact bh tg),λae h' kI kE=>?_⟩
    have rs:=r.stored gC rc;refine aE λkk=>?_;obtain⟨dH,dm,_⟩:=i.putD (W:=W) dW b4 bK kI (λb o al e=>(kE.2 b al).trans e) rs (by rw[rs.length];exact b7 (OL ..) ay);exact kk ⟨_,h',_,ab,dH,dm,rc.ext dm⟩
 |_=>exact aS
end
end Mine.Internal
namespace Mine.Internal
open PySem PyProof.Rows PySem.W
inductive qF(h:Heap)(v:aw)(x:Str):Prop
 |mk(b:Addr)(o:Obj)(xs:Array aw)(m:Nat)(t:Tok)(h1:v=.ref b)(h2:h.get? b=some o)(h3:o.cls=.type "tuple")(bf:o.data=.seq xs m)(cP:xs[0]? =some (.str x t)):qF h v x
inductive zH(h:Heap):List aw->Prop
 |one(v:aw):zH h [v]
 |two{v u:aw}{x y:Str}(h1:qF h v x)(h2:qF h u y)(h3:strLt x y=true):zH h [v,u]
theorem YB(b:Bool)(x y:aw):keyLt' (tuples' b) x y=(do
  let xs <-Builtin.List.listItems x;let uC <-Builtin.List.listItems y
  for ((p,q),i) in (xs.toList.zip uC.toList).zipIdx do
   if !(<-eqBool p q) then return <-oneLt' (b&&i==0) p q
  return xs.size<uC.size):=rfl
theorem aa8(v:aw):firstOfTuple' v=(do
  if (<-typeOf v) != .type "tuple" then return U
  return (<-Builtin.List.listItems v)[0]?):=rfl
section
variable {prog:Program}{w:World}{E:aw->bp->Prop}{aa:Heap}
theorem NF{xs:Array aw}{v:aw}(h:xs[0]? =I v):∃r,xs.toList=v::r:=by
 rw[<-Array.getElem?_toList]at h
 cases e:xs.toList with
 |nil=>rw[e]at h;cases h
 |cons a r=>rw[e]at h;cases h;exact⟨r,ab⟩
theorem YA{v u:aw}{x y:Str}{Q:Bool->bp->Prop}(keep:∀b o,aa.get? b=I o->s.heap.get? b=I o)(aK:qF aa v x)(cF:qF aa u y)(d6:strLt x y=ak)(h:Q aH s):a3 (bk prog w) A (keyLt' (tuples' ak) u v) Q E s:=by
 obtain⟨a,ft,xs,m,t,rfl,ga,_,y2,aI⟩:=aK;obtain⟨b,ba,uC,n,bX,rfl,pv,_,db,bL⟩:=cF;rw[YB];refine aJ (IM (keep _ _ pv) db (aJ (IM (keep _ _ ga) y2 ?_)));obtain⟨akL,Zj⟩:=NF aI;obtain⟨akA,Zi⟩:=NF bL;rw[Zj,Zi,qU,List.zipIdx_cons,List.forIn_cons];refine aJ (aJ ?_);dsimp only;have Ni:strLt y x=aH:=Kj d6;refine aJ (eqBool_str ?_);rw[zL (λe=>by subst e;rw[Ni]at d6;exact fU d6:y≠x)];simp only [Bool.not_false,if_true];refine aJ (oneLt_str (bQ (bQ ?_)));show a3 _ _ (pure _) _ _ _;exact bQ ((show decide (y.cps.toList<x.cps.toList)=aH from Ni) ▸ h)
theorem Oc{v:aw}{x:Str}{Q:Option aw->bp->Prop}(keep:∀b o,aa.get? b=I o->s.heap.get? b=I o)(aK:qF aa v x)(h:∀t,Q (I (.str x t)) s):a3 (bk prog w) A (firstOfTuple' v) Q E s:=by
 obtain⟨a,ft,xs,m,t,rfl,ga,ay,y2,aI⟩:=aK;rw[aa8];refine aJ (wV (T := "tuple") ⟨_,keep _ _ ga,ay⟩ ?_);rw[bH (by decide)];refine aJ (IM (keep _ _ ga) y2 (bQ ?_));rw[aI];exact h t
theorem Yt{v u:aw}{x y:Str}{Q:SortKind->bp->Prop}(keep:∀b o,aa.get? b=I o->s.heap.get? b=I o)(aK:qF aa v x)(cF:qF aa u y)(h:Q (tuples' ak) s):a3 (bk prog w) A (keyKind' [v,u].toArray) Q E s:=by
 rw[keyKind'_eq,ajZ,map_eq_pure_bind];rw[aj0,aj0,List.mapM_nil];refine aJ (aJ (aJ (Oc keep aK λt=>aJ (aJ (Oc keep cF λbX=>aJ (bQ (bQ (bQ (bQ ?_)))))))));rw[bj (by simp)];refine aJ (qP ?_);rw[show([I (Value.str x t),I (Value.str y bX)]:List (Option aw)).toArray.filterMap id=[Value.str x t,.str y bX].toArray by simp,oneTypeOnly'_eq,ajZ,mapM_typeOf_strs (.cons x t (.cons y bX .nil))];simp only [map_pure,pure_bind];refine aJ (bQ (bQ ?_))
 simpa [show(Value.type "str" != Value.type "tuple")=ak by decide] using h
theorem Vu{a:Addr}{vs:List aw}{n:Nat}{P:PySem.Fin->bp->Prop}(ho:s.heap.get? a=I (seqObj "list" vs.toArray n))(keep:∀b o,aa.get? b=I o->s.heap.get? b=I o/\b≠a)(bu:zH aa vs)
  (h:P (.done (.ret .none)) { s with heap:=sortedHeap s.heap a vs vs.toArray }):a3 (bk prog w) A (Builtin.«list.sort» ⟨[.ref a],[]⟩) P E s:=by
 rw[list_sort_plain];have rN:vs.toArray.size<=bz:=by cases bu <;> (simp;decide)
 refine aJ (IM ho ab ?_);refine aJ (RJ ho ab ?_ rN (iu _));obtain⟨ax,Nb⟩:∃ax,(s.heap.update a (gZ λae=>#[])).get? a=I (seqObj "list" #[] ax):=⟨_,get?_update_seq ho (λae=>#[])⟩;refine aJ (RH Nb ab ?_);refine aJ (ai4 ?_ rN);refine aJ (wpAny_newList ?_ (iu _));refine ir ?_;have Bz:(((s.heap.update a (gZ λae=>#[])).push (seqObj "tuple" vs.toArray 0)).push (seqObj "list" #[] 0)).get? a=I (seqObj "list" #[] ax):=ed _ (ed _ Nb);have MA:∀b o,aa.get? b=I o->(((s.heap.update a (gZ λae=>#[])).push (seqObj "tuple" vs.toArray 0)).push (seqObj "list" #[] 0)).get? b=I o:=λb o e=>by
  obtain⟨fC,gC⟩:=keep b o e;exact ed _ (ed _ ((xa _ _ (lL gC)).trans fC))
 show a3 (bk prog w) A _ P E { s with heap:=((s.heap.update a (gZ λae=>#[])).push (seqObj "tuple" vs.toArray 0)).push (seqObj "list" #[] 0) };dsimp only;have last:∀{out:Array aw},out=vs.toArray->P (.done (.ret .none)) { s with heap:=sortedHeap s.heap a vs out }/\out.size<=bz:=λe=>by subst e;exact⟨h,rN⟩
 cases bu with
 |one v=>
  rw[bj (show [v].toArray.size<2 from jK 1),bj (show [v].toArray.size<2 from jK 1)];refine aJ (bQ ?_);rw[StateT.run_pure];refine aJ (bQ ?_);dsimp only;refine aJ (RH Bz ab ?_);have rH:(arrOf (SortSt.mk' general' ([v].toArray.zip [v].toArray) #[] 7 U)).map (·.2)=[v].toArray:=by show([v].toArray.zip [v].toArray).map (·.2)=_;simp
  refine aJ (RJ Bz ab ?_ (iu _) (w4 (last rH).2));simp only [bne_self_eq_false,Bool.false_eq_true,if_false];exact bQ (last rH).1
 |@two v u x y aK cF d6=>
  rw[bH (show ¬[v,u].toArray.size<2 from hZ 2),bH (show ¬[v,u].toArray.size<2 from hZ 2)];refine aJ (Yt MA aK cF ?_);have ab3:SortSt.mk' (tuples' ak) ([v,u].toArray.zip [v,u].toArray) #[] 7 U=kas_st (tuples' ak) (pairsOf [v,u]) (List.toArray (eP 2)):=by
   have e:=kas_range (pairsOf [v,u]);rw[pairsOf_size]at e;show SortSt.mk' (tuples' ak) (pairsOf [v,u]) #[] 7 U=SortSt.mk' (tuples' ak) ((List.toArray (eP 2)).map (kas_item (pairsOf [v,u]))) #[] 7 U;exact dR (λz=>SortSt.mk' (tuples' ak) z #[] 7 U) e.symm
  have run:=kas_runs (prog:=prog) (w:=w) (A:=A) (κ:=tuples' ak) (it:=pairsOf [v,u]) (n:=2) (E:=E) (s:={ s with heap:=((s.heap.update a (gZ λae=>#[])).push (seqObj "tuple" [v,u].toArray 0)).push (seqObj "list" #[] 0) })
   (Q:=λae xB s'=>s' = { s with heap:=((s.heap.update a (gZ λae=>#[])).push (seqObj "tuple" [v,u].toArray 0)).push (seqObj "list" #[] 0) }/\arrOf xB=(List.toArray [0,1]).map (kas_item (pairsOf [v,u]))/\failedOf xB=U)
   (G:=λp s'=>s' = { s with heap:=((s.heap.update a (gZ λae=>#[])).push (seqObj "tuple" [v,u].toArray 0)).push (seqObj "list" #[] 0) }/\p=List.toArray [0,1])
   (by decide) (by decide) (λva xB s' ae a2 HQ PD=>⟨PD.1,by rw[a2,PD.2],HQ⟩)
   (show kas_cmp prog w A (tuples' ak) (pairsOf [v,u]) 1 0 _ _ from(by
    unfold kas_cmp;rw[kas_item_eq,kas_item_eq];exact YA MA aK cF d6 ⟨ab,ab⟩))
  rw[<-ab3]at run;refine aJ (cH run ?_ λae az e=>e);rintro⟨⟨⟩,xB⟩ s' ⟨rfl,yF,a8⟩;dsimp only;have rH:(arrOf xB).map (·.2)=[v,u].toArray:=by rw[yF];simp [kas_item_eq]
  refine aJ (RH Bz ab ?_);refine aJ (RJ Bz ab ?_ (iu _) (w4 (last rH).2));rw[a8];simp only [bne_self_eq_false,Bool.false_eq_true,if_false];exact bQ (last rH).1
theorem Vt{l:Addr}{vs:List aw}{Q:aw->bp->Prop}(aj:s.heap.IsList l vs.toArray)(bu:zH s.heap vs)
  (h:Q (.ref (s.heap.objs.size+1)) { s with heap:=sortedAll s.heap vs vs.toArray }):a3 (bk prog w) A (call (.builtin "sorted") [.ref l]) Q E s:=by
 refine Calls.call_function_entry kind_sorted plain_sorted entry_sorted (args_sorted1 _) ?_;unfold Builtin.«sorted»;refine aJ (m:=checkCount "sorted" 1 1 _) (bQ ?_);have rN:vs.toArray.size<=bz:=by cases bu <;> (simp;decide)
 refine aJ (collect_list aj ?_ rN);refine aJ (wpAny_newList ?_ rN);have gf:((s.heap.push (seqObj "list" #[] 0)).update s.heap.objs.size (gZ (· ++ vs.toArray))).objs.size=s.heap.objs.size+1:=by
  rw[Heap.size_update,size_push']
 have Na:(((s.heap.push (seqObj "list" #[] 0)).update s.heap.objs.size (gZ (· ++ vs.toArray))).push (seqObj "list" vs.toArray 0)).get? (s.heap.objs.size+1)=I (seqObj "list" vs.toArray 0):=by
  rw[<-gf];exact gJ _ ab
 show a3 _ _ _ _ _ { s with heap:=((s.heap.push (seqObj "list" #[] 0)).update s.heap.objs.size (gZ (· ++ vs.toArray))).push (seqObj "list" vs.toArray 0) };rw[gf];refine aJ (ir (mP slot_list_sort ⟨_,Na,ab⟩ entry_list_sort (Vu (aa:=s.heap) Na (λb o e=>?_) bu ⟨_,ab,bQ ⟨_,ab,h⟩⟩) (args_list_sort _)));have al:=Heap.lt_size e;exact⟨ed _ ((xa _ _ (Nat.ne_of_gt al)).trans (ed _ e)),fZ (w2 al)⟩
end
section
theorem ND{h:Heap}{v:aw}{x:V}{z:Str}(r:Rel ρ h v x)(e:headOf x=I z):qF h v z:=by
 induction r using Rel.cs with
 |tup off g aj r=>
  induction r using b9.ind with
  |aV=>exact bh e
  |h1 a r _=>induction a using Rel.cs with
   |str y t bL=>cases e;exact⟨_,_,_,_,t,ab,g,ab,ab,ab⟩
   |_=>exact bh e
 |_=>exact bh e
theorem X0{o p:Option Str}{P:Prop}(h:Mf o p=ak)(k:∀x y,o=I x->p=I y->strLt x y=ak->P):P:=by
 induction o with
 |none=>exact fU h
 |some x=>induction p with
  |none=>exact fU h
  |some y=>exact k x y ab ab h
theorem adL{h:Heap}{vs:List aw}{l:List V}(r:b9 ρ h vs l)(e:Cv l=ak):zH h vs:=by
 cases r with
 |nil=>exact fU e
 |cons a r=>cases r with
  |nil=>exact .one _
  |cons b r=>cases r with
   |cons _ _=>exact fU e
   |nil=>exact X0 e λx y aI bL d6=>.two (ND a aI) (ND b bL) d6
theorem ah.my(i:Inv aa σ ρ s.heap)(bl:Rel ρ s.heap a x):ah aa W ρ s A cM (call (.builtin "sorted") [a]) (my x σ):=by
 induction bl using Rel.cs with
 |ref bK=>
  refine ah.e8 λl b4=>ah.ite λay=>ah.Fe λo ho=>?_;obtain⟨vs,m,g,aj,r⟩:=i.list b4 bK;rcases Option.or_eq_some_iff.mp ho with ho|⟨_,ho⟩
  ·obtain⟨ss,lq,rfl⟩:=hr.mp (show(allStrs l).map (λss=>(jj ss).map V.str)=I o from ho);exact ah.ads i g r ay lq
  ·by_cases bu:Cv l=ak
   case neg=>rw[bH bu]at ho;exact bh ho
   rw[bj bu]at ho;cases ho;refine ah.vi i λQ E br=>Vt (gd g) (adL r bu) ?_;obtain⟨e,he⟩:=sortedAll_at s.heap vs vs.toArray;refine br _ vs e _ s.toks (λae az=>RG) ?_ (by simpa [er,seqObj] using he) aj (r.sub (Sub.keeps λae az=>RG))
   induction ax:s.heap.get? (s.heap.objs.size+1) with
   |none=>rfl
   |some o=>exact absurd (Heap.lt_size ax) (qT.mpr (jL _))
 |_=>exact aS
end
end Mine.Internal
namespace Mine.Internal
open PySem PyProof.Rows PySem.Calls
section
variable {prog:Program}{w:World}{E:aw->bp->Prop}
theorem Yy{a:Addr}{o:Obj}{xs:Array aw}{k:Nat}{Q:Option aw->bp->Prop}
  (aI:s.heap.get? a=I o) (ay:o.cls=.type "tuple") (tq:o.data=.seq xs k) (hd:o.dict=U) (aQ:A.handled=U)
  (h:∀h' tk,(∀b o,s.heap.get? b=I o->h'.get? b=I o)->Q U (At h' tk s)) :
  a3 (bk prog w) A (getAttr? (.ref a) "keys") Q E s:=by
 have ZN:typeLookup (.type "tuple") "keys" = pure U:=by rw[qR,sm];kernel_rfl
 refine aE λkk=>?_;obtain⟨c,alp,dat,eo⟩:=o;refine kk ?_;simp only at ay tq hd;subst ay tq hd;refine aE λkk=>?_;obtain⟨hp,g,d,tk,os⟩:=s;refine kk ?_;have cq:∀ei,(⟨hp,g,d,ei,os⟩:bp).TypeIs (.ref a) "tuple":=λae=>⟨_,aI,ab⟩;have f1:=sub_AttributeError;have BY:=Si.lookup;have f4:=Si.bind (.ref a);have tI:=am_tuple_getattr_none;unfold getAttr? getAttrBy? getAttrBy
 repeat (any_goals (first|assumption|exact cq _|((with_reducible show a3 _ _ (call (Value.builtin "tuple.__getattribute__") _ _) _ _ _);refine zK Si (cq _) am_entry_tuple_getattribute (F.args_tuple_getattribute_2 _ _) (meets_getattribute_miss_tuple a xs k eo "keys" _ ZN (by decide +kernel) (by decide +kernel)) ⟨aI,aQ,λh' ei e jt=>?_⟩)|wp_step))
 refine aE λkk=>?_;obtain⟨bX,u',he⟩:=jt.there;refine kk ?_;refine(?_:a3 _ _ (getattributeRaised _ _ _ _ _ _ _) _ _ _);unfold getattributeRaised
 repeat (any_goals (first|assumption|wp_step))
 exact h h' ei jt.of.keeps
theorem Ov:entryFor table "dict.update.loop" = I Builtin.«dict.update.loop»:=IP (by kernel_rfl)
theorem AL:plainId "dict.update.loop" = ak:=by decide +kernel
theorem acR{R:Result->bp->Prop}{aW S:Addr}{N5 wr:List Addr}{n:Nat}{P:Nat->aw->Prop}{St:Nat->Heap->Prop}(W:Walks prog w A.in1 aW N5 wr n P St)(NV:S∉N5){pairs:List (Key×aw)}(hz:n<=bz)(hlen:pairs.length=n)(It:Heap)(res:aw)
  (vY:∀i v,P i v->∃a fQ hv k m,v=.ref a/\pairs[i]? =I (k,hv)/\nW k fQ=ak/\It.get? a=I (dJ [fQ,hv] m)/\a≠S/\a∉wr) :
  ∀(j i:Nat) (s:bp) (bY:List (Key×aw)),n-i=j->i<=n->St i s.heap->s.heap.DictOf (keyKind prog w) S bY->bY.length<=i->(∀b o,b≠S->b∉wr->It.get? b=I o->s.heap.get? b=I o) ->
  (∀h' tk,h'.DictOf (keyKind prog w) S (merged bY (pairs.drop i))->(∀b o,b≠S->b∉wr->It.get? b=I o->h'.get? b=I o)->R (.ok (.ret res)) (At h' tk s)) ->
  codeAny (bk prog w) A (.builtin "dict.update.loop" ⟨[.ref S,.ref aW,rawInt i,res],[]⟩) R s:=by
 have NU:S∉wr:=λh=>NV (W.sub _ h);intro j
 induction j with
 |zero=>
  intro i s bY ao aR cZ hd kH hold rL;have fw:i=n:=lO aR (ajL ao);subst fw;refine IT Ov ?_;rw[akw AL _];refine(?_:a3 _ A.in1 (pyNext (.ref aW)>>=_) _ _ s);refine aJ (W.done s _ _ cZ λh' tk iU=>?_);refine(?_:a3 _ _ (Builtin.Dict.addKeywords S []>>=_) _ _ _);refine aJ (bQ (bQ (rL h' tk ?_ λb o h1 h2 e=>iU b o h2 (hold b o h1 h2 e))));rw[List.drop_eq_nil_of_le (sr hlen)];refine aE λkk=>?_;obtain⟨o,aT,cU,ho,r⟩:=hd;refine kk ?_;exact⟨o,aT,cU,iU S o NU ho,r⟩
 |succ j au=>
  intro i s bY ao aR cZ hd kH hold rL;have d6:i<n:=Nat.lt_of_sub_eq_succ ao;refine IT Ov ?_;rw[akw AL _];refine(?_:a3 _ A.in1 (pyNext (.ref aW)>>=_) _ _ s);refine aJ (W.item i s _ _ d6 cZ λv h' tk aaw th iU=>?_);refine aE λkk=>?_;obtain⟨a,fQ,hv,k,m,rfl,hp,Gu,hg,dD,Nc⟩:=vY i v aaw;refine kk ?_;have kI:h'.DictOf (keyKind prog w) S bY:=by obtain⟨o,aT,cU,ho,r⟩:=hd;exact⟨o,aT,cU,iU S o NU ho,r⟩
  have Ny:h'.get? a=I (dJ [fQ,hv] m):=iU a _ Nc (hold a _ dD Nc hg);refine aJ (ir (aJ (wpAny_tryCatch ?_)));unfold Builtin.Dict.pairItems;refine aJ (wV (T := "tuple") ⟨_,Ny,ab⟩ ?_);rw[bj (by decide)];refine aJ (pS Ny ab (bQ ?_));refine(?_:a3 _ _ (holding [fQ,hv] (dictSet S fQ hv)) _ _ _);refine ir (wpAny_dictSet_pairs Gu kI (λfH yC rG=>?_) (b7 kH (pW (di d6 hz))));refine bQ ⟨RI AL _,?_⟩;rw[(ab:((i:Int)+1)=((i+1:Nat):Int))];refine au (i+1) _ _ (by rw[ajE,ao];rfl) d6 (W.frame _ h' _ th λb al o e=>(rG.2 b (λe=>NV (e ▸ al))).trans e) yC (b7 (stored_length_le ..) (pV kH)) (λb o h1 h2 e=>(rG.2 b h1).trans (iU b o h2 (hold b o h1 h2 e))) λeM p5 Z6 ZD=>rL eM p5 ?_ ZD;rw[show pairs.drop i=(k,hv)::pairs.drop (i+1) from by
   rw[akf (by rw[hlen];exact d6)];congr 1;rw[iw (by rw[hlen];exact d6)]at hp;exact mQ hp]
  exact Z6
theorem ac7{ad:Addr}{vs:List aw}{n:Nat}{pairs:List (Key×aw)}{Q:aw->bp->Prop}(aU:A.handled=U)(g:s.heap.get? ad=I (dJ vs n))(hz:vs.length<=bz)(hlen:pairs.length=vs.length)
  (vY:∀(i:Nat) (v:aw),vs[i]? =I v->∃a fQ hv k m,v=.ref a/\pairs[i]? =I (k,hv)/\nW k fQ=ak/\s.heap.get? a=I (dJ [fQ,hv] m))
  (h:∀h' tk,h'.DictOf (keyKind prog w) s.heap.objs.size (merged [] pairs)->(∀b o,s.heap.get? b=I o->h'.get? b=I o)->Q (.ref s.heap.objs.size) (At h' tk s)) :
  a3 (bk prog w) A (call (.type "dict") [.ref ad]) Q E s:=by
 refine ajg (Q₁:=λobj s₁=>obj=.ref s.heap.objs.size/\s₁ = { s with heap:=s.heap.push { cls:=.type "dict",data:=.dict #[] } }) F.kt_called_dict (F.kt_typeCall_dict_1 _) F.entry_dict_init (kt_code_dict_new _ ⟨ab,ab⟩) ?_;rintro obj s₁ ⟨rfl,rfl⟩;have n1:(s.heap.push { cls:=.type "dict",data:=.dict #[] }).DictOf (keyKind prog w) s.heap.objs.size []:=akl s.heap;have cB:(s.heap.push { cls:=.type "dict",data:=.dict #[] }).get? ad=I (dJ vs n):=ed _ g;refine⟨n1.typeIs,F.args_dict_init_2 _ _,?_⟩;unfold Builtin.«dict.__init__»;refine aJ ?_;unfold Builtin.Dict.selfAndRest;refine aJ (wpAny_notOrdered_dict n1.typeIs ?_);refine(?_:a3 _ _ (pure (s.heap.objs.size,[Value.ref ad])) _ _ _);refine bQ ?_;refine(?_:a3 _ _ (Builtin.Dict.updateFrom "dict.__init__" s.heap.objs.size (.ref ad) [] .none) _ _ _);unfold Builtin.Dict.updateFrom;refine aJ (wV (T := "tuple") ⟨_,cB,ab⟩ ?_);rw[bj (by decide)];refine aJ (Yy cB ab ab ab aU λdv d9 vN=>?_);rw[bj (show(U:Option aw).isNone=ak from ab)];refine aJ (qP ?_);have tC:dv.get? ad=I (dJ vs n):=vN _ _ cB;refine aJ (RB (lj tC) ?_);have vX:s.heap.objs.size≠dv.objs.size:=by obtain⟨_,_,_,ho,_⟩:=n1;exact fZ (Heap.lt_size (vN _ _ ho))
 refine bQ ⟨RI AL _,acR (n:=vs.toArray.size) (pairs:=pairs) (Walks.tuple (A:=A.in1.in1) aU dv.objs.size ad (fZ (Heap.lt_size tC):ad≠dv.objs.size) vs.toArray) (by simp [vX,(Nat.ne_of_gt (Heap.lt_size g):s.heap.objs.size≠ad)]) (by simpa using hz) (by simpa using hlen) s.heap .none (λi v aK=>?_) _ 0 _ [] ab (iu _) ⟨⟨_,gJ _ ab,ab,ab⟩,lj (ed _ tC)⟩ ?_ (cI _) (λb o h1 h2 e=>ed _ (vN _ _ (ed _ e))) λh' tk hd hold=>?_⟩
 ·refine aE λkk=>?_;obtain⟨a,fQ,hv,k,m,rfl,h1,h2,h3⟩:=vY i v (by simpa using aK);refine kk ?_;refine⟨a,fQ,hv,k,m,ab,h1,h2,h3,fZ (Heap.lt_size h3),?_⟩;rw[bT];exact fZ (Heap.lt_size (vN _ _ (ed _ h3)))
 ·obtain⟨o,aT,cU,ho,r⟩:=n1;exact⟨o,aT,cU,ed _ (vN _ _ ho),r⟩
 ·refine⟨ab,h h' tk hd λb o e=>hold b o (fZ (Heap.lt_size e)) ?_ e⟩;rw[bT];exact fZ (Heap.lt_size (vN _ _ (ed _ e)))
end
section
theorem TB{α:Type}{a b:α}{vs:List α}(aj:vs.length=2)(h1:vs[0]? =I a)(h2:vs[1]? =I b):vs=[a,b]:=by
 refine akd λi=>?_
 induction i with
 |zero=>exact h1
 |succ i=>induction i with
  |zero=>exact h2
  |succ i=>rw[iL (by rw[aj];exact RY 2 i)];rfl
theorem W5{l:List V}{k:Key}{q:V}(e:pairOf (.tup l)=I (k,q)):∃p,l=[p,q]/\keyOf p=I k:=by
 induction l using List.casesOn with
 |nil=>exact bh e
 |cons p l=>induction l using List.casesOn with
  |nil=>exact bh e
  |cons v l=>induction l using List.casesOn with
   |nil=>
    obtain⟨c6,h1,h2⟩:=hr.mp (show(keyOf p).map (λk=>(k,v))=I (k,q) from e);cases h2;exact⟨p,ab,h1⟩
   |cons _ _=>exact bh e
theorem W6{h:Heap}{a:aw}{x:V}{k:Key}{q:V}(r:Rel ρ h a x)(e:pairOf x=I (k,q)):∃b fQ hv m,a=.ref b/\nW k fQ=ak/\(∀s,k=.inr s->gW s)/\Rel ρ h hv q/\h.get? b=I (dJ [fQ,hv] m):=by
 induction r using Rel.cs with
 |@tup b vs n l gp g aj bl=>
  refine aE λkk=>?_;obtain⟨p,rfl,dB⟩:=W5 e;obtain⟨fQ,h1,dN⟩:=bl.get (k:=0) ab;obtain⟨hv,h2,ef⟩:=bl.get (k:=1) ab;refine kk ?_;rw[TB bl.length h1 h2]at g;refine aE λkk=>?_;obtain⟨fC,gC⟩:=vu dN dB;refine kk ?_;exact⟨b,fQ,hv,n,ab,fC,gC,ef,g⟩
 |none=>exact bh e
 |bool _=>exact bh e
 |int _ _=>exact bh e
 |str _ _ _=>exact bh e
 |ref _=>exact bh e
theorem W4{h:Heap}{l:List V}{vs:List aw}(r:b9 ρ h vs l):∀{t:Tab},kvsOf l=I t->∃pairs:List (Key×aw),pairs.length=vs.length/\fp ρ h pairs t /\
  ∀(i:Nat) (v:aw),vs[i]? =I v->∃a fQ hv k m,v=.ref a/\pairs[i]? =I (k,hv)/\nW k fQ=ak/\h.get? a=I (dJ [fQ,hv] m):=by
 induction r using b9.ind with
 |aV=>intro t e;cases e;exact⟨[],ab,.nil,λi v e=>bh e⟩
 |h1 a r au=>
  intro t e;refine aE λkk=>?_;obtain⟨⟨k,q⟩,cU,e⟩:=RQ.mp e;obtain⟨bX,bK,rfl⟩:=hr.mp e;obtain⟨ps,h1,h2,h3⟩:=au bK;obtain⟨b,fQ,hv,m,rfl,fC,gC,e4,g⟩:=W6 a cU;refine kk ?_;refine⟨(k,hv)::ps,by rw[gy,gy,h1],.cons gC e4 h2,λi v aK=>?_⟩
  induction i with
  |zero=>cases aK;exact⟨b,fQ,hv,k,m,ab,ab,fC,g⟩
  |succ i=>exact h3 i v aK
theorem fp.merged{h:Heap}{ps:List (Key×aw)}{t:Tab}(q:fp ρ h ps t):∀{bY:List (Key×aw)}{l:Tab},fp ρ h bY l->fp ρ h (PySem.merged bY ps) (y3 l t):=by
 induction q with
 |nil=>exact λr=>r
 |cons aD e4 _ au=>exact λr=>au (r.stored aD e4)
theorem ah.r1{a:aw}{x:V}(ek:aa.heap.NoLimit)(aU:A.handled=U)(i:Inv aa σ ρ s.heap)(bl:Rel ρ s.heap a x):ah aa W ρ s A cM (call (.type "dict") [a]) (r1 x σ):=by
 cases bl with
 |tup gp g aj r=>
  refine ah.Fe λu cF=>?_;refine aE λkk=>?_;obtain⟨ps,h1,h2,h3⟩:=W4 r cF;refine kk ?_;refine ah.L3 i λQ E br=>ac7 aU g aj h1 h3 λh' tk hd ao=>br _ _ h' tk ao tE (big ek i) hd ?_ ((h2.merged (.nil (ρ:=ρ) (h:=s.heap))).sub (Sub.keeps ao));exact b7 (merged_length_le ..) (by rw[h1];simpa using aj)
 |_=>exact aS
end
end Mine.Internal
namespace Mine.Internal
open PySem PyProof.Rows
structure Iz(fd:FuncData)(f:cX):Prop where
 body:fd.body=.stmts f.body
 names:fd.scope.names=f.names
 kind:fd.scope.kind=.function
 co:fd.scope.isCoroutine=aH
 gen:fd.scope.isGenerator=aH
 OY:fd.closure=[]
 globals:fd.globals=mainGlobals
 kO:fd.builtins=builtinsNs
 binds:∀vals:List aw,vals.length=f.params.length->bindArgs fd ⟨vals,[]⟩=pure (f.params.zip vals)
 Lv:∀x∈f.params,f.names.lookup x=I .local\/f.names.lookup x=I .cell
 nodup:f.params.Nodup
noncomputable def pF:List Str:=["len", "list", "tuple", "range", "enumerate", "sorted", "dict", "min", "zip", "reversed"]
inductive zC(h:Heap)(fn:cX)(a:Addr):Prop
 |mk(o:Obj)(fd:FuncData)(h1:h.get? a=some o)(h2:o.data=.func fd)(h3:Iz fd fn)(bf:h.CodeRec fd.code fd.qualname):zC h fn a
structure OwnCls(tx:gU)(h:Heap)(c:Str)(ms:List Str×List Str)(C N:Addr)(dk:Str->Option aw):Prop where
 cls:ClsAt h C N dk
 VK:dk "__setattr__" = U
 ga:dk "__getattribute__" = U
 aaG:dk "__getattr__" = U
 cmp:dk "__eq__" = U/\dk "__ne__" = U
 fld:∀f∈ms.2,dk f=U/\typeLookup (.type "object") f=pure U
 init:("__init__" : Str)∈ms.1
 L8:∀m∈ms.1,∃a fn o,dk m=I (.ref a)/\tx.at (jr c m)=I fn/\zC h fn a/\h.get? a=I o/\o.cls=.type "function"
structure Dc(tx:gU)(mg:Str->Option aw)(h:Heap)(c:Str)(us:List Str)(C:Addr)(bm:List aw)(f:kS)(dk:Str->Option aw):Prop where
 at_:mg c=I (.ref C)
 cls:pH h C bm f dk
 ups:∀t ut D,tx.ups t=I ut->mg t=I (.ref D)->(Value.ref C::bm).contains (.ref D)=us.contains t
 AW:dk "__init__" = U
inductive IB(tx:gU)(mg:Str->Option aw)(h:Heap)(c:Str)(us:List Str):Prop
 |mk(C:Addr)(bm:List aw)(f:kS)(dk:Str->Option aw)(aW:Dc tx mg h c us C bm f dk):IB tx mg h c us
inductive Qw(tx:gU)(mg:Str->Option aw)(h:Heap)(c:Str)(ms:List Str×List Str):Prop
 |mk(C N:Addr)(dk:Str->Option aw)(e:mg c=some (.ref C))(O:OwnCls tx h c ms C N dk):Qw tx mg h c ms
structure gF(tx:gU)(mg mb:Str->Option aw)(aa:Heap):Prop where
 g:aa.Ns mainGlobals mg
 b:aa.Ns builtinsNs mb
 nolimit:aa.NoLimit
 fn:∀f fn,tx.fns f=I fn->∃a,mg f=I (.ref a)/\zC aa fn a
 exc:∀c us,tx.ups c=I us->IB tx mg aa c us
 own:∀c ms,tx.cls c=I ms->Qw tx mg aa c ms
 blt:∀f∈pF,tx.fns f=U->mg f=U/\mb f=iJ f
 const:∀x v,tx.glob x=I v->∃val,mg x=I val/\∀ρ h,Rel ρ h val v
section
variable {mg mb:Str->Option aw}
variable {loc:Loc}{n:Nat}
theorem c9.kindOf(F:c9 aa env ns loc ρ s.heap)(h:slot ns x=I (i,k)):env.kindOf x=I k:=by
 show env.scope.names.lookup x=I k;rw[F.names];exact xG h
theorem c9.eV(F:c9 aa env ns loc ρ h)(x:Ext [] ρ h aA h'):c9 aa env ns loc aA h':=F.ext x λae hm=>nomatch hm
theorem ML(h:jZ ns x=ak):(∃i,slot ns x=I (i,.globalImplicit))/\(x==("__debug__" : Str))=aH:=by
 unfold jZ at h
 split at h
 ·exact⟨⟨_,by assumption⟩,by simpa using h⟩
 ·exact fU h
theorem ah.ldLoc(h:∀v,loc[i]? =I (I v)->ah aa W ρ s A cM t (.ok v σ)):ah aa W ρ s A cM t (ldLoc loc i σ):=by
 refine ah.bE λv aK=>h v ?_
 induction e:loc[i]? with
 |none=>rw[e]at aK;exact bh aK
 |some o=>rw[e]at aK;induction o with
  |none=>exact bh aK
  |some u=>cases aK;rfl
theorem ah.name(B:gF tx mg mb aa.heap)(hg:C.glob=tx.glob)(F:c9 aa env ns loc ρ s.heap)(i:Inv aa σ ρ s.heap) :
  ah aa W ρ s A cM (eval (.Name x pos) env) (ev C (.Name x pos) ns loc σ):=by
 show ah aa W ρ s A cM _ ((if x=("__debug__" : Str) then M.bad else nV C ns x loc) σ);by_cases aI:x=("__debug__" : Str)
 ·rw[bj aI];exact aS
 ·rw[bH aI];have hd:(x==("__debug__" : Str))=aH:=by simpa using aI
  induction aD:slot ns x with
  |none=>unfold nV;rw[aD];exact aS
  |some p=>
   refine aE λkk=>?_;obtain⟨j,k⟩:=p;refine kk ?_
   induction k with
   | «local» =>
    have e:nV C ns x loc=Mine.Internal.ldLoc loc j:=by unfold nV;rw[aD]
    rw[e];refine ah.ldLoc λv aK=>?_;refine aE λkk=>?_;obtain⟨m,aM,aj⟩:=F.vars;obtain⟨val,hm,r⟩:=aj x j v aD aK;exact kk (ah.same i λQ E br=>wpAny_Name (wpAny_loadName_local F.kind (F.kindOf aD) aM hm (br _ s.toks r)) hd)
   |cell=>
    have e:nV C ns x loc=Mine.Internal.ldLoc loc j:=by unfold nV;rw[aD]
    rw[e];refine ah.ldLoc λv aK=>?_;refine aE λkk=>?_;obtain⟨c,o,ay,tr,aj⟩:=F.cell x j aD;obtain⟨val,rfl,r⟩:=aj v aK;exact kk (ah.same i λQ E br=>wpAny_Name (wpAny_loadName_cell F.kind (F.kindOf aD) ay tr (br _ s.toks r)) hd)
   |free=>unfold nV;rw[aD];exact aS
   |globalImplicit=>
    have e:nV C ns x loc=Mine.Internal.bE (C.glob x):=by unfold nV;rw[aD]
    rw[e,hg];refine ah.bE λv aK=>?_;refine aE λkk=>?_;obtain⟨val,hm,r⟩:=B.const x v aK;exact kk (ah.same i λQ E br=>Sj F.kind (F.kindOf aD) (aks (by rw[F.globals];exact B.g.keeps i.base) hm (br _ s.toks (r _ _))) hd)
   |globalExplicit=>unfold nV;rw[aD];exact aS
theorem z2(B:gF tx mg mb aa.heap)(F:c9 aa env ns loc ρ s.heap)(i:Inv aa σ ρ s.heap)(aI:jZ ns x=ak)(aK:mg x=I v)(h:Q v s) :
  a3 (bk aa.prog aa.w) A (eval (.Name x pos) env) Q E s:=by
 refine aE λkk=>?_;obtain⟨⟨j,aD⟩,hd⟩:=ML aI;exact kk (Sj F.kind (F.kindOf aD) (aks (by rw[F.globals];exact B.g.keeps i.base) aK h) hd)
theorem DN(B:gF tx mg mb aa.heap)(F:c9 aa env ns loc ρ s.heap)(i:Inv aa σ ρ s.heap)(aI:jZ ns x=ak)(aM:x∈pF)(a8:tx.fns x=U)
  (aK:iJ x=I v) (h:Q v s):a3 (bk aa.prog aa.w) A (eval (.Name x pos) env) Q E s:=by
 refine aE λkk=>?_;obtain⟨⟨j,aD⟩,hd⟩:=ML aI;obtain⟨h1,h2⟩:=B.blt x aM a8;exact kk (Sj F.kind (F.kindOf aD) (Calls.loadGlobal_builtin (by rw[F.globals];exact B.g.keeps i.base) h1 (by rw[F.kO];exact B.b.keeps i.base) (h2.trans aK) h) hd)
theorem ah.wrap{α β:Type}{t bX:Sem β}{r:Res α}{R:α->Map->Heap->β->Prop}(hw:∀(Q:β->bp->Prop) (E:aw->bp->Prop),a3 (bk aa.prog aa.w) A t Q E s->a3 (bk aa.prog aa.w) A bX Q E s)
  (h:ah aa W ρ s A R t r):ah aa W ρ s A R bX r:=by
 induction r with
 |bad=>exact aS
 |exc _ _=>exact hw _ _ h
 |ok a af=>exact hw _ _ h
theorem ah.operate{vs:List aw}{t:Sem aw}{r:Res V}{R:V->Map->Heap->aw->Prop}(h:ah aa W ρ s A R t r):ah aa W ρ s A R (PySem.operate vs t) r:=
 ah.wrap (λae az=>ai3) h
theorem ah.behind{α:Type}{t:Sem aw}{f:aw->Sem PUnit}{r:Res α}{R:α->Map->Heap->aw->Prop}(a8:∀v (s':bp) (Q:PUnit->bp->Prop) (E:aw->bp->Prop),Q ⟨⟩ s'->a3 (bk aa.prog aa.w) A (f v) Q E s')
  (h:ah aa W ρ s A R t r):ah aa W ρ s A R (t>>=λv=>f v>>=λae=>cv v) r:=by
 induction r with
 |bad=>exact aS
 |exc _ _=>exact aJ (cH h (λae az f=>f.elim) λae az x=>x)
 |ok a af=>exact aJ (cH h (λv s' hp=>aJ (a8 v s' _ _ (bQ hp))) λae az x=>x)
variable (aa C n) in
def cg(e:Expr):Prop:=∀(env:Env) (ns:ct) (loc:Loc) (σ:aq) (ρ:Map) (s:bp) (A:Around),eh aa A n C.calm->c9 aa env ns loc ρ s.heap->Inv aa σ ρ s.heap ->
 ah aa [] ρ s A cM (eval e env) (ev C e ns loc σ)
variable (aa C n) in
def hV(e:Expr):Prop:=∀(env:Env) (ns:ct) (loc:Loc) (σ:aq) (ρ:Map) (s:bp) (A:Around),eh aa A n C.calm->c9 aa env ns loc ρ s.heap->Inv aa σ ρ s.heap ->
 ah aa [] ρ s A sd (isTrue e env (eval e env)) (d4 C e ns loc (ev C e ns loc) σ)
variable (aa C n) in
def nv(aT:List Expr):Prop:=∀(env:Env) (ns:ct) (loc:Loc) (σ:aq) (ρ:Map) (s:bp) (A:Around) (pos:Pos),eh aa A n C.calm->c9 aa env ns loc ρ s.heap->Inv aa σ ρ s.heap ->
 ah aa [] ρ s A H6 (spliced (backTo pos (fL aT env))) (kL C aT ns loc σ)
theorem eh.u{q:Bool}(h:eh aa A n q):A.units+201<cLine:=by have:=h.units;exact gq 0x304264F8240002030429678258088000021 ab this
theorem abR:cg aa C n (.Constant c k pos):=λenv ns loc σ ρ s A aQ F i=>by
 refine(?_:ah aa [] ρ s A cM (constValue env c) (OS c σ))
 induction c with
 |none=>exact ah.ret i .none
 |bool b=>exact ah.ret i (.bool b)
 |int z=>exact ah.same i λQ E br=>wpAny_mkInt (br _ _ (.int _ _))
 |str x=>exact ah.ite λay=>ah.same i λQ E br=>wpAny_mkText (br _ _ (.str _ _ ay))
 |float _=>exact aS
 |complex _ _=>exact aS
 |bytes _=>exact aS
 |ellipsis=>exact aS
theorem abX(aj:cg aa C n l)(aP:cg aa C n r):cg aa C n (.BinOp l op r pos):=λenv ns loc σ ρ s A aQ F i=>by
 rw[arm_eval_BinOp];show ah aa [] ρ s A cM _ ((ev C l ns loc>>=λa=>ev C r ns loc>>=λb=>binop op a b) σ);refine ah.bind (aj env ns loc σ ρ s A aQ F i) λa a0 aZ dQ d9 ag bo bO b3=>?_;refine ah.bind (ah.holding (aP env ns loc a0 aZ _ A aQ (F.eV bO) bo)) λb cE eA d2 ee ai dz d8 g8=>?_;exact ah.standAt (ah.operate (ah.binop dz (b3.ext d8) g8))
theorem Oq(aI:cg aa C n x):cg aa C n (.UnaryOp .Not x pos):=λenv ns loc σ ρ s A aQ F i=>by
 rw[arm_eval_UnaryOp];show ah aa [] ρ s A cM _ ((ev C x ns loc>>=λa=>truth a>>=λt=>pure (V.bool (!t))) σ);refine ah.bind (aI env ns loc σ ρ s A aQ F i) λa a0 aZ dQ d9 ag bo bO b3=>?_;refine ah.standAt (ah.holding ?_);have:=ah.truth (aa:=aa) (A:=A) (W:=[]) (s:=At dQ d9 s) bo b3
 induction e:truth a a0 with
 |bad=>rw[cS e];exact aS
 |exc v af=>rw[e1 e];rw[e]at this;exact not_value (cH this (λae az f=>f.elim) λae az x=>x)
 |ok b af=>
  rw[aN e];rw[e]at this;refine not_value (cH this (λkR s' hp=>?_) λae az x=>x);exact hp.mono λaA h' e=>by cases e;exact .bool _
theorem abJ:cg aa C n (.UnaryOp .USub (.Constant (.int z) k p) pos):=λenv ns loc σ ρ s A aQ F i=>by
 refine(?_:ah aa [] ρ s A cM _ ((pure (V.int (-z)):M V) σ));exact ah.same i λQ E br=>wpAny_UnaryOp (wpAny_Constant_int (neg_int (br _ _ (.int _ _))))
theorem AX(aP:∀aT k p,r≠.Set aT k p)(h:ah aa W ρ s A cM t res):ah aa W ρ s A cM (markedBehindIn op r t) res:=by
 have e:behindInMarks op r=aH:=by cases r <;> first|rfl|exact absurd ab (aP _ _ _)
 rw[markedBehindIn_of_false e];exact h
theorem B0:ev C (.Set aT k p) ns loc=M.bad:=rfl
theorem abS(aj:cg aa C n l)(aP:cg aa C n r):cg aa C n (.Compare l [op] [r] pos):=λenv ns loc σ ρ s A aQ F i=>by
 rw[eval_Compare1];show ah aa [] ρ s A cM _ ((ev C l ns loc>>=λa=>ev C r ns loc>>=λb=>cmp op a b) σ);refine ah.bind (aj env ns loc σ ρ s A aQ F i) λa a0 aZ dQ d9 ag bo bO b3=>?_;refine aE λkk=>?_;by_cases ia:∃aT k p,r=.Set aT k p
 ·skip
  obtain⟨aT,k,p,rfl⟩:=ia;refine kk ?_;rw[B0,cS ab];exact aS
 ·refine kk (ah.bind (ah.holding (AX (λaT k p e=>ia ⟨aT,k,p,e⟩) (aP env ns loc a0 aZ _ A aQ (F.eV bO) bo))) λb cE eA d2 ee ai dz d8 g8=>?_);exact ah.standAt (ah.operate (ah.cmp dz aQ.u (b3.ext d8) g8))
theorem Ab(he:cg aa C n e)(h1:∀(ns:ct) (loc:Loc) (whole:M V),(whole>>=λv=>truth v)=d4 C e ns loc whole)(h2:∀(env:Env) (whole:Sem aw),isTrue e env whole=(do let v <-whole;standAt e.pos;holding [v] (truthy v))) :
  hV aa C n e:=λenv ns loc σ ρ s A aQ F i=>by
 rw[<-h1,h2];refine ah.bind (he env ns loc σ ρ s A aQ F i) λa a0 aZ dQ d9 ag bo bO b3=>?_;exact ah.standAt (ah.holding (ah.truth bo b3))
theorem TO(aj:cg aa C n l)(aP:cg aa C n r):hV aa C n (.Compare l [op] [r] pos):=λenv ns loc σ ρ s A aQ F i=>by
 rw[isTrue_Compare1];show ah aa [] ρ s A sd _ (((ev C l ns loc>>=λa=>ev C r ns loc>>=λb=>cmp op a b)>>=λv=>truth v) σ);rw[M.assoc];refine ah.bind (aj env ns loc σ ρ s A aQ F i) λa a0 aZ dQ d9 ag bo bO b3=>?_;rw[M.assoc];by_cases ia:∃aT k p,r=.Set aT k p
 ·refine aE λkk=>?_;obtain⟨aT,k,p,rfl⟩:=ia;refine kk ?_;rw[B0,cS ab];exact aS
 ·refine ah.bind (ah.holding (AX (λaT k p e=>ia ⟨aT,k,p,e⟩) (aP env ns loc a0 aZ _ A aQ (F.eV bO) bo))) λb cE eA d2 ee ai dz d8 g8=>?_;refine ah.standAt (ah.bind (ah.operate (ah.cmp dz aQ.u (b3.ext d8) g8)) λc hu pZ wO p5 ar l5 nA rg=>?_);exact ah.holding (ah.truth l5 rg)
theorem abT(aj:cg aa C n l)(hm:cg aa C n m)(aP:cg aa C n r):cg aa C n (.Compare l [op,kz] [m,r] pos):=λenv ns loc σ ρ s A aQ F i=>by
 have e:eval (.Compare l [op,kz] [m,r] pos) env=(eval l env>>=λag=>holding [ag] (eval m env)>>=λai=>PySem.standAt pos>>=λae=>holding [ag,ai] (compareOp op ag ai)>>=λc=>release [ag,ai] [c]>>=λae=>holding [c,ai] (truthy c)>>=λt=>
  if t=ak then (holding [ai] (markedBehindIn kz r (eval r env))>>=λar=>PySem.standAt pos>>=λae=>operate [ai,ar] (compareOp kz ai ar)) else cv c):=rfl
 rw[e];show ah aa [] ρ s A cM _ ((ev C l ns loc>>=λa=>ev C m ns loc>>=λb=>cmp op a b>>=λx=>y8 x (ev C r ns loc>>=λc=>cmp kz b c) (pure (.bool aH))) σ);refine ah.bind (aj env ns loc σ ρ s A aQ F i) λa a0 aZ dQ d9 ag bo bO b3=>?_;refine ah.bind (ah.holding (hm env ns loc a0 aZ _ A aQ (F.eV bO) bo)) λb cE eA d2 ee ai dz d8 g8=>ah.standAt ?_;refine ah.bind (ah.holding (ah.cmp dz aQ.u (b3.ext d8) g8)) λc hu pZ wO p5 ar l5 nA rg=>?_;refine ah.ahead (λQ E aL=>IJ aL) ?_
 induction rg using Rel.cs with
 |bool t=>
  refine ah.first (λQ E aL=>ir (Dh aL)) ?_
  induction t with
  |false=>exact ah.ret l5 (.bool _)
  |true=>
   show ah aa [] pZ _ A cM _ ((ev C r ns loc>>=λc=>cmp kz b c) hu);refine aE λkk=>?_;by_cases ia:∃aT k p,r=.Set aT k p
   ·obtain⟨aT,k,p,rfl⟩:=ia;refine kk ?_;rw[B0,cS ab];exact aS
   ·refine kk ?_;refine ah.bind (ah.holding (AX (λaT k p e=>ia ⟨aT,k,p,e⟩) (aP env ns loc hu pZ _ A aQ (((F.eV bO).eV d8).eV nA) l5))) λd Sl xc zx xq aF FU DM EP=>?_;exact ah.standAt (ah.operate (ah.cmp FU aQ.u ((g8.ext nA).ext DM) EP))
 |_=>exact aS
theorem TP(aj:cg aa C n l)(hm:cg aa C n m)(aP:cg aa C n r):hV aa C n (.Compare l [op,kz] [m,r] pos):=λenv ns loc σ ρ s A aQ F i=>by
 have e:∀whole,isTrue (.Compare l [op,kz] [m,r] pos) env whole=(eval l env>>=λag=>holding [ag] (eval m env)>>=λai=>PySem.standAt pos>>=λae=>holding [ag,ai] (compareOp op ag ai)>>=λc=>release [ag,ai] [c]>>=λae=>holding [c,ai] (truthy c)>>=λt=>
  if t=ak then (holding [ai] (markedBehindIn kz r (eval r env))>>=λar=>PySem.standAt pos>>=λae=>operate [ai,ar] (compareOp kz ai ar)>>=λc=>holding [c] (truthy c)) else cv aH):=λae=>ab
 rw[e];show ah aa [] ρ s A sd _ (((ev C l ns loc>>=λa=>ev C m ns loc>>=λb=>cmp op a b>>=λx=>y8 x (ev C r ns loc>>=λc=>cmp kz b c) (pure (.bool aH)))>>=λv=>truth v) σ);rw[M.assoc];refine ah.bind (aj env ns loc σ ρ s A aQ F i) λa a0 aZ dQ d9 ag bo bO b3=>?_;rw[M.assoc];refine ah.bind (ah.holding (hm env ns loc a0 aZ _ A aQ (F.eV bO) bo)) λb cE eA d2 ee ai dz d8 g8=>ah.standAt ?_;rw[M.assoc];refine ah.bind (ah.holding (ah.cmp dz aQ.u (b3.ext d8) g8)) λc hu pZ wO p5 ar l5 nA rg=>?_;refine ah.ahead (λQ E aL=>IJ aL) ?_
 induction rg using Rel.cs with
 |bool t=>
  refine ah.first (λQ E aL=>ir (Dh aL)) ?_
  induction t with
  |false=>exact ah.ret l5 ab
  |true=>
   show ah aa [] pZ _ A sd _ (((ev C r ns loc>>=λc=>cmp kz b c)>>=λv=>truth v) hu);rw[M.assoc];refine aE λkk=>?_;by_cases ia:∃aT k p,r=.Set aT k p
   ·obtain⟨aT,k,p,rfl⟩:=ia;refine kk ?_;rw[B0,cS ab];exact aS
   ·refine kk ?_;refine ah.bind (ah.holding (AX (λaT k p e=>ia ⟨aT,k,p,e⟩) (aP env ns loc hu pZ _ A aQ (((F.eV bO).eV d8).eV nA) l5))) λd Sl xc zx xq aF FU DM EP=>ah.standAt ?_;refine ah.bind (ah.operate (ah.cmp FU aQ.u ((g8.ext nA).ext DM) EP)) λc akx aky alA akU ar YV akK VR=>?_;exact ah.holding (ah.truth YV VR)
 |_=>exact aS
theorem abQ(ek:aa.heap.NoLimit):cg aa C n (.Dict [] [] pos):=λenv ns loc σ ρ s A aQ F i=>by
 rw[eval_Dict_empty];refine ah.standAt (ah.L3 i λQ E br=>pT (T := "dict") (br _ [] _ _ (λae az e=>ed _ e) tE (big ek i) (akl s.heap) (iu _) .nil) ?_);exact iu _
end
section
variable {mg mb:Str->Option aw}
variable {loc:Loc}{n:Nat}
theorem ah.cond{α β:Type}{t:Sem Bool}{f g:Sem β}{m:M Bool}{k l:M α}{R:α->Map->Heap->β->Prop}(h:ah aa W ρ s A sd t (m σ))
  (h1:∀a0 aZ H tk,Inv aa a0 aZ H->Ext W ρ s.heap aZ H->ah aa W aZ (At H tk s) A R f (k a0))
  (h2:∀a0 aZ H tk,Inv aa a0 aZ H->Ext W ρ s.heap aZ H->ah aa W aZ (At H tk s) A R g (l a0)) :
  ah aa W ρ s A R (t>>=λb=>if b=ak then f else g) ((m>>=λb=>M.cond b k l) σ):=by
 refine ah.bind h λb a0 aZ H tk kR i x r=>?_;cases r
 induction b with
 |true=>exact h1 a0 aZ H tk i x
 |false=>exact h2 a0 aZ H tk i x
theorem abP{t a b:Expr}{pos:Pos}(aY:hV aa C n t)(bu:cg aa C n a)(al:cg aa C n b):cg aa C n (.IfExp t a b pos):=λenv ns loc σ ρ s A aQ F i=>by
 rw[arm_eval_IfExp];exact ah.cond (aY env ns loc σ ρ s A aQ F i) (λa0 aZ H tk bo bO=>bu env ns loc a0 aZ _ A aQ (F.eV bO) bo) (λa0 aZ H tk bo bO=>al env ns loc a0 aZ _ A aQ (F.eV bO) bo)
theorem TN{t a b:Expr}{pos:Pos}(aY:hV aa C n t)(bu:hV aa C n a)(al:hV aa C n b):hV aa C n (.IfExp t a b pos):=λenv ns loc σ ρ s A aQ F i=>by
 rw[arm_isTrue_IfExp];exact ah.cond (aY env ns loc σ ρ s A aQ F i) (λa0 aZ H tk bo bO=>bu env ns loc a0 aZ _ A aQ (F.eV bO) bo) (λa0 aZ H tk bo bO=>al env ns loc a0 aZ _ A aQ (F.eV bO) bo)
theorem TM(aI:hV aa C n x):hV aa C n (.UnaryOp .Not x pos):=λenv ns loc σ ρ s A aQ F i=>by
 rw[arm_isTrue_UnaryOp];refine ah.bind (aI env ns loc σ ρ s A aQ F i) λb a0 aZ H tk kR bo bO r=>?_;cases r;exact ah.ret bo ab
variable (aa C n) in
def zl(aT:List Expr):Prop:=∀(op:BoolOp) (env:Env) (ns:ct) (loc:Loc) (σ:aq) (ρ:Map) (s:bp) (A:Around),eh aa A n C.calm->c9 aa env ns loc ρ s.heap->Inv aa σ ρ s.heap ->
 ah aa [] ρ s A sd (allTrue op aT env) (Ac C aT op ns loc σ)
variable (aa C n) in
def zE(aT:List Expr):Prop:=∀(op:BoolOp) (pos:Pos) (env:Env) (ns:ct) (loc:Loc) (σ:aq) (ρ:Map) (s:bp) (A:Around),eh aa A n C.calm->c9 aa env ns loc ρ s.heap->Inv aa σ ρ s.heap ->
 ah aa [] ρ s A cM (boolOp pos op (evalEach aT env)) (B1 C aT op ns loc σ)
theorem TR:zl aa C n []:=λop env ns loc σ ρ s A aQ F i=>ah.ret i ab
theorem TS(he:hV aa C n e)(aP:zl aa C n r):zl aa C n (e::r):=λop env ns loc σ ρ s A aQ F i=>by
 rw[arm_allTrue_cons];refine ah.bind (he env ns loc σ ρ s A aQ F i) λb a0 aZ H tk kR bo bO e=>?_;cases e;cases op <;> cases b
 ·exact ah.ret bo ab
 ·exact aP _ env ns loc a0 aZ _ A aQ (F.eV bO) bo
 ·exact aP _ env ns loc a0 aZ _ A aQ (F.eV bO) bo
 ·exact ah.ret bo ab
theorem TQ(h:zl aa C n aT):hV aa C n (.BoolOp op aT pos):=λenv ns loc σ ρ s A aQ F i=>by
 rw[arm_isTrue_BoolOp];exact h op env ns loc σ ρ s A aQ F i
theorem ab1:zE aa C n []:=λop pos env ns loc σ ρ s A aQ F i=>aS
theorem ab2(he:cg aa C n e)(aP:zE aa C n r):zE aa C n (e::r):=λop pos env ns loc σ ρ s A aQ F i=>by
 induction r using List.casesOn with
 |nil=>
  exact he env ns loc σ ρ s A aQ F i
 |cons aO r=>
  rw[RM,RM];refine ah.bind (he env ns loc σ ρ s A aQ F i) λa a0 aZ dQ d9 ag bo bO b3=>?_;refine ah.standAt (ah.bind (ah.holding (ah.truth bo b3)) λb cE eA d2 ee kR dz d8 e=>?_);cases e;have aU:=aP op pos env ns loc cE eA (At d2 ee s) A aQ ((F.eV bO).eV d8) dz;rw[RM]at aU;cases op <;> cases b
  ·exact ah.ret dz (b3.ext d8)
  ·exact aU
  ·exact aU
  ·exact ah.ret dz (b3.ext d8)
theorem abW(h:zE aa C n aT):cg aa C n (.BoolOp op aT pos):=λenv ns loc σ ρ s A aQ F i=>by
 rw[arm_eval_BoolOp];exact h op pos env ns loc σ ρ s A aQ F i
theorem Ez(h:∀v p,e≠.Starred v p):fL (e::r) env=(aH,eval e env)::fL r env:=by
 cases e <;> first|rfl|exact absurd ab (h _ _)
theorem Hc:nv aa C n []:=λenv ns loc σ ρ s A pos aQ F i=>ah.ret i .nil
theorem BZ(he:cg aa C n e)(aP:nv aa C n r):nv aa C n (e::r):=λenv ns loc σ ρ s A pos aQ F i=>by
 refine(?_:ah aa [] ρ s A H6 _ ((ev C e ns loc>>=λv=>kL C r ns loc>>=λvs=>pure (v::vs)) σ));by_cases cZ:∃v p,e=.Starred v p
 ·obtain⟨v,p,rfl⟩:=cZ;have:ev C (.Starred v p) ns loc σ=.bad:=rfl;rw[cS this];exact aS
 ·rw[Ez (λv p bg=>cZ ⟨v,p,bg⟩)];refine(?_:ah aa [] ρ s A H6 (spliced ((aH,eval e env)::backTo pos (fL r env))) _);have e:spliced ((aH,eval e env)::backTo pos (fL r env))=(eval e env>>=λv=>holding [v] (spliced (backTo pos (fL r env)))>>=λvs=>cv (v::vs)):=rfl;rw[e];refine ah.bind (he env ns loc σ ρ s A aQ F i) λa a0 aZ dQ d9 ag bo bO b3=>?_;refine ah.bind (ah.holding (aP env ns loc a0 aZ _ A pos aQ (F.eV bO) bo)) λb cE eA d2 ee ai dz d8 g8=>?_;exact ah.ret dz (.cons (b3.ext d8) g8)
theorem abO(h:nv aa C n aT):cg aa C n (.List aT pos):=λenv ns loc σ ρ s A aQ F i=>by
 rw[arm_eval_List];refine ah.standAt (ah.bind (h env ns loc σ ρ s A pos aQ F i) λl a0 aZ dQ d9 vs bo bO b3=>?_);exact ah.ite λay=>ah.newList bo b3 ay
theorem abK(h:nv aa C n aT):cg aa C n (.Tuple aT k pos):=λenv ns loc σ ρ s A aQ F i=>by
 rw[arm_eval_Tuple];refine ah.standAt (ah.bind (h env ns loc σ ρ s A pos aQ F i) λl a0 aZ dQ d9 vs bo bO b3=>?_);exact ah.ite λay=>ah.newTuple bo b3 ay
def Dg(σ:aq)(x:V):Prop:=(∃l,x=.tup l)\/(∃t,x=.str t)\/∃m,x=.ref m/\((∃l,σ[m]? =I (.list l))\/(∃v l,σ[m]? =I (.dict v l))\/∃v l,σ[m]? =I (.et v l))
theorem aaI(i:Inv aa σ ρ s.heap)(r:Rel ρ s.heap v x)(aI:Dg σ x)(h:Q aH s) :
  a3 (bk aa.prog aa.w) A (getitemInPython v) Q E s:=by
 have key:∀(T id:String),s.TypeIs v T->typeLookup (.type T) "__getitem__" = pure (I (.builtin id))->a3 (bk aa.prog aa.w) A (getitemInPython v) Q E s:=by
  intro T id cq aj;rw[getitemInPython_of_ne cq.not_modules];exact aJ (zI cq aj (bQ h))
 rcases aI with ⟨l,rfl⟩|⟨t,rfl⟩|⟨m,rfl,⟨l,b4⟩|⟨_,l,b4⟩|⟨_,l,b4⟩⟩
 ·cases r with
  |tup _ g _ _=>exact key "tuple" _ (lj g).typeIs Dl.lookup
 ·cases r with
  |str _ t _=>exact key "str" _ (IL s _ t) F.slot_str_getitem.lookup
 ·cases r with
  |ref bK=>
   obtain⟨vs,k,g,_,_⟩:=i.list b4 bK;exact key "list" _ (gd g).typeIs slot_list_getitem.lookup
 ·cases r with
  |ref bK=>
   obtain⟨_,_,bY,hd,_,_⟩:=i.dict b4 bK;exact key "dict" _ hd.typeIs ajb.lookup
 ·cases r with
  |ref bK=>
   obtain⟨_,_,bY,hd,_,_⟩:=i.et b4 bK;exact key "dict" _ hd.typeIs ajb.lookup
theorem YY(h:item x y σ≠.bad):Dg σ x:=by
 induction x using V.casesOn with
 |tup l=>exact .inl ⟨_,ab⟩
 |str t=>exact .inr (.inl ⟨_,ab⟩)
 |ref m=>
  refine .inr (.inr ⟨m,ab,?_⟩);have h:(hF m>>=λo=>match o with|.list l=>Bj l y|.dict _ l=>bE ((keyOf y).bind (ez l))|.et _ l=>bE ((lT y).bind (gL l))|_=>M.bad) σ≠.bad:=h
  induction e:σ[m]? with
  |none=>exact absurd (cS (by rw[nh,e])) h
  |some o=>
   rw[aN (a:=o) (af:=σ) (by rw[nh,e])]at h
   induction o with
   |list l=>exact .inl ⟨l,ab⟩
   |dict v l=>exact .inr (.inl ⟨v,l,ab⟩)
   |inst _ _=>exact absurd ab h
   |bI _=>exact absurd ab h
   |et v l=>exact .inr (.inr ⟨v,l,ab⟩)
   |cache=>exact absurd ab h
   |exc _=>exact absurd ab h
 |none=>exact absurd ab h
 |bool _=>exact absurd ab h
 |int _=>exact absurd ab h
theorem VA{lo aR:Option Int}{x:V}(h:iP lo aR x σ≠.bad):Dg σ x:=by
 induction x using V.casesOn with
 |tup l=>exact .inl ⟨_,ab⟩
 |str t=>exact .inr (.inl ⟨_,ab⟩)
 |ref m=>
  refine .inr (.inr ⟨m,ab,.inl ?_⟩);have h:(e8 m>>=λl=>bP (.list (cut l lo aR))) σ≠.bad:=h
  induction e:σ[m]? with
  |none=>exact absurd (cS (by rw[iD,e])) h
  |some o=>induction o using O.casesOn with
   |list l=>exact⟨l,ab⟩
   |dict _ _=>exact absurd (cS (by rw[iD,e])) h
   |inst _ _=>exact absurd (cS (by rw[iD,e])) h
   |bI _=>exact absurd (cS (by rw[iD,e])) h
   |et _ _=>exact absurd (cS (by rw[iD,e])) h
   |cache=>exact absurd (cS (by rw[iD,e])) h
   |exc _=>exact absurd (cS (by rw[iD,e])) h
 |none=>exact absurd ab h
 |bool _=>exact absurd ab h
 |int _=>exact absurd ab h
theorem ah.Ke{value slice:Expr}{o i:aw}{x:V}{r:Res V}{ops:List aw}(de:Inv aa σ ρ s.heap)(V1:Rel ρ s.heap o x)(ao:r≠.bad->Dg σ x)
  (aD:subscripted slice aH o i=PySem.operate ops (getItem o i)) (h:ah aa W ρ s A cM (getItem o i) r) :
  ah aa W ρ s A cM (getitemInPython o>>=λb=>subscripted slice b o i>>=λr=>letTemporaryGo value o r>>=λae=>cv r) r:=by
 have go:∀(Q:aw->bp->Prop) (E:aw->bp->Prop),r≠.bad->a3 (bk aa.prog aa.w) A (getItem o i) Q E s->a3 (bk aa.prog aa.w) A (getitemInPython o>>=λb=>subscripted slice b o i>>=λr=>letTemporaryGo value o r>>=λae=>cv r) Q E s:=λQ E aP h=>by
  refine aJ (aaI de V1 (ao aP) ?_);rw[aD];exact aJ (ai3 (cH h (λb s' hp=>aJ (ai6 (bQ hp))) λae az x=>x))
 induction r with
 |bad=>exact aS
 |exc _ _=>exact go _ _ nofun h
 |ok v af=>exact go _ _ nofun h
theorem abL{lo aR st:Option Expr}{p:Pos}:ev C (.Slice lo aR st p) ns loc=M.bad:=rfl
theorem Oo{o i:Expr}{pos:Pos}(ho:cg aa C n o)(aR:cg aa C n i)(he:∀(ns:ct) (loc:Loc),(ev C o ns loc>>=λa=>ev C i ns loc>>=λb=>item a b)=ev C (.Subscript o i pos) ns loc):cg aa C n (.Subscript o i pos):=λenv ns loc σ ρ s A aQ F de=>by
 rw[aji,<-he];refine ah.bind (ho env ns loc σ ρ s A aQ F de) λa a0 aZ dQ d9 ag bo bO b3=>?_;by_cases me:∃lo aR st p,i=.Slice lo aR st p
 ·refine aE λkk=>?_;obtain⟨lo,Gz,st,p,rfl⟩:=me;refine kk ?_;rw[abL,cS ab];exact aS
 ·refine ah.bind (ah.holding (aR env ns loc a0 aZ _ A aQ (F.eV bO) bo)) λb cE eA d2 ee ai dz d8 g8=>?_;refine ah.standAt (ah.Ke (ops:=[ag,ai]) dz (b3.ext d8) YY ?_ (ah.item dz aQ.u (b3.ext d8) g8));cases i <;> first|rfl|exact absurd ⟨_,_,_,_,ab⟩ me
variable (aa C n) in
def oz(o:Option Expr):Prop:=∀(env:Env) (ns:ct) (loc:Loc) (σ:aq) (ρ:Map) (s:bp) (A:Around),eh aa A n C.calm->c9 aa env ns loc ρ s.heap->Inv aa σ ρ s.heap ->
 ah aa [] ρ s A cM (valueOrNone (evalOpt o env)) (tL C o ns loc σ)
theorem ab0:oz aa C n U:=λenv ns loc σ ρ s A aQ F i=>ah.ret i .none
theorem abZ(h:cg aa C n e):oz aa C n (I e):=λenv ns loc σ ρ s A aQ F i=>h env ns loc σ ρ s A aQ F i
def ad4:V×V->Map->Heap->aw->Prop:=λq ρ h de=>∃eo fM lR,de=.ref eo/\h.IsSliceOf eo fM lR .none/\Rel ρ h fM q.1/\Rel ρ h lR q.2
theorem Vz{lo aR:Option Expr}{p:Pos}(hlo:oz aa C n lo)(yy:oz aa C n aR)(aQ:eh aa A n C.calm)(F:c9 aa env ns loc ρ s.heap)(de:Inv aa σ ρ s.heap) :
  ah aa [] ρ s A ad4 (eval (.Slice lo aR U p) env) ((tL C lo ns loc>>=λl=>tL C aR ns loc>>=λh=>(cv (l,h):M (V×V))) σ):=by
 rw[arm_eval_Slice];refine ah.bind (hlo env ns loc σ ρ s A aQ F de) λa a0 aZ dQ d9 ag bo bO b3=>?_;refine ah.bind (ah.holding (yy env ns loc a0 aZ _ A aQ (F.eV bO) bo)) λb cE eA d2 ee ai dz d8 g8=>?_;refine ah.grown (s:=At d2 ee s) dz λQ E br=>?_;refine aJ (ir (bQ (pT (T := "slice") ?_ (by refine(?_:(3:Nat)<=bz+2);decide))));have ao:∀b o,d2.get? b=I o->(d2.push { cls:=.type "slice",data:=.fields #[ag,ai,.none] }).get? b=I o:=λb o e=>ed _ e;exact br _ _ ee ao ⟨_,ag,ai,ab,alL ..,(b3.ext d8).sub (Sub.keeps ao),g8.sub (Sub.keeps ao)⟩
theorem abM{o:Expr}{lo aR:Option Expr}{p pos:Pos}(ho:cg aa C n o)(hlo:oz aa C n lo)(yy:oz aa C n aR):cg aa C n (.Subscript o (.Slice lo aR U p) pos):=λenv ns loc σ ρ s A aQ F de=>by
 rw[aji];show ah aa [] ρ s A cM _ ((ev C o ns loc>>=λa=>(tL C lo ns loc>>=λl=>tL C aR ns loc>>=λh=>(cv (l,h):M (V×V)))>>=λq=>bound q.1>>=λl'=>bound q.2>>=λh'=>iP l' h' a) σ);refine ah.bind (ho env ns loc σ ρ s A aQ F de) λa a0 aZ dQ d9 ag bo bO b3=>?_;refine ah.bind (ah.holding (Vz hlo yy aQ (F.eV bO) bo)) λq cE eA d2 ee ai dz d8 g8=>?_;refine aE λkk=>?_;obtain⟨eo,fM,lR,rfl,aD,V7,xN⟩:=g8;refine kk (ah.standAt (ah.bound (s:=At d2 ee s) V7 λl' m1=>ah.bound (s:=At d2 ee s) xN λh' pu=>?_));exact ah.Ke (ops:=[.ref eo,ag]) dz (b3.ext d8) VA ab (ah.slice (s:=At d2 ee s) dz (b3.ext d8) aD m1 pu)
variable (aa tx C n) in
def zG:Prop:=∀(f:Str) (fn:cX) (a:Addr) (args:List V) (vals:List aw) (σ:aq) (ρ:Map) (s:bp) (A:Around),wC aa A n C.calm->tx.at f=I fn->zC aa.heap fn a->b9 ρ s.heap vals args->Inv aa σ ρ s.heap ->
 ah aa [] ρ s A cM (call (.ref a) vals) (C.call f args σ)
theorem noStar:(∀e∈aT,∀v p,e≠.Starred v p)->(backTo pos (fL aT env)).any (·.1)=aH/\(backTo pos (fL aT env)).all (λx=>!x.1)=ak:=by
 induction aT with
 |nil=>intro _;exact⟨ab,ab⟩
 |cons e r au=>
  intro h;rw[Ez (h e (by simp))];obtain⟨h1,h2⟩:=au λbg Z5=>h bg (by simp [Z5]);refine⟨?_,?_⟩
  ·refine(?_:(aH || (backTo pos (fL r env)).any (·.1))=false);rw[h1];rfl
  ·refine(?_:(ak&&(backTo pos (fL r env)).all _)=ak);rw[h2];rfl
theorem Fm(h:rq aT=ak):∀e∈aT,∀v p,e≠.Starred v p:=λe he v p eq=>by
 have:=ec.mp h e he;replace this:=eq ▸ this;exact fU this
theorem ah.args{α:Type}{f:aw}{first:List aw}{aT:List Expr}{pos:Pos}{k:List V->M α}{R:α->Map->Heap->aw->Prop}(cZ:rq aT=ak)(qq:nv aa C n aT)(aQ:eh aa A n C.calm)(F:c9 aa env ns loc ρ s.heap)(i:Inv aa σ ρ s.heap)
  (NG:∀(Q:aw->bp->Prop) (E:aw->bp->Prop),(∀e∈aT,∀v p,e≠.Starred v p) ->
   a3 (bk aa.prog aa.w) A (spliced (backTo pos (fL aT env))) (λvs s₁=>(∀b o,aa.get? b=I o->s₁.heap.get? b=I o)/\a3 (bk aa.prog aa.w) A (call f (first++vs)) Q E s₁) E s->a3 (bk aa.prog aa.w) A (callWith pos f first (backTo pos (fL aT env)) []) Q E s)
  (ao:∀l a0 aZ H tk vs,Inv aa a0 aZ H->Ext [] ρ s.heap aZ H->b9 aZ H vs l->ah aa [] aZ (At H tk s) A R (call f (first++vs)) (k l a0)) :
  ah aa [] ρ s A R (callWith pos f first (backTo pos (fL aT env)) []) ((kL C aT ns loc>>=k) σ):=by
 have this:=qq env ns loc σ ρ s A pos aQ F i
 induction h1:kL C aT ns loc σ with
 |bad=>rw[cS h1];exact aS
 |exc _ _=>
  rw[e1 h1];rw[h1]at this;exact NG _ _ (Fm cZ) (cH this (λae az f=>f.elim) λae az x=>x)
 |ok l a0=>
  rw[aN h1];rw[h1]at this;have go:∀(Q:aw->bp->Prop) (E:aw->bp->Prop),(∀vs aZ H tk,Ext [] ρ s.heap aZ H->ah aa [] aZ (At H tk s) A R (call f (first++vs)) (k l a0)->a3 (bk aa.prog aa.w) A (call f (first++vs)) Q E (At H tk s)) ->
    a3 (bk aa.prog aa.w) A (callWith pos f first (backTo pos (fL aT env)) []) Q E s:=λQ E aL=>by
   refine NG _ _ (Fm cZ) (cH this (λvs s₁ hp=>?_) λae az x=>x.elim);obtain⟨aZ,H,tk,rfl,bo,bO,b3⟩:=hp;exact⟨bo.base,aL vs aZ H tk bO (ao l a0 aZ H tk vs bo bO b3)⟩
  induction h2:k l a0 with
  |bad=>exact aS
  |exc _ _=>exact go _ _ λvs aZ H tk x aD=>by rw[h2]at aD;exact cH aD (λae az f=>f) λae az hp=>hp.after x
  |ok v cE=>exact go _ _ λvs aZ H tk x aD=>by rw[h2]at aD;exact cH aD (λae az hp=>hp.after x) λae az f=>f
end
section
variable {h h':Heap}{mg mb:Str->Option aw}{n:Nat}
theorem eh.weak{q:Bool}(r:eh aa A n q):wC aa A n q:=⟨r.handled,pW r.depth,fz (zN (by decide) _) r.units,r.frames⟩
theorem eh.make{q:Bool}{K:Addr}{vals:List aw}(r:eh aa A n q):wC aa (A.under (.builtin "type.__call__" ⟨.ref K::vals,[]⟩)) n q where
 frames:=r.frames
 handled:=r.handled
 depth:=by exact show A.depth+1+2*n<=recursionLimit from gq 0xC51082120001018212884400021 ab r.depth
 units:=by
  have e:(Code.builtin "type.__call__" ⟨.ref K::vals,[]⟩).cUnits<=10:=by refine(?_:1<=10);decide
  refine(?_:A.units+(Code.builtin "type.__call__" ⟨.ref K::vals,[]⟩).cUnits+16*n+290<cLine);have:=r.units;exact FD 0x1C2148BC13404428000004070852CF04D0114000042A09021 ab e this
theorem N9(q:σ[k]? =I (.inst c j))(e:qu σ k=I l):σ[j]? =I (.bI l):=by
 unfold qu at e;replace e:=q ▸ e;dsimp only at e
 induction dG:σ[j]? with
 |none=>replace e:=dG ▸ e;exact bh e
 |some o=>
  replace e:=dG ▸ e
  induction o with
  |bI l'=>cases e;rfl
  |_=>exact bh e
structure Iq(aa:dE)(ρ:Map)(h:Heap)(c:Str)(j:Nat)(l:List (Str×V))(a:Addr)(K cV:Addr)(d:Nat)(fj:Str->Option aw):Prop where
 cls:wL aa c K
 inst:h.Inst a K fj
 dict:∀o,h.get? a=I o->o.dict=I cV
 at_:ρ[j]? =I (cV,d)
 ns:h.Ns1 cV fj
 ne:cV≠a
 bI:pQ ρ h fj l
 len:l.length<=bz
inductive Q4(aa:dE)(ρ:Map)(h:Heap)(c:Str)(j:Nat)(l:List (Str×V))(a:Addr):Prop
 |mk(K cV:Addr)(d:Nat)(fj:Str->Option aw)(q:Iq aa ρ h c j l a K cV d fj):Q4 aa ρ h c j l a
theorem Inv.F2(i:Inv aa σ ρ h){k j d:Nat}{c:Str}{l:List (Str×V)}{a:Addr}(ax:σ[k]? =I (.inst c j))(aO:σ[j]? =I (.bI l))(bK:ρ[k]? =I (a,d)):Q4 aa ρ h c j l a:=by
 refine aE λkk=>?_;obtain⟨K,o,cV,eb,ay,g,h1,h2,h3,bf,cP⟩:=i.objs k _ _ ax bK;obtain⟨aj,fj,aM,f⟩:=i.objs j _ _ aO cP;refine kk ?_;exact⟨K,cV,eb,fj,ay.2,⟨o,g,h1,h2,.inr ⟨cV,h3,bf,aM⟩⟩,λo' cB=>by replace cB:=g ▸ cB;cases cB;exact h3,cP,aM,bf,f,aj⟩
theorem abl(e:excAt σ k=I q):σ[k]? =I (.exc q):=by
 unfold excAt at e
 induction h:σ[k]? with
 |none=>rw[h]at e;exact bh e
 |some o=>
  rw[h]at e
  induction o with
  |exc c=>cases e;rfl
  |_=>exact bh e
theorem handed(r:Rel ρ h v x):handedOut v=pure v:=by cases r <;> rfl
theorem ah.cc{m:Str}{v:aw}{x:V}(B:gF tx mg mb aa.heap)(gg:C.cls=tx.cls)(i:Inv aa σ ρ s.heap)(r:Rel ρ s.heap v x):ah aa W ρ s A cM (getAttr v m ak) (cc C m x σ):=by
 induction r using Rel.cs with
 |@ref a d k bK=>
  refine ah.ask λy bL=>?_;refine bind_some bL λc h1 bL=>?_;refine bind_some bL λms h2 bL=>?_;by_cases hm:ms.2.contains m=ak
  case neg=>replace bL:=bH hm ▸ bL;exact bh bL
  replace bL:=bj hm ▸ bL;refine aE λkk=>?_;refine bind_some bL λl h3 bL=>?_;obtain⟨j,ax⟩:=yl h1;obtain⟨K,cV,eb,fj,q⟩:=i.F2 ax (N9 ax h3) bK;replace h2:=gg ▸ h2;obtain⟨C2,N,dk,hg,mJ⟩:=B.own c ms h2;replace hg:=q.cls.at B.g ▸ hg;cases hg;obtain⟨f1,f2⟩:=mJ.fld m (w7.mp hm);obtain⟨w,hw,rh⟩:=q.bI.has m y bL;have X:=mJ.cls.keeps i.base;obtain⟨nm,E2,bs,sn,sub,col,gR,iC,fC,gC,lh,lg,dK⟩:=wi X;obtain⟨aU,g,mu,t,os⟩:=s;exact kk (ah.same i λQ E br=>load_attr dK X.ns mJ.ga f1 f2 q.inst hw (handed rh) (br _ _ rh))
 |_=>exact aS
theorem WJ(ax:σ[k]? =I (.inst c j))(aO:σ[j]? =I (.bI l)):u7 k m v σ=(if 0<j/\l.length+1<=bz then .ok () (σ.set j (.bI (hH l m v))) else .bad):=by
 show(match σ[k]? with
 |some (.inst _ j)=>(match σ[j]? with
  |some (.bI l)=>if 0<j/\l.length+1<=bz then Res.ok () (σ.set j (.bI (hH l m v))) else .bad
  |_=>.bad)
 |_=>.bad)=_
 rw[ax];dsimp only;rw[aO]
theorem WK(ax:σ[k]? =I (.inst c j))(aO:∀l,σ[j]? ≠ I (.bI l)):u7 k m v σ=.bad:=by
 show(match σ[k]? with
 |some (.inst _ j)=>(match σ[j]? with
  |some (.bI l)=>if 0<j/\l.length+1<=bz then Res.ok () (σ.set j (.bI (hH l m v))) else .bad
  |_=>.bad)
 |_=>.bad)=_
 rw[ax];dsimp only
 induction q:σ[j]? with
 |none=>rfl
 |some o=>induction o with
  |bI l=>exact absurd q (aO l)
  |_=>rfl
theorem Oe:(hH l m x).lookup y=if y=m then I x else l.lookup y:=by
 unfold hH
 induction e:(l.lookup m).isSome with
 |true=>
  rw[bj ab]
  induction l with
  |nil=>exact fU e
  |cons p l au=>
   obtain⟨k,v⟩:=p;rw[gI]at e;by_cases ao:k=m
   ·subst ao;rw[eE,bj (jJ k),gI,gI]
    induction q:y==k with
    |true=>rw[bj (eq_of_beq q)]
    |false=>
     have bL:¬y=k:=λh=>by rw[h,jJ]at q;exact nE q
     rw[bH bL];have:∀l:List (Str×V),(l.map λp=>if (p.1==k)=ak then (p.1,x) else p).lookup y=l.lookup y:=by
      intro l
      induction l with
      |nil=>rfl
      |cons p l au=>
       rw[eE];by_cases hp:(p.1==k)=ak
       ·rw[bj hp,gI,au];obtain⟨a,b⟩:=p;have hp:a=k:=eq_of_beq hp;subst hp;rw[gI,q]
       ·rw[bH hp,gI,gI,au]
     exact this l
   ·have hm:(m==k)=aH:=zL (lL ao);rw[hm]at e;rw[eE,bH (by rw[zL ao];exact uy),gI,gI,au e]
    induction q:y==k with
    |true=>
     have bL:¬y=m:=λh=>ao ((eq_of_beq q).symm.trans h);refine(?_:I v=_);rw[bH bL]
    |false=>rfl
 |false=>
  rw[bH uy,R5]
  have e:l.lookup m=U:=by induction q:l.lookup m with
   |none=>rfl
   |some _=>rw[q]at e;exact nE e
  by_cases bL:y=m
  ·subst bL;rw[e,bj ab,gI,jJ];rfl
  ·rw[bH bL,gI,zL bL];refine(?_:(l.lookup y).or U=_);rw[aju]
theorem abf(l:List (Str×V))(m:Str)(x:V):(hH l m x).length<=l.length+1:=by
 unfold hH
 split
 ·rw[c3];exact jL _
 ·rw[dM];exact cI _
theorem pQ.put(f:pQ ρ h fj l)(r:Rel ρ h v x):pQ ρ h (λy=>if y=m then I v else fj y) (hH l m x) where
 has:=λy a e=>by
  replace e:=Oe ▸ e;by_cases q:y=m
  ·rw[bj q]at e ⊢;cases e;exact⟨v,ab,r⟩
  ·rw[bH q]at e ⊢;exact f.has y a e
 no:=λy e=>by
  replace e:=Oe ▸ e;by_cases q:y=m
  ·replace e:=bj q ▸ e;exact lV e
  ·rw[bH q]at e ⊢;exact f.no y e
theorem pQ.sub{aA:Map}{fj:Str->Option aw}{l:List (Str×V)}(f:pQ ρ h fj l)(x:Sub ρ h aA h'):pQ aA h' fj l:=⟨λy a e=>by obtain⟨v,bg,e4⟩:=f.has y a e;exact⟨v,bg,e4.sub x⟩,f.no⟩
theorem pQ.within(f:pQ ρ h fj l):Within fj (l.map (·.1)):=λy bL=>by
 induction e:l.lookup y with
 |none=>exact absurd (f.no y e) bL
 |some a=>exact iK.mpr ⟨_,mem_of_lookup e,ab⟩
theorem Iq.put{K:Addr}{g:Array GenState}{mu:Drawn}{t:Nat}{os:OsState}{m:Str}{w:aw}{y:V}(q:Iq aa ρ h c j l a K cV eb fj)(i:Inv aa σ ρ h)(bw:0<j/\l.length+1<=bz)(rh:Rel ρ h w y)
  (st:∀{Q:Unit->bp->Prop}{E:aw->bp->Prop},(∀h' ei,h'.Inst a K (λy=>if y=m then I w else fj y) ->
   (∀b o,b≠a->(∀nO cV,h.get? a=I nO->nO.dict=I cV->b≠cV)->h.get? b=I o->h'.get? b=I o) ->
   (∀nO,h.get? a=I nO->∃oW,h'.get? a=I oW/\oW.cls=nO.cls/\oW.data=nO.data/\oW.slots=nO.slots/\∀cV,nO.dict=I cV->oW.dict=I cV)->Q () ⟨h',g,mu,ei,os⟩)->a3 (bk aa.prog aa.w) A (setAttr (.ref a) m w) Q E ⟨h,g,mu,t,os⟩) :
  ah aa W ρ ⟨h,g,mu,t,os⟩ A (λae az bS fc=>True) (setAttr (.ref a) m w) (Res.ok () (σ.set j (.bI (hH l m y)))):=by
 refine st λh' ei aiH ao vG=>?_;refine aE λkk=>?_;obtain⟨ba,g,By,_⟩:=id q.inst;refine kk ?_;have BD:∀b o,b≠cV->h.get? b=I o->h'.get? b=I o:=λb o al e=>by
  by_cases NL:b=a
  ·subst NL;refine aE λkk=>?_;obtain⟨oW,tC,c0,dY,j6,i8⟩:=vG o e;have Hr:=i8 cV (q.dict o e);have Hs:=q.dict o e;obtain⟨jV,ky,u9,rm⟩:=o;obtain⟨dx,eH,oV,lX⟩:=oW;refine kk ?_;cases c0;cases dY;cases j6;have Hr:eH=I cV:=Hr;have Hs:ky=I cV:=Hs;rw[tC,Hr,Hs]
  ·exact ao b o NL (λnO aln abg iX=>by replace iX:=q.dict nO abg ▸ iX;cases iX;exact al) e
 have mh:h'.Ns1 cV (λy=>if y=m then I w else fj y):=by
  refine aE λkk=>?_;obtain⟨o',bg,_,_,kI⟩:=aiH;obtain⟨oW,tC,_,_,_,i8⟩:=vG ba g;have i8:=i8 cV (q.dict ba g);refine kk ?_;replace bg:=tC ▸ bg;cases bg;rcases kI with ⟨vK,_⟩|⟨alq,yC,_,Gm⟩
  ·replace vK:=i8 ▸ vK;exact lV vK
  ·replace yC:=i8 ▸ yC;cases yC;exact Gm
 have ek:=i.put (W:=W) (v':=eb+1) (o:=.bI (hH l m y)) (h':=h') bw.1 q.at_ (jL _) (λe=>absurd e (w0 _)) BD
  (by obtain⟨_,_,_,g,d,_⟩:=q.ns;obtain⟨_,_,_,cB,eb,_⟩:=id mh;exact FC g ⟨_,_,d⟩ cB ⟨_,_,eb⟩) λx=>⟨b7 (abf ..) bw.2,_,mh,(q.bI.put rh).sub x.sub⟩
 exact⟨_,h',ei,ab,ek.1,ek.2,aS⟩
theorem ah.u7{m:Str}{w:aw}{y:V}{k d:Nat}{a:Addr}(B:gF tx mg mb aa.heap)(gg:C.cls=tx.cls)(i:Inv aa σ ρ s.heap)(bK:ρ[k]? =I (a,d))(rh:Rel ρ s.heap w y)(bL:BW C m σ k=I u):ah aa W ρ s A (λae az bS fc=>True) (setAttr (.ref a) m w) (u7 k m y σ):=by
 refine aE λkk=>?_;refine bind_some bL λc h1 bL=>?_;refine bind_some bL λms h2 bL=>?_;refine kk ?_;by_cases hm:ms.2.contains m=ak
 case neg=>replace bL:=bH hm ▸ bL;exact bh bL
 obtain⟨j,ax⟩:=yl h1;by_cases aj:∃l,σ[j]? =I (.bI l)
 case neg=>rw[WK ax λl e=>aj ⟨l,e⟩];exact aS
 obtain⟨l,aO⟩:=aj;rw[WJ ax aO];by_cases bw:0<j/\l.length+1<=bz
 case neg=>rw[bH bw];exact aS
 rw[bj bw];refine aE λkk=>?_;obtain⟨K,cV,eb,fj,q⟩:=i.F2 ax aO bK;replace h2:=gg ▸ h2;obtain⟨C2,N,dk,hg,mJ⟩:=B.own c ms h2;refine kk ?_;replace hg:=q.cls.at B.g ▸ hg;cases hg;refine aE λkk=>?_;obtain⟨f1,f2⟩:=mJ.fld m (w7.mp hm);have X:=mJ.cls.keeps i.base;obtain⟨nm,E2,bs,sn,sub,col,gR,iC,fC,gC,lh,lg,dK⟩:=wi X;obtain⟨ba,g,By,_⟩:=id q.inst;have Zl:a≠K:=λe=>by replace g:=dK ▸ e ▸ g;cases g;cases By
 obtain⟨aU,n8,mu,t,os⟩:=s;exact kk (q.put i bw rh λaL=>store_attr PySem.F.store_object dK X.ns mJ.VK f1 f2 Zl q.inst aL q.bI.within (by rw[c3];exact q.len))
theorem ah.d5{m:Str}{v w:aw}{x y:V}(B:gF tx mg mb aa.heap)(gg:C.cls=tx.cls)(i:Inv aa σ ρ s.heap)(r:Rel ρ s.heap v x)(rh:Rel ρ s.heap w y):ah aa W ρ s A (λae az bS fc=>True) (setAttr v m w) (d5 C m y x σ):=by
 induction r using Rel.cs with
 |@ref a d k bK=>exact ah.Ct λb bL=>ah.u7 B gg i bK rh bL
 |_=>exact aS
theorem Inv.s3{c:Str}{K x cV:Addr}(i:Inv aa σ ρ h)(ay:IF aa c K)(M:Heap.MadeObj h h' x cV K) :
  Inv aa (σ++[O.bI [],.inst c σ.length]) (ρ++[(cV,0),(x,0)]) h'/\Ext W ρ h (ρ++[(cV,0),(x,0)]) h':=by
 refine aE λkk=>?_;obtain⟨o,g,h1,h2,h3⟩:=M.inst;have hd:=M.dict o g;have aM:h'.Ns1 cV λae=>U:=by
  rcases h3 with ⟨h3,_⟩|⟨d,h3,_,aM⟩
  ·replace h3:=hd ▸ h3;exact lV h3
  ·replace h3:=hd ▸ h3;cases h3;exact aM
 have dD:cV≠x:=by
  rcases h3 with ⟨h3,_⟩|⟨d,h3,dD,_⟩
  ·replace h3:=hd ▸ h3;exact lV h3
  ·replace h3:=hd ▸ h3;cases h3;exact dD
 have dead:∀b,h.get? b=U->aa.get? b=U/\cT ρ b:=λb al=>by
  refine⟨?_,λp hp e=>?_⟩
  ·induction e:aa.get? b with
   |none=>rfl
   |some o=>replace al:=i.base _ _ e ▸ al;exact lV al
  ·obtain⟨cj,ax⟩:=i.alive hp;replace ax:=al ▸ (oD (e ..)) ▸ ax;exact bh ax
 obtain⟨bo,bO⟩:=i.new (W:=W) (o:=.bI []) M.keeps M.newD λae=>⟨iu _,_,aM,⟨λae az e=>(by exact bh e),λae az=>ab⟩⟩;obtain⟨tN,acF⟩:=dead x M.newX;have e:ρ++[(cV,0),(x,0)]=ρ++[(cV,0)]++[(x,0)]:=by rw[jM];rfl
 have bg:σ++[O.bI [],.inst c σ.length]=σ++[O.bI []]++[O.inst c σ.length]:=by rw[jM];rfl
 refine kk ?_;rw[e,bg];refine bo.more bO M.newX (λvs n e=>by replace e:=g ▸ e;cases e;cases h1) (λp hp=>?_) tN (i.x4 M.newX) ⟨K,o,cV,0,ay,g,h1,h2,hd,dD,?_⟩
 ·rcases hs.mp hp with hp|hp
  ·exact acF p hp
  ·rw[bT.mp hp];exact dD.symm
 ·rw[<-i.len,jM,mR (cI _),lN];rfl
theorem Pt{α:Type}{l:List α}{a b:α}:(l++[a,b])[l.length+1]? =I b:=by
 rw[mR (jL _),show l.length+1-l.length=1 from RZ ..];rfl
theorem ah.fv{c:Str}{ms:List Str×List Str}{K N:Addr}{dk:Str->Option aw}{vals:List aw}{vs:List V}(B:gF tx mg mb aa.heap)(mJ:OwnCls tx aa.heap c ms K N dk)(hg:mg c=I (.ref K))(dK:zG aa tx C n)(aQ:eh aa A n C.calm)(i:Inv aa σ ρ s.heap)(r:b9 ρ s.heap vals vs) :
  ah aa [] ρ s A cM (call (.ref K) vals) (Mine.Internal.fv C c vs σ):=by
 obtain⟨G6,fn,ak2,aR,a8,ok,ho,By⟩:=mJ.L8 _ mJ.init;have X:=mJ.cls.keeps i.base;obtain⟨nm,E2,bs,sn,sub,col,gR,iC,fC,gC,lh,lg,rM⟩:=wi X;have ay:IF aa c K:=⟨⟨N,dk,mJ.cls,mJ.cmp⟩,mg,B.g,hg⟩;refine(?_:ah aa [] ρ s A cM _ ((C.call (jr c "__init__") (.ref (σ.length+1)::vs)>>=λr=>vC r (cv (V.ref (σ.length+1)))) (σ++[O.bI [],.inst c σ.length])));obtain⟨aU,n8,mu,t,os⟩:=s;have go:∀{Q:aw->bp->Prop}{E:aw->bp->Prop},(∀h' x cV,Ext [] ρ aU (ρ++[(cV,0),(x,0)]) h'->ah aa [] (ρ++[(cV,0),(x,0)]) ⟨h',n8,mu,t,os⟩ (A.under (.builtin "type.__call__" ⟨.ref K::vals,[]⟩)) cM (call (.ref G6) (.ref x::vals)) (C.call (jr c "__init__") (.ref (σ.length+1)::vs) (σ++[O.bI [],.inst c σ.length])) ->
   a3 (bk aa.prog aa.w) (A.under (.builtin "type.__call__" ⟨.ref K::vals,[]⟩)) (call (.ref G6) (.ref x::vals)) (λr s'=>r=.none/\Q (.ref x) s') E ⟨h',n8,mu,t,os⟩)->a3 (bk aa.prog aa.w) A (call (.ref K) vals) Q E ⟨aU,n8,mu,t,os⟩:=λaL=>
  wpAny_call_obj_init PySem.F.objNew rM X.ns aR (i.base _ _ ho) By λh' x cV M=>by
   obtain⟨bo,bO⟩:=i.s3 (W:=[]) ay M;refine aL h' x cV bO (dK _ fn G6 _ _ _ _ ⟨h',n8,mu,t,os⟩ _ aQ.make a8 ok (.cons (.ref (d:=0) ?_) (r.ext bO)) bo);rw[<-i.len];exact Pt
 induction e:C.call (jr c "__init__") (.ref (σ.length+1)::vs) (σ++[O.bI [],.inst c σ.length]) with
 |bad=>rw[cS e];exact aS
 |exc _ _=>
  rw[e1 e];refine go λh' x cV bO aD=>?_;rw[e]at aD;exact cH aD (λae az f=>f.elim) λae az hp=>hp.after bO
 |ok v af=>
  rw[aN e]
  cases v with
  |none=>
   refine go λh' x cV bO aD=>?_;rw[e]at aD;refine cH aD (λb s' hp=>?_) λae az f=>f.elim;obtain⟨aA,eD,ei,rfl,dH,dm,dn⟩:=hp;cases dn;refine⟨ab,aA,eD,ei,ab,dH,bO.trans dm,Rel.ext dm (.ref (d:=0) ?_)⟩;rw[<-i.len];exact Pt
  |_=>exact aS
end
theorem Pp:iJ ("len" : Str)=I (.builtin "len"):=by decide +kernel
theorem Pq:iJ ("dict" : Str)=I (.type "dict"):=by decide +kernel
theorem Po:iJ ("list" : Str)=I (.type "list"):=by decide +kernel
theorem Pl:iJ ("tuple" : Str)=I (.type "tuple"):=by decide +kernel
theorem Pm:iJ ("sorted" : Str)=I (.builtin "sorted"):=by decide +kernel
theorem Pn:iJ ("min" : Str)=I (.builtin "min"):=by decide +kernel
theorem ado:iJ ("zip" : Str)=I (.type "zip"):=by decide +kernel
theorem adp:iJ ("reversed" : Str)=I (.type "reversed"):=by decide +kernel
theorem adq:iJ ("range" : Str)=I (.type "range"):=by decide +kernel
theorem adr:iJ ("enumerate" : Str)=I (.type "enumerate"):=by decide +kernel
section
variable {mg mb:Str->Option aw}
variable {loc:Loc}{n:Nat}
theorem yQ(cZ:∀e∈aT,∀v p,e≠.Starred v p)
  (h:a3 (bk aa.prog aa.w) A (spliced (backTo pos (fL aT env))) (λvs s'=>Q ⟨vs,[]⟩ s') E s):a3 (bk aa.prog aa.w) A (evalArgs f ak (backTo pos (fL aT env)) []) Q E s:=by
 induction aT using List.casesOn with
 |nil=>
  unfold evalArgs;refine(?_:a3 _ A (spliced []>>=_) Q E s);refine aJ (cH h (λvs s' h'=>?_) λae az x=>x);exact aJ (bQ (ir (aJ (bQ (aJ (bQ (bQ h')))))))
 |cons e r=>
  rw[Ez (cZ e (by simp))]at h ⊢;exact Calls.evalArgs_plain h
theorem ON{pos:Pos}{a:Addr}{o:Obj}{fd:FuncData}{first:List aw}{aT:List Expr}{Q:aw->bp->Prop}{E:aw->bp->Prop}(ho:aa.get? a=I o)(hd:o.data=.func fd)(cZ:∀e∈aT,∀v p,e≠.Starred v p)
  (h:a3 (bk aa.prog aa.w) A (spliced (backTo pos (fL aT env))) (λvs s₁=>(∀b o,aa.get? b=I o->s₁.heap.get? b=I o)/\a3 (bk aa.prog aa.w) A (call (.ref a) (first++vs)) Q E s₁) E s) :
  a3 (bk aa.prog aa.w) A (callWith pos (.ref a) first (backTo pos (fL aT env)) []) Q E s:=
 Calls.callWith_function (o:=o) (fd:=fd) (yQ cZ (cH h (λvs s₁ dv=>⟨⟨dv.1 _ _ ho,hd⟩,dv.2⟩) λae az x=>x))
theorem OO{pos:Pos}{id:String}{first:List aw}{aT:List Expr}{Q:aw->bp->Prop}{E:aw->bp->Prop}(cZ:∀e∈aT,∀v p,e≠.Starred v p)
  (h:a3 (bk aa.prog aa.w) A (spliced (backTo pos (fL aT env))) (λvs s₁=>(∀b o,aa.get? b=I o->s₁.heap.get? b=I o)/\a3 (bk aa.prog aa.w) A (call (.builtin id) (first++vs)) Q E s₁) E s) :
  a3 (bk aa.prog aa.w) A (callWith pos (.builtin id) first (backTo pos (fL aT env)) []) Q E s:=
 Calls.callWith_builtin (noStar cZ).1 (yQ cZ (cH h (λvs s₁ dv=>dv.2) λae az x=>x))
theorem OM(cZ:∀e∈aT,∀v p,e≠.Starred v p)
  (h:a3 (bk aa.prog aa.w) A (spliced (backTo pos (fL aT env))) (λvs s₁=>(∀b o,aa.get? b=I o->s₁.heap.get? b=I o)/\a3 (bk aa.prog aa.w) A (call (.type T) (first++vs)) Q E s₁) E s) :
  a3 (bk aa.prog aa.w) A (callWith pos (.type T) first (backTo pos (fL aT env)) []) Q E s:=
 alJ (noStar cZ).1 (yQ cZ (cH h (λvs s₁ dv=>dv.2) λae az x=>x))
theorem ah.blt(ek:aa.heap.NoLimit)(aU:A.handled=U)(al:iJ f=I rR)(i:Inv aa σ ρ s.heap)(r:b9 ρ s.heap vals vs) :
  ah aa W ρ s A cM (call rR vals) (blt f vs σ):=by
 cases r with
 |nil=>exact aS
 |@cons a as x xs bl sN=>cases sN with
  |nil=>
   refine(?_:ah aa W ρ s A cM _ (Hw f x σ));unfold Mine.Internal.Hw;by_cases aV:f=("len" : Str)
   ·rw[bj aV];subst aV;replace al:=Pp ▸ al;cases al;exact ah.jx i bl
   ·rw[bH aV];by_cases h1:f=("list" : Str)
    ·rw[bj h1];subst h1;replace al:=Po ▸ al;cases al;exact ah.oe aU i bl
    ·rw[bH h1];by_cases h2:f=("tuple" : Str)
     ·rw[bj h2];subst h2;replace al:=Pl ▸ al;cases al;exact ah.ly i bl
     ·rw[bH h2];by_cases h3:f=("sorted" : Str)
      ·rw[bj h3];subst h3;replace al:=Pm ▸ al;cases al;exact ah.my i bl
      ·rw[bH h3];refine ah.ite λbf=>?_;subst bf;replace al:=Pq ▸ al;cases al;exact ah.r1 ek aU i bl
  |cons cw sN=>cases sN with
   |nil=>
    refine(?_:ah aa W ρ s A cM _ ((if f=("min" : Str) then Mine.Internal.lz _ _ else M.bad) σ));refine ah.ite λa8=>?_;subst a8;replace al:=Pn ▸ al;cases al;exact ah.lz aU i bl cw
   |cons _ _=>exact aS
theorem adi(h:Cr.contains f=ak):f∈pF/\((∃id,iJ f=I (.builtin id))\/∃T,iJ f=I (.type T)):=by
 have key:∀g∈Cr,g∈pF/\((∃id,iJ g=I (.builtin id))\/∃T,iJ g=I (.type T)):=by
  intro g hg;simp only [Cr,cY,gH,or_false]at hg;rcases hg with rfl|rfl|rfl|rfl|rfl|rfl
  ·exact⟨by decide +kernel,.inl ⟨_,Pp⟩⟩
  ·exact⟨by decide +kernel,.inr ⟨_,Po⟩⟩
  ·exact⟨by decide +kernel,.inr ⟨_,Pl⟩⟩
  ·exact⟨by decide +kernel,.inl ⟨_,Pm⟩⟩
  ·exact⟨by decide +kernel,.inr ⟨_,Pq⟩⟩
  ·exact⟨by decide +kernel,.inl ⟨_,Pn⟩⟩
 exact key f (w7.mp h)
theorem IG(f:Str)(p pos:Pos)(aT:List Expr):eval (.Call (.Name f p) aT [] pos) env=(eval (.Name f p) env>>=λrR=>callWith pos rR [] (backTo pos (fL aT env)) []):=rfl
theorem ah.head{α β:Type}{t:Sem aw}{v:aw}{f:aw->Sem β}{r:Res α}{R:α->Map->Heap->β->Prop}(aY:∀(Q:aw->bp->Prop) (E:aw->bp->Prop),Q v s->a3 (bk aa.prog aa.w) A t Q E s)
  (h:ah aa W ρ s A R (f v) r):ah aa W ρ s A R (t>>=f) r:=by
 induction r with
 |bad=>exact aS
 |exc _ _=>exact aJ (aY _ _ h)
 |ok a af=>exact aJ (aY _ _ h)
def Ih(tx:gU):Prop:=∀f∈pF,tx.fns f=U
theorem acH{pos:Pos}{K N:Addr}{dk:Str->Option aw}{aT:List Expr}{Q:aw->bp->Prop}{E:aw->bp->Prop}(X:ClsAt aa.heap K N dk)(cZ:∀e∈aT,∀v p,e≠.Starred v p)
  (h:a3 (bk aa.prog aa.w) A (spliced (backTo pos (fL aT env))) (λvs s₁=>(∀b o,aa.get? b=I o->s₁.heap.get? b=I o)/\a3 (bk aa.prog aa.w) A (call (.ref K) ([]++vs)) Q E s₁) E s) :
  a3 (bk aa.prog aa.w) A (callWith pos (.ref K) [] (backTo pos (fL aT env)) []) Q E s:=by
 have th:((backTo pos (fL aT env)).any (λx=>x.fst) || ([]:List (Option Str×Sem aw)).any λx=>x.fst.isNone)=aH:=by rw[((noStar (env:=env) (pos:=pos) cZ).1)];rfl
 unfold callWith;refine aJ (ir (yQ cZ (cH h (λvs s₁ dv=>?_) λae az x=>x)));refine aE λkk=>?_;obtain⟨aU,g,d,t,os⟩:=s₁;obtain⟨nm,q,bs,sn,sub,col,gR,iC,fC,gC,lh,lg,dK⟩:=wi (X.keeps dv.1);have f1:=tc_lookup;have cq:(⟨aU,g,d,t,os⟩:bp).TypeIs (.ref K) "type":=⟨_,dK,ab⟩;refine kk (aJ (oA ?_));refine(?_:a3 _ _ (keeperOf (.ref K)>>=_) _ _ _);unfold keeperOf specialOf
 repeat (any_goals (first|assumption|with_reducible refine Dj dK ?_|with_reducible refine wpAny_load' dK ?_|wp_step))
 rw[bj (by rfl),th];refine(?_:a3 _ _ (call (.ref K) vs []>>=λr=>do holding [r] point;pure r) _ _ _);exact aJ (cH dv.2 (λr s' aP=>aJ (ir (wpAny_point (bQ aP)))) λae az x=>x)
theorem abU{f:Str}{aT:List Expr}{p pos:Pos}(B:gF tx mg mb aa.heap)(mi:∀f,C.isFn f=(tx.fns f).isSome)(gg:C.cls=tx.cls)(dK:zG aa tx C n)(qq:nv aa C n aT):cg aa C n (.Call (.Name f p) aT [] pos):=λenv ns loc σ ρ s A aQ F i=>by
 refine(?_:ah aa [] ρ s A cM _ ((if Ho C ns f aT=ak then (kL C aT ns loc>>=λvs=>wj C f vs) else M.bad) σ));refine ah.ite λay=>?_;unfold Ho at ay;rw[g5,g5]at ay;obtain⟨a8,cZ,NC⟩:=ay;rw[IG]
 induction vR:tx.fns f with
 |some fn=>
  obtain⟨a,hm,ok⟩:=B.fn f fn vR;obtain⟨o,fd,ho,hd,_⟩:=id ok;have yx:C.isFn f=ak:=by rw[mi,vR];rfl
  refine ah.head (v:=.ref a) (λQ E h=>z2 B F i a8 hm h) ?_;refine ah.args cZ qq aQ F i (λQ E cZ h=>ON ho hd cZ h) λl a0 aZ H tk vs bo bO b3=>?_;refine(?_:ah aa [] aZ _ A cM _ ((if C.isFn f=ak then C.call f l else _) a0));rw[bj yx];exact dK f fn a l vs a0 aZ _ A aQ.weak (by unfold gU.at;rw[vR];rfl) ok b3 bo
 |none=>
  have yx:C.isFn f=aH:=by rw[mi,vR];rfl
  induction BJ:tx.cls f with
  |some ms=>
   obtain⟨K,N,dk,hm,O⟩:=B.own f ms BJ;have e:wj C f=λvs=>Mine.Internal.fv C f vs:=by funext l;unfold wj;rw[yx,gg,BJ];rfl
   rw[e];refine ah.head (v:=.ref K) (λQ E h=>z2 B F i a8 hm h) ?_;exact ah.args cZ qq aQ F i (λQ E cZ h=>acH O.cls cZ h) λl a0 aZ H tk vs bo bO b3=>ah.fv B O hm dK aQ bo b3
  |none=>
   have e:wj C f=λvs=>if C.calm=ak then blt f vs else M.bad:=by funext l;unfold wj;rw[yx,gg,BJ];rfl
   rw[e];obtain⟨aM,al⟩:=adi (by rw[yx,gg,BJ]at NC;exact NC);have k:∀{rR:aw},iJ f=I rR->∀l a0 aZ H tk vs,Inv aa a0 aZ H->Ext [] ρ s.heap aZ H->b9 aZ H vs l->ah aa [] aZ (At H tk s) A cM (call rR vs) ((if C.calm=ak then blt f l else M.bad) a0):=λal l a0 aZ H tk vs bo bO b3=>
    ah.ite λaL=>ah.blt B.nolimit (aQ.handled aL) al bo b3
   rcases al with ⟨id,al⟩|⟨T,al⟩
   ·refine ah.head (v:=.builtin id) (λQ E h=>DN B F i a8 aM vR al h) ?_;exact ah.args cZ qq aQ F i (λQ E cZ h=>OO cZ h) (k al)
   ·refine ah.head (v:=.type T) (λQ E h=>DN B F i a8 aM vR al h) ?_;exact ah.args cZ qq aQ F i (λQ E cZ h=>OM cZ h) (k al)
end
section
variable {mg mb:Str->Option aw}
variable {loc:Loc}{n:Nat}
theorem Ps(h:yj o=aH):attributeBase o m env whole=whole:=by
 induction o using Expr.casesOn with
 |Call f as ks p=>
  cases f <;> first|rfl|(cases as <;> first|rfl|(cases ks <;> first|rfl|exact nE h))
 |_=>rfl
inductive kf where
 |append|join|index|pop|extend|iz
noncomputable def kf.tag:kf->qJ
 |.append=>.append
 |.join=>.join
 |.index=>.index
 |.pop=>.pop
 |.extend=>.extend
 |.iz=>.iz
noncomputable def kf.T:kf->String
 |.append => "list"
 |.join => "str"
 |.index => "list"
 |.pop => "list"
 |.extend => "list"
 |.iz => "dict"
noncomputable def kf.name:kf->Str
 |.append => "append"
 |.join => "join"
 |.index => "index"
 |.pop => "pop"
 |.extend => "extend"
 |.iz => "setdefault"
noncomputable def kf.id:kf->String
 |.append => "list.append"
 |.join => "str.join"
 |.index => "list.index"
 |.pop => "list.pop"
 |.extend => "list.extend"
 |.iz => "dict.setdefault"
theorem kf.attrs(t:kf):PlainAttrs t.T:=by
 induction t with
 |append=>exact Jc
 |join=>exact F.plainAttrs_str
 |index=>exact Jc
 |pop=>exact Jc
 |extend=>exact Jc
 |iz=>exact F.plainAttrs_dict
theorem kf.slot(t:kf):Slot t.T t.name t.id:=by
 induction t with
 |append=>exact F.slot_list_append
 |join=>exact F.slot_str_join
 |index=>exact F.slot_list_index
 |pop=>exact F.slot_list_pop
 |extend=>exact F.slot_list_extend
 |iz=>exact F.slot_dict_setdefault
theorem kf.type(t:kf):typeOf (.builtin t.id)=pure (.type "method_descriptor"):=by
 induction t with
 |append=>exact F.type_list_append
 |join=>exact F.type_str_join
 |index=>exact F.type_list_index
 |pop=>exact F.type_list_pop
 |extend=>exact F.type_list_extend
 |iz=>exact F.type_dict_setdefault
inductive H0(aa:dE)(tx:gU)(mg:Str->Option aw)(ρ:Map)(s:bp)(v:aw)(m:Str):qJ->Prop
 |blt(t:kf):m=t.name->s.TypeIs v t.T->(∀a,v=.ref a->∃o,s.heap.get? a=some o/\o.dict=none)->H0 aa tx mg ρ s v m t.tag
 |own{c:Str}{ms:List Str×List Str}{a K N:Addr}{dk fj:Str->Option aw}:v=.ref a->s.heap.Inst a K fj->OwnCls tx aa.heap c ms K N dk->m∈ms.1->fj m=none->H0 aa tx mg ρ s v m (.own c)
theorem XC(B:gF tx mg mb aa.heap)(gg:C.cls=tx.cls)(i:Inv aa σ ρ s.heap)(r:Rel ρ s.heap v x)(h:dP C x m σ=I t):H0 aa tx mg ρ s v m t:=by
 induction r using Rel.cs with
 |str _ tk _=>
  have h:(if m=("join" : Str) then I qJ.join else U)=I t:=h;by_cases e:m=("join" : Str)
  ·replace h:=bj e ▸ h;cases h;exact .blt .join e (IL s _ tk) λae e=>nomatch e
  ·replace h:=bH e ▸ h;exact bh h
 |@ref a d k bK=>
  have h:(if l6 σ k=ak then Ba m else if pd σ k=ak then (if m=("setdefault" : Str) then I qJ.iz else U) else (vb C m σ k).map qJ.own)=I t:=h;by_cases aj:l6 σ k=ak
  ·replace h:=bj aj ▸ h;unfold Ba at h;have aj:∃l,σ[k]? =I (.list l):=by
    unfold l6 at aj
    induction e:σ[k]? with
    |none=>replace aj:=e ▸ aj;exact fU aj
    |some o=>
     replace aj:=e ▸ aj
     induction o with
     |list l=>exact⟨l,ab⟩
     |_=>exact fU aj
   refine aE λkk=>?_;obtain⟨l,e⟩:=aj;obtain⟨vs,j,g,_,_⟩:=i.list e bK;refine kk ?_;have hd:∀b,Value.ref a=.ref b->∃o,s.heap.get? b=I o/\o.dict=U:=λb e=>by cases e;exact⟨_,g,ab⟩
   by_cases ax:m=("append" : Str)
   ·replace h:=bj ax ▸ h;cases h;exact .blt .append ax (gd g).typeIs hd
   ·replace h:=bH ax ▸ h;by_cases aO:m=("index" : Str)
    ·replace h:=bj aO ▸ h;cases h;exact .blt .index aO (gd g).typeIs hd
    ·replace h:=bH aO ▸ h;by_cases c7:m=("pop" : Str)
     ·replace h:=bj c7 ▸ h;cases h;exact .blt .pop c7 (gd g).typeIs hd
     ·replace h:=bH c7 ▸ h;by_cases eN:m=("extend" : Str)
      ·replace h:=bj eN ▸ h;cases h;exact .blt .extend eN (gd g).typeIs hd
      ·replace h:=bH eN ▸ h;exact bh h
  ·replace h:=bH aj ▸ h;by_cases n6:pd σ k=ak
   ·replace h:=bj n6 ▸ h;have n6:∃v l,σ[k]? =I (.dict v l):=by
     unfold pd at n6
     induction e:σ[k]? with
     |none=>replace n6:=e ▸ n6;exact fU n6
     |some o=>
      replace n6:=e ▸ n6
      induction o with
      |dict v l=>exact⟨v,l,ab⟩
      |_=>exact fU n6
    refine aE λkk=>?_;obtain⟨v,l,e⟩:=n6;obtain⟨_,_,bY,hd,_⟩:=i.dict e bK;obtain⟨o,aT,cU,g,⟨_,aM,_⟩,_⟩:=id hd;refine kk ?_;by_cases ax:m=("setdefault" : Str)
    ·replace h:=bj ax ▸ h;cases h;exact .blt .iz ax hd.typeIs λb e=>by cases e;exact⟨_,g,aM⟩
    ·replace h:=bH ax ▸ h;exact bh h
   replace h:=bH n6 ▸ h;refine aE λkk=>?_;obtain⟨c,ay,rfl⟩:=hr.mp h;refine kk ?_;unfold vb at ay;refine aE λkk=>?_;refine bind_some ay λmv h1 ay=>?_;refine bind_some ay λms h2 ay=>?_;refine bind_some ay λl h3 ay=>?_;refine kk ?_;by_cases hm:(ms.1.contains m&&(l.lookup m).isNone)=ak
   case neg=>replace ay:=bH hm ▸ ay;exact bh ay
   replace ay:=bj hm ▸ ay;cases ay;replace hm:=(g5 ..) ▸ hm;refine aE λkk=>?_;obtain⟨j,ax⟩:=yl h1;obtain⟨K,cV,eb,fj,q⟩:=i.F2 ax (N9 ax h3) bK;refine kk ?_;replace h2:=gg ▸ h2;refine aE λkk=>?_;obtain⟨C2,N,dk,hg,O⟩:=B.own c ms h2;refine kk ?_;replace hg:=q.cls.at B.g ▸ hg;cases hg;exact .own ab q.inst O (w7.mp hm.1) (q.bI.no m (Option.isNone_iff_eq_none.mp hm.2))
 |_=>exact bh h
theorem ah.runM{t:kf}{v:aw}{x:V}{m:Str}{vals:List aw}{vs:List V}(cF:A.units+201<cLine)(i:Inv aa σ ρ s.heap)(r:Rel ρ s.heap v x)(rs:b9 ρ s.heap vals vs):ah aa W ρ s A cM (call (.builtin t.id) (v::vals)) (runM C m t.tag x vs σ):=by
 cases rs with
 |nil=>induction t with
  |pop=>exact ah.AY i r
  |_=>exact aS
 |cons bl sN=>cases sN with
  |nil=>induction t with
   |append=>exact ah.A3 i r bl
   |join=>exact ah.AZ i r bl
   |index=>exact ah.A0 cF i r bl
   |pop=>exact aS
   |extend=>exact ah.A1 i r bl
   |iz=>exact aS
  |cons cw sN=>cases sN with
   |nil=>induction t with
    |iz=>exact ah.A2 i r bl cw
    |_=>exact aS
   |cons _ _=>cases t <;> exact aS
theorem X6(m:Str):∃y,typeLookup (.type "object") m=pure y:=by
 rw[qR];have:(builtinLookup "object" m).isSome=ak:=by
  unfold builtinLookup;rw[show builtinMro "object" = I [.type "object"] by kernel_rfl];rfl
 induction e:builtinLookup "object" m with
 |none=>rw[e]at this;exact fU this
 |some y=>exact⟨y,ab⟩
theorem abV(B:gF tx mg mb aa.heap)(mi:∀f,C.isFn f=(tx.fns f).isSome)(gg:C.cls=tx.cls)(dK:zG aa tx C n)(ho:cg aa C n o)(qq:nv aa C n aT):cg aa C n (.Call (.Attribute o m ap) aT [] pos):=λenv ns loc σ ρ s A aQ F i=>by
 refine(?_:ah aa [] ρ s A cM _ ((if ap.endLine=pos.line/\aT.length<30/\yj o=aH/\rq aT=ak then (ev C o ns loc>>=λv=>c1 (dP C v m)>>=λEi=>kL C aT ns loc>>=λvs=>runM C m Ei v vs) else M.bad) σ));refine ah.ite λay=>?_;refine aE λkk=>?_;obtain⟨h1,h2,h3,cZ⟩:=ay;refine kk ?_;rw[arm_eval_Call,Ps h3];have NA:methodCallForm (aT.length+([]:List Keyword).length) (backTo pos (fL aT env)) (backToKw pos (keywordEach [] env))=ak:=by
  refine(?_:((backTo pos (fL aT env)).all (λx=>!x.1)&&ak&&decide (aT.length+0+0<30))=ak);rw[(noStar (Fm cZ)).2];simpa using h2
 have dW:methodCallPos ak o env ap pos=pure pos:=by
  unfold methodCallPos;rw[bj (by simp [h1])]
 refine ah.bind (ho env ns loc σ ρ s A aQ F i) λa a0 aZ dQ d9 ag bo bO b3=>ah.standAt ?_;refine ah.Ct λt aY=>?_
 cases XC (s:=At dQ d9 s) B gg bo b3 aY with
 |blt t hm cq hd=>
  subst hm;refine ah.wrap (t:=callWith pos (.builtin t.id) [ag] (backTo pos (fL aT env)) []) (λQ E h=>?_) ?_
  ·unfold methodCall;rw[NA];refine aJ (ir (getMethod_builtin cq t.attrs t.slot t.type hd ?_));exact aJ (lK dW h)
  ·exact ah.args cZ qq aQ (F.eV bO) bo (λQ E cZ h=>OO cZ h) λl a0 aZ H tk vs bo bO r=>ah.runM aQ.u bo (b3.ext bO) r
 |@own c ms b K N dk fj aK hI O hm yr=>
  subst aK;refine aE λkk=>?_;obtain⟨fa,fn,of,a8,mi,ok,Gi,Z4⟩:=O.L8 m hm;obtain⟨o',fd,hE,kI,_⟩:=id ok;have X:=O.cls.keeps bo.base;obtain⟨nm,E2,bs,sn,sub,col,gR,iC,fC,gC,lh,lg,rM⟩:=wi X;obtain⟨y,bL⟩:=X6 m;refine kk (ah.wrap (t:=callWith pos (.ref fa) [.ref b] (backTo pos (fL aT env)) []) (λQ E h=>?_) ?_)
  ·unfold methodCall;rw[NA];refine aE λkk=>?_;obtain⟨aU,g,d,tk,os⟩:=s;refine kk (aJ (ir (method_of rM X.ns O.ga O.aaG a8 (bo.base _ _ Gi) Z4 bL hI yr ?_)));exact aJ (lK dW h)
  ·exact ah.args cZ qq aQ (F.eV bO) bo (λQ E cZ h=>ON hE kI cZ h) λl a0 aZ H tk vs bo bO r=>dK _ fn fa _ _ _ _ _ A aQ.weak mi ok (.cons (b3.ext bO) r) bo
theorem abY(B:gF tx mg mb aa.heap)(gg:C.cls=tx.cls)(ho:cg aa C n o):cg aa C n (.Attribute o m pos):=λenv ns loc σ ρ s A aQ F i=>by
 refine(?_:ah aa [] ρ s A cM _ ((if yj o=aH then (ev C o ns loc>>=λv=>cc C m v) else M.bad) σ));refine ah.ite λay=>?_;rw[arm_eval_Attribute,Ps ay];refine ah.bind (ho env ns loc σ ρ s A aQ F i) λa a0 aZ dQ d9 ag bo bO b3=>ah.standAt ?_;exact ah.behind (λv s' Q E aL=>ai6 aL) (ah.holding (ah.cc B gg bo b3))
end
section
variable {prog:Program}{w:World}{E:aw->bp->Prop}
theorem xP:Slot "list_reverseiterator" "__next__" "list_reverseiterator.__next__":=
 .of (owner := "list_reverseiterator") (n := "__next__") (by rw[qR,sm];kernel_rfl) (by decide +kernel) (by decide +kernel) (by decide +kernel)
  (by first|exact .inl (by decide +kernel)|exact .inr (by decide +kernel)) (by rw[wX];kernel_rfl)
theorem K5:Slot "list_reverseiterator" "__iter__" "list_reverseiterator.__iter__":=
 .of (owner := "list_reverseiterator") (n := "__iter__") (by rw[qR,sm];kernel_rfl) (by decide +kernel) (by decide +kernel) (by decide +kernel)
  (by first|exact .inl (by decide +kernel)|exact .inr (by decide +kernel)) (by rw[wX];kernel_rfl)
theorem K3:entryFor table "list_reverseiterator.__next__" = I Builtin.«list_reverseiterator.__next__»:=IP (by kernel_rfl)
theorem V5:entryFor table "list_reverseiterator.__iter__" = I Builtin.«dict_keyiterator.__iter__»:=
 ajf (id' := "dict_keyiterator.__iter__") (by kernel_rfl) (by first|rfl|decide +kernel|(unfold String.splitOn;simp +decide [String.splitOnAux])) (by decide +kernel) (by kernel_rfl)
theorem K4(a:aw):argsOk "list_reverseiterator.__next__" ⟨[a],[]⟩:=by unfold argsOk;kernel_rfl
theorem V6(a:aw):argsOk "list_reverseiterator.__iter__" ⟨[a],[]⟩:=by unfold argsOk;kernel_rfl
theorem xM:Slot "reversed" "__next__" "reversed.__next__":=
 .of (owner := "reversed") (n := "__next__") (by rw[qR,sm];kernel_rfl) (by decide +kernel) (by decide +kernel) (by decide +kernel)
  (by first|exact .inl (by decide +kernel)|exact .inr (by decide +kernel)) (by rw[wX];kernel_rfl)
theorem KV:Slot "reversed" "__iter__" "reversed.__iter__":=
 .of (owner := "reversed") (n := "__iter__") (by rw[qR,sm];kernel_rfl) (by decide +kernel) (by decide +kernel) (by decide +kernel)
  (by first|exact .inl (by decide +kernel)|exact .inr (by decide +kernel)) (by rw[wX];kernel_rfl)
theorem VX:Slot "reversed" "__init__" "object.__init__":=
 .of (owner := "object") (n := "__init__") (by rw[qR,sm];kernel_rfl) (by decide +kernel) (by decide +kernel) (by decide +kernel)
  (by first|exact .inl (by decide +kernel)|exact .inr (by decide +kernel)) (by rw[wX];kernel_rfl)
theorem KP:entryFor table "reversed.__next__" = I Builtin.«reversed.__next__»:=IP (by kernel_rfl)
theorem VV:entryFor table "reversed.__iter__" = I Builtin.«dict_keyiterator.__iter__»:=
 ajf (id' := "dict_keyiterator.__iter__") (by kernel_rfl) (by first|rfl|decide +kernel|(unfold String.splitOn;simp +decide [String.splitOnAux])) (by decide +kernel) (by kernel_rfl)
theorem KQ(a:aw):argsOk "reversed.__next__" ⟨[a],[]⟩:=by unfold argsOk;kernel_rfl
theorem VW(a:aw):argsOk "reversed.__iter__" ⟨[a],[]⟩:=by unfold argsOk;kernel_rfl
theorem KR:entryFor table "reversed.__new__" = I Builtin.«reversed.__new__»:=IP (by kernel_rfl)
theorem ES:mroOf (.type "reversed")=pure [.type "reversed",.type "object"]:=by rw[mroOf_type];kernel_rfl
theorem KU:Bind.madeBy (.type "reversed")=pure (I "reversed.__new__"):=madeBy_type ES (by rw[qR,sm];kernel_rfl) (by decide +kernel)
theorem KN:isSubtype (.type "reversed") (.type "reversed")=pure ak:=by rw[wX];kernel_rfl
theorem Au:TypeCalled "reversed" "reversed.__new__" "object.__init__":=⟨by decide +kernel,by decide +kernel,⟨_,_,ES⟩,KU,by decide +kernel,KN,VX⟩
theorem V4:isSubtype (.type "list_reverseiterator") (.type "reversed")=pure aH:=by rw[wX];kernel_rfl
theorem KM(a:aw):checkTypeCall "reversed" ⟨[a],[]⟩=pure ():=by kernel_rfl
theorem KT(a:aw):checkBuiltinCall "reversed.__new__" ⟨[.type "reversed",a],[]⟩=pure ():=by kernel_rfl
theorem TL:typeLookup (.type "tuple") "__reversed__" = pure U:=by rw[qR,sm];kernel_rfl
def wG(h:Heap)(aW l:Addr)(i:Int):Prop:=h.get? aW=I { cls:=.type "list_reverseiterator",data:=.fields #[.ref l,rawInt i] }
def wF(h:Heap)(aW t:Addr)(i:Int):Prop:=h.get? aW=I { cls:=.type "reversed",data:=.fields #[.ref t,rawInt i] }
theorem KS(a:aw):Builtin.SmallTypes.newClass "reversed" ⟨[.type "reversed",a],[]⟩=pure (.type "reversed",[a]):=by
 unfold Builtin.SmallTypes.newClass;simp only [isType,KN,pure_bind,Bool.not_true,Bool.false_eq_true,if_false]
theorem VT(t:Addr)(vs:List aw)(n:Nat)(hz:vs.length<=bz) :
  Meets (Builtin.«reversed.__new__» ⟨[.type "reversed",.ref t],[]⟩) (λae R s=>s.heap.get? t=I (dJ vs n)/\∀tk,R (.ok (.ret (.ref s.heap.objs.size))) { s with heap:=s.heap.push { cls:=.type "reversed",data:=.fields #[.ref t,rawInt ((vs.length:Int)-1)] },toks:=tk }):=
 .of_wp λprog w A R s h=>by
  obtain⟨aj,h⟩:=h;have aD:=p7;have cq:=(lj aj).typeIs;unfold Builtin.«reversed.__new__»;refine aJ (lK (KS _) ?_);refine aJ (lK (a:=()) ab ?_);refine aJ (lK (a:=()) ab ?_);refine aJ (zI cq TL ?_);refine aJ (Q:=_) ?_;refine(?_:a3 _ _ (isInstance (.ref t) (.type "dict")>>=_) _ _ _);refine aJ (Dk (T := "tuple") (b:=aH) cq PySem.F.sub_tuple_dict ?_);refine aJ (zI cq Dl.lookup ?_);refine bQ ?_;refine aJ (P.len_tuple (items:=vs.toArray) (n:=n) aj (by rw[k1];lia) ?_);refine aJ (lK (a:=I (vs.toArray.size:Int)) ab ?_);rw[k1];refine(?_:a3 _ _ (newObj (.type "reversed") (.fields #[.ref t,rawInt ((vs.length:Int)-1)])>>=_) _ _ _);refine aJ (pT ?_);exact bQ ⟨_,ab,h _⟩
theorem ac4(g:s.heap.get? t=I (dJ vs n))(hz:vs.length<=bz)
  (h:∀h' tk,(∀b o,s.heap.get? b=I o->h'.get? b=I o)->wF h' s.heap.objs.size t ((vs.length:Int)-1)->Q (.ref s.heap.objs.size) { s with heap:=h',toks:=tk }):a3 (bk prog w) A (call (.type "reversed") [.ref t]) Q E s:=
 callType_new Au (by decide) (KM _) (KT _) (λobj=>PySem.F.args_object_init_2 obj _) KR (VT t vs n hz) ⟨g,λtk=>⟨⟨_,gJ _ ab,ab⟩,h _ tk (λae az e=>ed _ e) (gJ _ ab)⟩⟩
theorem Xs{n i:Nat}(bG:wF s.heap aW t (i:Int))(g:s.heap.get? t=I (dJ vs n))(hz:vs.length<=bz)(aI:vs[i]? =I x)
  (br:∀h' tk,wF h' aW t ((i:Int)-1)->Heap.SameBut aW s.heap h'->Q (I x) { s with heap:=h',toks:=tk }):a3 (bk prog w) A (pyNext (.ref aW)) Q E s:=by
 have aD:=p7;have aR:=dy aI;have cq:s.TypeIs (.ref aW) "reversed":=⟨_,bG,ab⟩;unfold pyNext;refine aJ (wW (qQ (name:=aB "__next__") cq xM (mP xM cq KP ?_ (KQ _))));refine(?_:a3 _ _ (field (.ref aW) 0>>=_) _ _ s);refine aJ (gj bG ab (x:=.ref t) ab ?_);refine(?_:a3 _ _ (field (.ref aW) 1>>=_) _ _ s);refine aJ (gj bG ab (x:=rawInt (i:Int)) ab ?_);refine(?_:a3 _ _ (if (i:Int)<0 then _ else _) _ _ s);rw[bH (sv.mpr (kj i))];refine aJ (zI (lj g).typeIs Dl.lookup ?_);refine(?_:a3 _ _ (mkInt (i:Int)>>=_) _ _ s);refine aJ (wpAny_mkInt ?_);refine aJ (wW (ajt (n:=n) (i:=(i:Int)) (k:=i) g (pY (by decide) (kj i)) (zV (A5 aR) (pY (yf hz) (by decide))) (by rw[k1];exact seqIndex_of (kj i) (A5 aR)) (by simpa using aI) ?_));refine(?_:a3 _ _ (field (.ref aW) 1>>=_) _ _ _);refine aJ (gj (s:={ s with toks:=s.toks+1 }) bG ab (x:=rawInt (i:Int)) ab ?_);refine(?_:a3 _ _ (setField (.ref aW) 1 (rawInt ((i:Int)-1))>>=_) _ _ _);refine aJ (qO (s:={ s with toks:=s.toks+1 }) bG (by simp) λh' gv gD=>?_);exact bQ ⟨x,ab,bQ (br h' _ gv gD)⟩
theorem Ex{α:Type}{Q:α->bp->Prop}{jf:aw->bp->Prop}(aU:A.handled=U)(f5:∀h' e,(∀b o,s.heap.get? b=I o->h'.get? b=I o)->(∃o,h'.get? e=I o/\o.cls=.type "StopIteration")->jf (.ref e) { s with heap:=h' }) :
  a3 (bk prog w) A (Builtin.SmallTypes.stopIteration (α:=α)) Q jf s:=by
 unfold Builtin.SmallTypes.stopIteration;show a3 _ _ (newExc (.type "StopIteration") []>>=_) _ _ _;refine aJ ?_;simp only [newExc,newTuple];refine aJ (pT ?_ (by size_fits));refine aJ (m:=firstArgMember _ _) (lK (a:=Value.none) (by first|rfl|(simp only [firstArgMember];rfl)) ?_);refine pT ?_ (by size_fits);simp only [raiseNew];refine aJ (wpAny_handled ?_);rw[aU];refine aJ (bQ (wpAny_throw ?_));exact f5 _ _ (λb o e=>ed _ (ed _ e)) ⟨_,gJ _ ab,ab⟩
theorem Xr{aW t:Addr}{Q:Option aw->bp->Prop}(aU:A.handled=U)(bG:wF s.heap aW t (-1))(br:∀h',Heap.ExtBut aW s.heap h'->Q U { s with heap:=h' }):a3 (bk prog w) A (pyNext (.ref aW)) Q E s:=by
 have cq:s.TypeIs (.ref aW) "reversed":=⟨_,bG,ab⟩;unfold pyNext;refine aJ (wW (qQ (name:=aB "__next__") cq xM (mP xM cq KP ?_ (KQ _))));refine(?_:a3 _ _ (field (.ref aW) 0>>=_) _ _ s);refine aJ (gj bG ab (x:=.ref t) ab ?_);refine(?_:a3 _ _ (field (.ref aW) 1>>=_) _ _ s);refine aJ (gj bG ab (x:=rawInt (-1)) ab ?_);refine aJ (qP (aJ ?_));refine(?_:a3 _ _ (setField (.ref aW) 1 (rawInt (-1))>>=λae=>setField (.ref aW) 0 .none) _ _ s);refine aJ (qO bG (by simp) λdv ZY md=>?_);refine qO (s:={ s with heap:=dv }) ZY (by simp) λfl alg lp=>?_;refine aJ (Ex (A:=A.in1) (s:={ s with heap:=fl }) aU λeM e ao he=>?_);refine aE λkk=>?_;obtain⟨o,ho,ay⟩:=he;refine kk (aJ (Dk (T := "StopIteration") (b:=ak) ⟨o,ho,ay⟩ RK ?_));exact bQ (br _ λb o al e=>ao b o (lp.extBut b o al (md.extBut b o al e)))
theorem YW(bG:wF s.heap aW t i)(h:Q (.ref aW) s):a3 (bk prog w) A (pyIter (.ref aW)) Q E s:=by
 have cq:s.TypeIs (.ref aW) "reversed":=⟨_,bG,ab⟩;refine ai0 cq KV (mP KV cq VV ?_ (VW _));refine(?_:a3 _ _ (ret (.ref aW)) _ _ s);exact bQ ⟨_,ab, "reversed",_,cq,xM.lookup,h⟩
theorem VU(l:Addr)(vs:List aw)(n:Nat) :
  Meets (Builtin.«reversed.__new__» ⟨[.type "reversed",.ref l],[]⟩) (λae R s=>s.heap.get? l=I (er vs n)/\R (.ok (.ret (.ref s.heap.objs.size))) { s with heap:=s.heap.push { cls:=.type "list_reverseiterator",data:=.fields #[.ref l,rawInt ((vs.length:Int)-1)] } }):=
 .of_wp λprog w A R s h=>by
  obtain⟨aj,h⟩:=h;have cq:=(gd aj).typeIs;unfold Builtin.«reversed.__new__»;refine aJ (lK (KS _) ?_);refine aJ (lK (a:=()) ab ?_);refine aJ (lK (a:=()) ab ?_);refine aJ (zI cq RO.lookup ?_);refine aJ (lK (RO.bind _) ?_);refine aJ (qP ?_);refine aJ (m:=runValue (.call (.builtin "list.__reversed__") ⟨[.ref l],[]⟩)) (show a3 _ _ (call (.builtin "list.__reversed__") [.ref l]) _ _ _ from ?_);refine mP RO cq PySem.F.entry_list_reversed ?_ (PySem.F.args_list_reversed_1 _);unfold Builtin.«list.__reversed__»;refine aJ (lK (a:=Value.ref l) ab ?_);refine aJ (wpAny_listItems aj ab ?_);refine aJ (pT ?_);refine bQ ⟨_,ab,bQ ⟨_,ab,?_⟩⟩
  simpa using h
theorem ac5(g:s.heap.get? l=I (er vs n))
  (h:∀h',(∀b o,s.heap.get? b=I o->h'.get? b=I o)->wG h' s.heap.objs.size l ((vs.length:Int)-1)->Q (.ref s.heap.objs.size) { s with heap:=h' }):a3 (bk prog w) A (call (.type "reversed") [.ref l]) Q E s:=by
 have h1:=Au.notType;have h2:=Au.canCreate;have ale:=KU;have Bq:=V4;have Ng:=ES;refine wpAny_call (IS ?_);refine(?_:a3 _ _ (callAny (.type "reversed") _) _ _ _);refine bQ ⟨Code.quiet_builtin _ (by decide +kernel),IT F.entry_type_call ?_⟩;rw[Around.under_plain (weight_type_call_type "reversed" [.ref l] []) ab];have BI:=KM (.ref l)
 repeat (any_goals (first|assumption|wp_step))
 refine zJ (codeAny_call_builtin Au.plain KR (lK (KT _) (VU l vs n prog w A.in1 (wants (λobj s₁=>obj=.ref s.heap.objs.size/\s₁ = { s with heap:=s.heap.push { cls:=.type "list_reverseiterator",data:=.fields #[.ref l,rawInt ((vs.length:Int)-1)] } }) E) s ⟨g,ab,ab⟩))) λr s₁ aP=>?_
 induction r with
 |error e=>exact aP
 |ok eU=>
  induction eU with
  |ret obj=>
   obtain⟨rfl,rfl⟩:=aP;have cq:({ s with heap:=s.heap.push { cls:=.type "list_reverseiterator",data:=.fields #[.ref l,rawInt ((vs.length:Int)-1)] } }:bp).TypeIs (.ref s.heap.objs.size) "list_reverseiterator":=⟨_,gJ _ ab,ab⟩;have aL:=h _ (λb o e=>ed _ e) (gJ _ ab)
   repeat (any_goals (first|assumption|wp_step))
  |_=>exact aP.elim
theorem Xv{n i:Nat}(bG:wG s.heap aW l (i:Int))(g:s.heap.get? l=I (er vs n))(aI:vs[i]? =I x)
  (br:∀h',wG h' aW l ((i:Int)-1)->Heap.SameBut aW s.heap h'->Q (I x) { s with heap:=h' }):a3 (bk prog w) A (pyNext (.ref aW)) Q E s:=by
 have cq:s.TypeIs (.ref aW) "list_reverseiterator":=⟨_,bG,ab⟩;unfold pyNext;refine aJ (wW (qQ (name:=aB "__next__") cq xP (mP xP cq K3 ?_ (K4 _))));refine(?_:a3 _ _ (field (.ref aW) 1>>=_) _ _ s);refine aJ (gj bG ab (x:=rawInt (i:Int)) ab ?_);refine(?_:a3 _ _ (if (i:Int)<0 then _ else _) _ _ s);rw[bH (sv.mpr (kj i))];refine(?_:a3 _ _ (field (.ref aW) 0>>=_) _ _ s);refine aJ (gj bG ab (x:=.ref l) ab ?_);refine(?_:a3 _ _ (seqItems? (.ref l)>>=_) _ _ s);refine aJ (pS g ab ?_);have jt:vs.toArray[(i:Int).toNat]? =I x:=by simpa using aI
 simp only [jt];refine aJ (qO bG (by simp) λh' gv gD=>?_);exact bQ ⟨x,ab,bQ (br h' gv gD)⟩
theorem Xu{aW l:Addr}{Q:Option aw->bp->Prop}(aU:A.handled=U)(bG:wG s.heap aW l (-1))(br:∀h',Heap.ExtBut aW s.heap h'->Q U { s with heap:=h' }):a3 (bk prog w) A (pyNext (.ref aW)) Q E s:=by
 have cq:s.TypeIs (.ref aW) "list_reverseiterator":=⟨_,bG,ab⟩;unfold pyNext;refine aJ (wW (qQ (name:=aB "__next__") cq xP (mP xP cq K3 ?_ (K4 _))));refine(?_:a3 _ _ (field (.ref aW) 1>>=_) _ _ s);refine aJ (gj bG ab (x:=rawInt (-1)) ab ?_);refine aJ (qP ?_);refine aJ (Ex (A:=A.in1) aU λeM e ao he=>?_);obtain⟨o,ho,ay⟩:=he;refine aJ (Dk (T := "StopIteration") (b:=ak) ⟨o,ho,ay⟩ RK ?_);exact bQ (br _ λb o al e=>ao b o e)
theorem YX(bG:wG s.heap aW l i)(h:Q (.ref aW) s):a3 (bk prog w) A (pyIter (.ref aW)) Q E s:=by
 have cq:s.TypeIs (.ref aW) "list_reverseiterator":=⟨_,bG,ab⟩;refine ai0 cq K5 (mP K5 cq V5 ?_ (V6 _));refine(?_:a3 _ _ (ret (.ref aW)) _ _ s);exact bQ ⟨_,ab, "list_reverseiterator",_,cq,xP.lookup,h⟩
end
inductive gT(h:Heap)(i c:Addr)(k:Nat)(vs:List aw):Bool->Prop
 |lst:h.IsListIter i c k->h.IsList c vs.toArray->gT h i c k vs true
 |tup:h.IsTupleIter i c k->h.IsTuple c vs.toArray->gT h i c k vs false
theorem gT.keep(x:gT h i c k vs t)(aR:∀o,h.get? i=I o->h'.get? i=I o)(ay:∀o,h.get? c=I o->h'.get? c=I o):gT h' i c k vs t:=by
 induction x with
 |lst a b=>exact .lst (a.at aR) (b.at ay)
 |tup a b=>exact .tup (by obtain⟨o,ho,r⟩:=a;exact⟨o,aR _ ho,r⟩) (b.at ay)
theorem gT.at(x:gT h i c k vs t):∃o T fs,h.get? i=I o/\o.cls=.type T/\T ≠ "tuple" /\ o.data=.fields fs:=by
 induction x with
 |lst a _=>obtain⟨o,ho,ay,hd⟩:=a;exact⟨o,_,_,ho,ay,by decide,hd⟩
 |tup a _=>obtain⟨o,ho,ay,hd⟩:=a;exact⟨o,_,_,ho,ay,by decide,hd⟩
theorem gT.ne(x:gT h i c k vs t):c≠i:=λe=>by
 subst e
 induction x with
 |lst a b=>obtain⟨o,ho,ay,_⟩:=a;obtain⟨o',hE,pn,_⟩:=b;replace hE:=ho ▸ hE;cases hE;replace pn:=ay ▸ pn;exact absurd (nw pn) (by decide)
 |tup a b=>obtain⟨o,ho,ay,_⟩:=a;obtain⟨o',hE,pn,_⟩:=b;replace hE:=ho ▸ hE;cases hE;replace pn:=ay ▸ pn;exact absurd (nw pn) (by decide)
section
variable {prog:Program}{w:World}{E:aw->bp->Prop}
theorem EE(aD:gT s.heap i c k vs t)(aI:vs[k]? =I x)(br:∀h',gT h' i c (k+1) vs t->Heap.SameBut i s.heap h'->Q x { s with heap:=h' }) :
  a3 (bk prog w) A (ux (.ref i)) Q E s:=by
 have dD:=aD.ne;have jt:vs.toArray[k]? =I x:=by simpa using aI
 induction aD with
 |lst a b=>exact wpAny_nextOf_list_item a b jt λh' wt gD=>br h' (.lst wt (b.at λo e=>(gD.2 c dD).trans e)) gD
 |tup a b=>
  refine aE λkk=>?_;obtain⟨o,ho,ay,hd⟩:=id a;obtain⟨ol,vI,_,nl,nc⟩:=id b;refine kk ?_;unfold ux;refine aJ (qQ (name:=aB "__next__") a.typeIs Jb
   (mP Jb a.typeIs akp ?_ (akr _)))
  refine(?_:a3 _ _ (field (.ref i) 0>>=_) _ _ s);refine aJ (gj ho hd (x:=.ref c) ab ?_);refine(?_:a3 _ _ (if (Value.ref c==Value.none)=ak then _ else _) _ _ s);rw[bH (show ¬((Value.ref c==Value.none)=ak) from uy)];refine(?_:a3 _ _ (field (.ref i) 1>>=_) _ _ s);refine aJ (gj ho hd (x:=.int k 0) ab ?_);refine(?_:a3 _ _ (seqItems? (.ref c)>>=_) _ _ s);refine aJ (pS vI nc ?_);simp only [Int.toNat_natCast,jt];have kE:∀f,Heap.SameBut i s.heap (s.heap.update i f):=λf=>alK ..;refine aJ (II ho hd (by simp) (bQ ⟨x,ab,bQ (br _ (.tup ?_ (b.at λo e=>((kE _).2 c dD).trans e)) (kE _))⟩));exact⟨_,uw _ ho (RR (IU hd _)),(RS ..).trans ay,by rw[IU hd];simp [rawInt]⟩
theorem Kw(aU:A.handled=U)(aD:gT s.heap i c k vs t)(aI:vs[k]? =U)
  (f5:∀h' e,Heap.ExtBut i s.heap h'->(∃o,h'.get? e=I o/\o.cls=.type "StopIteration")->E (.ref e) { s with heap:=h' }):a3 (bk prog w) A (ux (.ref i)) Q E s:=by
 have jt:vs.toArray[k]? =U:=by simpa using aI
 induction aD with
 |lst a b=>exact wpAny_nextOf_list_end aU a b jt f5
 |tup a b=>
  refine aE λkk=>?_;obtain⟨o,ho,ay,hd⟩:=id a;obtain⟨ol,vI,_,nl,nc⟩:=id b;refine kk ?_;unfold ux;refine aJ (qQ (name:=aB "__next__") a.typeIs Jb
   (mP Jb a.typeIs akp ?_ (akr _)))
  refine(?_:a3 _ _ (field (.ref i) 0>>=_) _ _ s);refine aJ (gj ho hd (x:=.ref c) ab ?_);refine(?_:a3 _ _ (if (Value.ref c==Value.none)=ak then _ else _) _ _ s);rw[bH (show ¬((Value.ref c==Value.none)=ak) from uy)];refine(?_:a3 _ _ (field (.ref i) 1>>=_) _ _ s);refine aJ (gj ho hd (x:=.int k 0) ab ?_);refine(?_:a3 _ _ (seqItems? (.ref c)>>=_) _ _ s);refine aJ (pS vI nc ?_);simp only [Int.toNat_natCast,jt];refine aJ (qP (aJ (II ho hd (by simp) ?_)));refine Ex (A:=A.in1) aU λh' e ao he=>f5 h' e (λb o al g=>ao b o ?_) he;exact(xa _ _ (lL al)).trans g
structure HR(z gx c2 cL df c0 dY:Addr):Prop where
 TIz:gx≠z
 TOz:c2≠z
 i1z:cL≠z
 i2z:df≠z
 TITO:gx≠c2
 TIi1:gx≠cL
 TIi2:gx≠df
 TOi1:c2≠cL
 TOi2:c2≠df
 i12:cL≠df
 Co:c0≠z
 Pb:c0≠c2
 als:c0≠cL
 ada:c0≠df
 Cn:dY≠z
 Ht:dY≠c2
 Pa:dY≠cL
 alr:dY≠df
structure zh(h:Heap)(z gx c2 cL df c0 dY:Addr)(k:Nat)(vs ws:List aw)(t1 bc:Bool)(f0:aw):Prop where
 off:HR z gx c2 cL df c0 dY
 zip:IsZip h z gx c2 f0
 its:IsPair h gx (.ref cL) (.ref df)
 out:∃a b,IsPair h c2 a b
 one:gT h cL c0 k vs t1
 two:gT h df dY k ws bc
noncomputable abbrev wu(h h':Heap)(z c2 cL df:Addr):Prop:=∀c o,c≠z->c≠c2->c≠cL->c≠df->h.get? c=I o->h'.get? c=I o
theorem Ss(Z:zh s.heap z gx c2 cL df c0 dY k vs ws t1 bc .none)(aI:vs[k]? =I x)(bL:ws[k]? =I y)
  (br:∀h',zh h' z gx c2 cL df c0 dY (k+1) vs ws t1 bc (rawInt s.heap.objs.size)->IsPair h' s.heap.objs.size x y->wu s.heap h' z c2 cL df->Q (I (.ref s.heap.objs.size)) { s with heap:=h' }) :
  a3 (bk prog w) A (pyNext (.ref z)) Q E s:=by
 have D:=Z.off;have hz:=Z.zip;have pq:=Z.its;obtain⟨a,b,iW⟩:=Z.out;have cq:s.TypeIs (.ref z) "zip":=⟨_,hz,ab⟩;unfold pyNext;refine aJ (wW (qQ (name:=aB "__next__") cq Ja (mP Ja cq ako ?_ (akq _))));refine(?_:a3 _ _ (field (.ref z) 2>>=_) _ _ _);refine aJ (gj hz ab (x:=.bool aH) ab ?_);refine(?_:a3 _ _ (field (.ref z) 3>>=_) _ _ _);refine aJ (gj hz ab (x:=.ref gx) ab ?_);refine aJ (pS pq ab ?_);refine(?_:a3 _ _ (Builtin.SmallTypes.ownedTupleIsFree (.ref z)>>=_) _ _ _);refine aJ ?_;unfold Builtin.SmallTypes.ownedTupleIsFree;refine aJ (gj hz ab (x:=.none) ab (bQ ?_));simp only [if_true];refine aJ (qP ?_);refine aJ (gj hz ab (x:=.ref c2) ab ?_);refine aJ (qO hz (by simp) λdv rC md=>?_);replace rC:IsZip dv z gx c2 .ellipsis:=rC;refine aJ ?_;simp only [List.zipIdx_cons,List.zipIdx_nil,List.forIn_cons,List.forIn_nil];refine aJ (aJ (Di ?_));refine(?_:a3 _ _ (ux (.ref cL)>>=_) _ _ _);refine aJ (EE (s:={ s with heap:=dv }) (Z.one.keep (λo e=>(md.2 _ D.i1z).trans e) λo e=>(md.2 _ D.Co).trans e) aI λfl NZ lp=>bQ ?_);have yH:IsPair fl c2 a b:=lp.extBut _ _ D.TOi1 (md.extBut _ _ D.TOz iW);refine aJ (pS yH ab ?_);refine aJ (Rz yH λeM tA m8=>?_);replace tA:IsPair eM c2 x b:=tA;refine aJ (IK (bQ ?_));refine aJ (aJ (Di ?_));refine(?_:a3 _ _ (ux (.ref df)>>=_) _ _ _);have oI:∀c,c≠z->c≠cL->c≠c2->∀o,s.heap.get? c=I o->eM.get? c=I o:=λc ax aO c7 o e=>m8.extBut _ _ c7 (lp.extBut _ _ aO (md.extBut _ _ ax e));refine aJ (EE (s:={ s with heap:=eM }) (Z.two.keep (oI _ D.i2z D.i12.symm D.TOi2.symm) (oI _ D.Cn D.Pa D.Ht)) bL λvE aaB pg=>bQ ?_);have NQ:IsPair vE c2 x b:=pg.extBut _ _ D.TOi2 tA;refine aJ (pS NQ ab ?_);refine aJ (Rz NQ λi5 BL nZ=>?_);replace BL:IsPair i5 c2 x y:=BL;refine aJ (IK (bQ (bQ ?_)));refine aJ (pS BL ab ?_);refine aJ (ai4 ?_);have gf:i5.objs.size=s.heap.objs.size:=by rw[nZ.1,pg.1,m8.1,lp.1,md.1]
 have MT:IsZip i5 z gx c2 .ellipsis:=nZ.extBut _ _ D.TOz.symm (pg.extBut _ _ D.i2z.symm (m8.extBut _ _ D.TOz.symm (lp.extBut _ _ D.i1z.symm rC)));have Nn:wu s.heap i5 z c2 cL df:=λc o c0 dY j6 i8 e=>nZ.extBut _ _ dY (pg.extBut _ _ i8 (oI c c0 j6 dY o e));have Xd:gT i5 cL c0 (k+1) vs t1:=NZ.keep (λo e=>nZ.extBut _ _ D.TOi1.symm (pg.extBut _ _ D.i12 (m8.extBut _ _ D.TOi1.symm e))) λo e=>nZ.extBut _ _ D.Pb (pg.extBut _ _ D.ada (m8.extBut _ _ D.Pb e));have TA:gT i5 df dY (k+1) ws bc:=aaB.keep (λo e=>nZ.extBut _ _ D.TOi2.symm e) λo e=>nZ.extBut _ _ D.Ht e;have MW:z<i5.objs.size:=Heap.lt_size MT;refine(?_:a3 _ _ (Builtin.SmallTypes.ownedTupleHandOut (.ref z) (.ref i5.objs.size)>>=_) _ _ _);refine aJ ?_;unfold Builtin.SmallTypes.ownedTupleHandOut;have Zg:IsZip (i5.push { cls:=.type "tuple",data:=.seq #[x,y] }) z gx c2 .ellipsis:=ed _ MT;refine aJ (qO Zg (by simp) λZe F8 M3=>?_);replace F8:IsZip Ze z gx c2 (rawInt i5.objs.size):=F8;refine qO F8 (by simp) λBm Bn M1=>?_;replace Bn:IsZip Bm z gx c2 (rawInt i5.objs.size):=Bn;have up:∀c o,c≠z->i5.get? c=I o->Bm.get? c=I o:=λc o c0 e=>M1.extBut _ _ c0 (M3.extBut _ _ c0 (ed _ e));have NP:IsPair Bm i5.objs.size x y:=M1.extBut _ _ (Nat.ne_of_gt MW) (M3.extBut _ _ (Nat.ne_of_gt MW) (gJ _ ab));rw[gf]at Bn NP;refine bQ ⟨_,ab,?_⟩;refine(?_:a3 _ _ (cv (I (Value.ref i5.objs.size))) _ _ _);rw[gf];refine bQ (br Bm ⟨D,Bn,up _ _ D.TIz (Nn _ _ D.TIz D.TITO D.TIi1 D.TIi2 pq),⟨x,y,up _ _ D.TOz BL⟩,Xd.keep (λo e=>up _ o D.i1z e) (λo e=>up _ o D.Co e),TA.keep (λo e=>up _ o D.i2z e) (λo e=>up _ o D.Cn e)⟩ NP λc o c0 dY j6 i8 e=>up c o c0 (Nn c o c0 dY j6 i8 e))
theorem Sv(aU:A.handled=U)(Z:zh s.heap z gx c2 cL df c0 dY k vs ws t1 bc .none)(yB:vs[k]? =U\/ws[k]? =U)
  (br:∀h',wu s.heap h' z c2 cL df->(∃a b,IsPair h' c2 a b)->Q U { s with heap:=h' }):a3 (bk prog w) A (pyNext (.ref z)) Q E s:=by
 have D:=Z.off;have hz:=Z.zip;have pq:=Z.its;obtain⟨a,b,iW⟩:=Z.out;have cq:s.TypeIs (.ref z) "zip":=⟨_,hz,ab⟩;have fin:∀h' e,wu s.heap h' z c2 cL df->(∃a b,IsPair h' c2 a b)->(∃o,h'.get? e=I o/\o.cls=.type "StopIteration")->a3 (bk prog w) A (do if <-isInstance (.ref e) (.type "StopIteration") then cv U else throw (.ref e)) Q E { s with heap:=h' }:=λh' e ao ho aU=>by
  obtain⟨o,he,ay⟩:=aU;refine aJ (Dk (T := "StopIteration") (b:=ak) ⟨o,he,ay⟩ RK ?_);exact bQ (br _ ao ho)
 unfold pyNext;refine aJ (wW (qQ (name:=aB "__next__") cq Ja (mP Ja cq ako ?_ (akq _))));refine(?_:a3 _ _ (field (.ref z) 2>>=_) _ _ _);refine aJ (gj hz ab (x:=.bool aH) ab ?_);refine(?_:a3 _ _ (field (.ref z) 3>>=_) _ _ _);refine aJ (gj hz ab (x:=.ref gx) ab ?_);refine aJ (pS pq ab ?_);refine(?_:a3 _ _ (Builtin.SmallTypes.ownedTupleIsFree (.ref z)>>=_) _ _ _);refine aJ ?_;unfold Builtin.SmallTypes.ownedTupleIsFree;refine aJ (gj hz ab (x:=.none) ab (bQ ?_));simp only [if_true];refine aJ (qP ?_);refine aJ (gj hz ab (x:=.ref c2) ab ?_);refine aJ (qO hz (by simp) λdv rC md=>?_);replace rC:IsZip dv z gx c2 .ellipsis:=rC;have NR:IsPair dv c2 a b:=md.extBut _ _ D.TOz iW;refine aJ ?_;simp only [List.zipIdx_cons,List.zipIdx_nil,List.forIn_cons,List.forIn_nil];refine aJ (aJ (Di ?_));refine(?_:a3 _ _ (ux (.ref cL)>>=_) _ _ _);have LB:gT dv cL c0 k vs t1:=Z.one.keep (λo e=>(md.2 _ D.i1z).trans e) λo e=>(md.2 _ D.Co).trans e
 induction aI:vs[k]? with
 |none=>
  refine aJ (Kw (A:=A.in1) (s:={ s with heap:=dv }) aU LB aI λfl e lp he=>?_);obtain⟨bC,qo,n7⟩:=he;have MV:IsZip fl z gx c2 .ellipsis:=lp _ _ D.i1z.symm rC;have GC:e≠z:=λx=>by subst x;replace qo:=MV ▸ qo;cases qo;exact absurd (nw n7) (by decide)
  exact qO (s:={ s with heap:=fl }) MV (by simp) λeM ae m8=>fin eM e (λc o c0 ae j6 az x=>m8.extBut _ _ c0 (lp _ _ j6 (md.extBut _ _ c0 x))) ⟨a,b,m8.extBut _ _ D.TOz (lp _ _ D.TOi1 NR)⟩ ⟨bC,m8.extBut _ _ GC qo,n7⟩
 |some x=>
  have bL:ws[k]? =U:=by rcases yB with h|h;replace h:=aI ▸ h;exact lV h;exact h
  refine aJ (EE (s:={ s with heap:=dv }) LB aI λfl NZ lp=>bQ ?_);have yH:IsPair fl c2 a b:=lp.extBut _ _ D.TOi1 NR;refine aJ (pS yH ab ?_);refine aJ (Rz yH λeM tA m8=>?_);replace tA:IsPair eM c2 x b:=tA;refine aJ (IK (bQ ?_));refine aJ (aJ (Di ?_));refine(?_:a3 _ _ (ux (.ref df)>>=_) _ _ _);have oI:∀c,c≠z->c≠cL->c≠c2->∀o,s.heap.get? c=I o->eM.get? c=I o:=λc ax aO c7 o e=>m8.extBut _ _ c7 (lp.extBut _ _ aO (md.extBut _ _ ax e));refine aJ (Kw (A:=A.in1) (s:={ s with heap:=eM }) aU (Z.two.keep (oI _ D.i2z D.i12.symm D.TOi2.symm) (oI _ D.Cn D.Pa D.Ht)) bL λvE e pg he=>?_);obtain⟨bC,qo,n7⟩:=he;have MU:IsZip vE z gx c2 .ellipsis:=pg _ _ D.i2z.symm (m8.extBut _ _ D.TOz.symm (lp.extBut _ _ D.i1z.symm rC));have GC:e≠z:=λx=>by subst x;replace qo:=MU ▸ qo;cases qo;exact absurd (nw n7) (by decide)
  exact qO (s:={ s with heap:=vE }) MU (by simp) λi5 ae nZ=>fin i5 e (λc o c0 dY j6 i8 g=>nZ.extBut _ _ c0 (pg _ _ i8 (oI c c0 j6 dY o g))) ⟨x,b,nZ.extBut _ _ D.TOz (pg _ _ D.TOi2 tA)⟩ ⟨bC,nZ.extBut _ _ GC qo,n7⟩
inductive j9(h:Heap)(c:Addr)(vs:List aw):Bool->Prop
 |lst:h.IsList c vs.toArray->j9 h c vs true
 |tup:h.IsTuple c vs.toArray->j9 h c vs false
theorem j9.lt(x:j9 h c vs t):c<h.objs.size:=by
 induction x with
 |lst a=>obtain⟨o,ho,_⟩:=a;exact Heap.lt_size ho
 |tup a=>obtain⟨o,ho,_⟩:=a;exact Heap.lt_size ho
theorem j9.push(x:j9 h c vs t)(o:Obj):j9 (h.push o) c vs t:=by
 induction x with
 |lst a=>exact .lst (a.push o)
 |tup a=>exact .tup (a.push o)
theorem j9.iter(x:j9 s.heap c vs t)(h:∀o,gT (s.heap.push o) s.heap.objs.size c 0 vs t->Q (.ref s.heap.objs.size) { s with heap:=s.heap.push o }):a3 (bk prog w) A (pyIter (.ref c)) Q E s:=by
 induction x with
 |lst a=>exact ai1 a (h _ (.lst ⟨_,gJ _ ab,ab,ab⟩ (a.push _)))
 |tup a=>exact RB a (h _ (.tup ⟨_,gJ _ ab,ab,ab⟩ (a.push _)))
theorem Sq(c0 dY:Addr)(vs ws:List aw)(t1 bc:Bool) :
  Meets (Builtin.«zip.__new__» ⟨[.type "zip",.ref c0,.ref dY],[]⟩) (λae R s=>j9 s.heap c0 vs t1/\j9 s.heap dY ws bc /\
   ∀cj dO,gT (s.heap.push cj) s.heap.objs.size c0 0 vs t1->gT ((s.heap.push cj).push dO) (s.heap.push cj).objs.size dY 0 ws bc ->
    R (.ok (.ret (.ref ((((s.heap.push cj).push dO).push { cls:=.type "tuple",data:=.seq #[.ref s.heap.objs.size,.ref (s.heap.push cj).objs.size] }).push { cls:=.type "tuple",data:=.seq #[.none,.none] }).objs.size)))
     {s with heap:=((((s.heap.push cj).push dO).push { cls:=.type "tuple",data:=.seq #[.ref s.heap.objs.size,.ref (s.heap.push cj).objs.size] }).push { cls:=.type "tuple",data:=.seq #[.none,.none] }).push { cls:=.type "zip",data:=.fields #[.none,.bool aH,.bool aH,.ref ((s.heap.push cj).push dO).objs.size,.ref (((s.heap.push cj).push dO).push { cls:=.type "tuple",data:=.seq #[.ref s.heap.objs.size,.ref (s.heap.push cj).objs.size] }).objs.size] } }):=
 .of_wp λprog w A R s h=>by
  obtain⟨hp,g,d,tk,os⟩:=s;obtain⟨h1,h2,h⟩:=h;have Bq:=sub_zip
  wp_walk using (λaL=>j9.iter (s:=⟨hp,g,d,tk,os⟩) h1 aL:∀{Q:aw->bp->Prop}{E:aw->bp->Prop},(∀o,gT (hp.push o) hp.objs.size c0 0 vs t1->Q (.ref hp.objs.size) ⟨hp.push o,g,d,tk,os⟩)->a3 (bk prog w) A.in1 (pyIter (.ref c0)) Q E ⟨hp,g,d,tk,os⟩)
  intro cj s1
  wp_walk using (λcj ae az aL=>j9.iter (s:=⟨hp.push cj,g,d,tk,os⟩) (h2.push cj) aL:∀(cj:Obj) {Q:aw->bp->Prop}{E:aw->bp->Prop},(∀o,gT ((hp.push cj).push o) (hp.push cj).objs.size dY 0 ws bc->Q (.ref (hp.push cj).objs.size) ⟨(hp.push cj).push o,g,d,tk,os⟩)->a3 (bk prog w) A.in1 (pyIter (.ref dY)) Q E ⟨hp.push cj,g,d,tk,os⟩) cj
  intro dO s2
  wp_walk
  exact⟨_,ab,h cj dO s1 s2⟩
theorem Sp(n c0 dY:Nat)(h1:c0<n)(h2:dY<n):HR (n+4) (n+2) (n+3) n (n+1) c0 dY:=by
 have key:∀a b:Nat,a<b->a≠b/\b≠a:=λa b h=>⟨fZ h,Nat.ne_of_gt h⟩;exact⟨(key _ _ (by exact jW 0x4090010882400020 ab)).1,(key _ _ (by exact jW 0x40900108C2400020 ab)).1,(key _ _ (by exact jW 0x812002120020 ab)).1,(key _ _ (by exact jW 0x4090010842400020 ab)).1,(key _ _ (by exact jW 0x3090010882400020 ab)).1,(key n (n+2) (by exact jW 0x412002120020 ab)).2,(key (n+1) (n+2) (by exact jW 0x2090010842400020 ab)).2,(key n (n+3) (by exact jW 0x612002120020 ab)).2,(key (n+1) (n+3) (by exact jW 0x3090010842400020 ab)).2,(key _ _ (by exact jK _)).1,(key _ _ (by exact fk 0x409401090010142120021 ab h1)).1,(key _ _ (by exact fk 0x309401090010142120021 ab h1)).1,(key _ _ (by exact fk 0xA1090010142120021 ab h1)).1,(key _ _ (by exact w2 h1)).1,(key _ _ (by exact fk 0x409401090010142120021 ab h2)).1,(key _ _ (by exact fk 0x309401090010142120021 ab h2)).1,(key _ _ (by exact fk 0xA1090010142120021 ab h2)).1,(key _ _ (by exact w2 h2)).1⟩
theorem ac3(h1:j9 s.heap c0 vs t1)(h2:j9 s.heap dY ws bc)
  (h:∀h',(∀b o,s.heap.get? b=I o->h'.get? b=I o)->zh h' (s.heap.objs.size+4) (s.heap.objs.size+2) (s.heap.objs.size+3) s.heap.objs.size (s.heap.objs.size+1) c0 dY 0 vs ws t1 bc .none->Q (.ref (s.heap.objs.size+4)) { s with heap:=h' }) :
  a3 (bk prog w) A (call (.type "zip") [.ref c0,.ref dY]) Q E s:=by
 refine callType_new F.called_zip (by decide) (F.typeCall_zip_2 _ _) (F.newCall_zip_2 _ _) (λobj=>F.args_object_init_3 obj _ _) F.entry_zip_new (Sq c0 dY vs ws t1 bc) ⟨h1,h2,λcj dO s1 s2=>?_⟩;have xf:(s.heap.push cj).objs.size=s.heap.objs.size+1:=w9 ..;have p1:((s.heap.push cj).push dO).objs.size=s.heap.objs.size+2:=by rw[w9,xf]
 have JO:∀b o,s.heap.get? b=I o->((s.heap.push cj).push dO).get? b=I o:=λb o e=>ed _ (ed _ e);have KL:gT ((s.heap.push cj).push dO) s.heap.objs.size c0 0 vs t1:=s1.keep (λo e=>ed _ e) λo e=>ed _ e;rw[xf]at s2 ⊢;rw[p1];generalize (s.heap.push cj).push dO=H at KL s2 p1 JO ⊢;have q0:(H.push { cls:=.type "tuple",data:=.seq #[.ref s.heap.objs.size,.ref (s.heap.objs.size+1)] }).objs.size=s.heap.objs.size+3:=by rw[w9,p1]
 have g3:(H.push { cls:=.type "tuple",data:=.seq #[.ref s.heap.objs.size,.ref (s.heap.objs.size+1)] }).get? (s.heap.objs.size+2)=I { cls:=.type "tuple",data:=.seq #[.ref s.heap.objs.size,.ref (s.heap.objs.size+1)] }:=by rw[<-p1];exact gJ _ ab
 have oI:∀b o,H.get? b=I o->(H.push { cls:=.type "tuple",data:=.seq #[.ref s.heap.objs.size,.ref (s.heap.objs.size+1)] }).get? b=I o:=λb o e=>ed _ e;rw[q0];generalize H.push { cls:=.type "tuple",data:=.seq #[.ref s.heap.objs.size,.ref (s.heap.objs.size+1)] }=zy at q0 g3 oI ⊢;have xe:(zy.push { cls:=.type "tuple",data:=.seq #[.none,.none] }).objs.size=s.heap.objs.size+4:=by rw[w9,q0]
 have gP:(zy.push { cls:=.type "tuple",data:=.seq #[.none,.none] }).get? (s.heap.objs.size+3)=I { cls:=.type "tuple",data:=.seq #[.none,.none] }:=by rw[<-q0];exact gJ _ ab
 have D7:∀b o,zy.get? b=I o->(zy.push { cls:=.type "tuple",data:=.seq #[.none,.none] }).get? b=I o:=λb o e=>ed _ e;rw[xe];generalize zy.push { cls:=.type "tuple",data:=.seq #[.none,.none] }=C6 at xe gP D7 ⊢;have ic:(C6.push { cls:=.type "zip",data:=.fields #[.none,.bool aH,.bool aH,.ref (s.heap.objs.size+2),.ref (s.heap.objs.size+3)] }).get? (s.heap.objs.size+4)=I { cls:=.type "zip",data:=.fields #[.none,.bool aH,.bool aH,.ref (s.heap.objs.size+2),.ref (s.heap.objs.size+3)] }:=by rw[<-xe];exact gJ _ ab
 have D6:∀b o,C6.get? b=I o->(C6.push { cls:=.type "zip",data:=.fields #[.none,.bool aH,.bool aH,.ref (s.heap.objs.size+2),.ref (s.heap.objs.size+3)] }).get? b=I o:=λb o e=>ed _ e;have xl:∀b o,H.get? b=I o->(C6.push { cls:=.type "zip",data:=.fields #[.none,.bool aH,.bool aH,.ref (s.heap.objs.size+2),.ref (s.heap.objs.size+3)] }).get? b=I o:=λb o e=>D6 _ _ (D7 _ _ (oI _ _ e));refine⟨⟨_,ic,ab⟩,h _ (λb o e=>xl _ _ (JO _ _ e)) ⟨?_,ic,D6 _ _ (D7 _ _ g3),⟨.none,.none,D6 _ _ gP⟩,KL.keep (λo e=>xl _ _ e) λo e=>xl _ _ e,s2.keep (λo e=>xl _ _ e) λo e=>xl _ _ e⟩⟩;exact Sp _ _ _ h1.lt h2.lt
end
def hX(wr:List Addr)(h h':Heap):Prop:=(∀b o,b∉wr->h.get? b=I o->h'.get? b=I o)/\∀b∈wr,∀vs n,h.get? b=I (dJ vs n)->∃ws m,h'.get? b=I (dJ ws m)
def HT(o:Obj):Prop:=(∀vs n,o≠dJ vs n)/\¬ig o
def Ii(aa:dE)(wr:List Addr):Prop:=∀b∈wr,∀e∈aa.eI,e.frame≠I b
def Own(wr:List Addr)(ρ:Map)(h:Heap):Prop:=∀b∈wr,∃o,h.get? b=I o/\((cT ρ b/\HT o)\/((∃(m:Nat) (d:Nat),ρ[m]? =I (b,d))/\∃vs n,o=dJ vs n))
section
variable {al:Heap}{wr:List Addr}{aA d1:Map}{h h':Heap}
theorem hX.of(ao:∀b o,b∉wr->h.get? b=I o->h'.get? b=I o)(aM:∀b∈wr,∀vs n,h.get? b≠I (dJ vs n)):hX wr h h':=⟨ao,λb al vs n e=>absurd e (aM b al vs n)⟩
theorem Ext.but(x:Ext W d1 al ρ h)(ao:hX wr h h')(hd:∀b∈wr,al.get? b=U):Ext W d1 al ρ h':=by
 have out:∀b o,al.get? b=I o->b∉wr:=λb o e hm=>by rw[hd b hm]at e;exact bh e
 exact {
  pre:=λn a v e=>by obtain⟨v',bg,l,k⟩:=x.pre n a v e;exact⟨v',bg,l,λq o g d=>ao.1 a o (out a o g) (k q o g d)⟩
  keep:=λb o e fG hi=>by obtain⟨o',bg,s'⟩:=x.keep b o e fG hi;exact⟨o',ao.1 b o' (out b o e) bg,s'⟩
  js:=λb o e=>by obtain⟨o',bg,k⟩:=x.js b o e;exact⟨o',ao.1 b o' (out b o e) bg,k⟩
  new:=x.new }
theorem hX.sub(ao:hX wr h h')(ho:Own wr ρ h):Sub ρ h ρ h':=⟨λae az v e=>⟨v,e⟩,λb vs n off e=>⟨off,ao.1 b _ (λhm=>by
 obtain⟨o,bg,⟨_,aM⟩|⟨⟨m,d,hm⟩,_⟩⟩:=ho b hm
 ·replace bg:=e ▸ bg;cases bg;exact aM.1 vs n ab
 ·exact off _ (g4 hm) ab) e⟩,λb o e t=>⟨o,ao.1 b o (λhm=>by
 obtain⟨o',bg,⟨_,aM⟩|⟨_,vs,n,mr⟩⟩:=ho b hm
 ·replace bg:=e ▸ bg;cases bg;exact aM.2 t
 ·replace bg:=e ▸ bg;cases bg;subst mr;exact absurd (nw t.1) (by decide)) e,t⟩⟩
theorem Inv.but(i:Inv aa σ ρ h)(ao:hX wr h h')(ho:Own wr ρ h)(aV:∀b∈wr,aa.get? b=U)(n5:Ii aa wr):Inv aa σ ρ h' where
 base:=λb o e=>ao.1 b o (λhm=>by rw[aV b hm]at e;exact bh e) (i.base b o e)
 len:=i.len
 objs:=λn o p ax aO=>by
  have r:=i.objs n o p ax aO;by_cases hm:p.1∈wr
  ·obtain⟨ba,bg,⟨off,_⟩|⟨_,vs,k,mr⟩⟩:=ho p.1 hm
   ·exact absurd ab (off p (g4 aO))
   ·rw[mr]at bg;rw[r.cache bg];obtain⟨ws,m,aO⟩:=ao.2 _ hm _ _ bg;exact⟨ws,m,aO⟩
  ·exact r.sub (ao.sub ho) (λba g=>ao.1 _ _ hm g)
 fresh:=i.fresh
 apart:=i.apart
 up:=λe he=>by
  obtain⟨n4,L,o,hL,g,r⟩:=i.up e he;exact⟨n4,L,o,hL,ao.1 _ _ (λhm=>n5 L hm e he hL) g,r⟩
theorem c9.but(F:c9 aa env ns loc ρ h)(ao:hX wr h h')(ho:Own wr ρ h)(a8:∀b∈wr,qd env b):c9 aa env ns loc ρ h':=by
 have ZR:env.locals∉wr:=λhm=>(a8 _ hm).1 ab;have tr:∀x c,env.cells.lookup x=I c->c∉wr:=λx c e hm=>(a8 _ hm).2 x c e ab;have aD:=ao.sub ho;exact {
  names:=F.names
  kind:=F.kind
  globals:=F.globals
  kO:=F.kO
  vars:=by
   refine aE λkk=>?_;obtain⟨m,aM,aK⟩:=F.vars;obtain⟨o,aT,cU,ho,r⟩:=aM;refine kk ⟨m,⟨o,aT,cU,ao.1 _ _ ZR ho,r⟩,λy i v h1 h2=>?_⟩;refine aE λkk=>?_;obtain⟨val,e,aP⟩:=aK y i v h1 h2;exact kk ⟨val,e,aP.sub aD⟩
  cell:=λy i h1=>by
   refine aE λkk=>?_;obtain⟨c,o,e,⟨ba,iT,hd⟩,aK⟩:=F.cell y i h1;refine kk ⟨c,o,e,⟨ba,ao.1 _ _ (tr _ _ e) iT,hd⟩,λv aj=>?_⟩;refine aE λkk=>?_;obtain⟨val,bg,aP⟩:=aK v aj;exact kk ⟨val,bg,aP.sub aD⟩
  live:=λy c e=>by
   refine aE λkk=>?_;obtain⟨o,ba,iT,hd⟩:=F.live y c e;exact kk ⟨o,ba,ao.1 _ _ (tr _ _ e) iT,hd⟩
  jq:=F.jq
  h8:=F.h8
  apart:=F.apart
  top:=F.top }
noncomputable def uB:j8->Bool
 |.lst _=>ak
 |.tup _=>aH
inductive kT(ρ:Map)(h:Heap)(i c:Addr)(k:Nat):j8->Prop
 |lst{n d:Nat}:h.IsListIter i c k->ρ[n]? =some (c,d)->kT ρ h i c k (.lst n)
 |tup{vs:List aw}{n:Nat}{l:List V}:h.IsTupleIter i c k->cT ρ c->h.get? c=some (dJ vs n)->b9 ρ h vs l->kT ρ h i c k (.tup l)
theorem IsTupleIter.keep(x:h.IsTupleIter aW t i)(e:∀o,h.get? aW=I o->h'.get? aW=I o):h'.IsTupleIter aW t i:=by obtain⟨o,ho,r⟩:=x;exact⟨o,e _ ho,r⟩
theorem kT.sub(x:kT ρ h i c k z)(y:Sub ρ h aA h')(aR:∀o,h.get? i=I o->h'.get? i=I o):kT aA h' i c k z:=by
 induction x with
 |lst a e=>obtain⟨eb,bg⟩:=y.1 _ _ _ e;exact .lst (a.at aR) bg
 |tup a off g r=>exact .tup (IsTupleIter.keep a aR) (y.2 _ _ _ off g).1 (y.2 _ _ _ off g).2 (r.sub y)
theorem kT.side(x:kT ρ s.heap i c k z)(de:Inv aa σ ρ s.heap)(e:z.all σ=I l):∃vs,gT s.heap i c k vs (uB z)/\b9 ρ s.heap vs l:=by
 induction x with
 |lst a bK=>
  obtain⟨vs,n,g,_,r⟩:=de.list (yd e) bK;exact⟨vs,.lst a (gd g),r⟩
 |tup a off g r=>cases e;exact⟨_,.tup a (lj g),r⟩
theorem kT.on(x:kT ρ h i c k z)(q:gT h' i c (k+1) vs (uB z))(y:Sub ρ h aA h'):kT aA h' i c (k+1) z:=by
 induction x with
 |lst a e=>
  refine aE λkk=>?_;obtain⟨eb,bg⟩:=y.1 _ _ _ e;refine kk ?_
  cases q with
  |lst b _=>exact .lst b bg
 |tup a off g r=>
  cases q with
  |tup b _=>exact .tup b (y.2 _ _ _ off g).1 (y.2 _ _ _ off g).2 (r.sub y)
inductive gX(aa:dE)(i:Nat)(ρ:Map)(h:Heap):Src->aw->List Addr->Prop
 |tup{l:List V}{aW t:Addr}{vs:List aw}{n:Nat}:h.IsTupleIter aW t i->cT ρ t->h.get? t=some (dJ vs n)->b9 ρ h vs l->cT ρ aW->gX aa i ρ h (.vals l) (.ref aW) [aW]
 |range{a b:Int}{aW:Addr}:IsRangeIter h aW (a+i) (((b-a).toNat:Int)-i) 1->cT ρ aW->gX aa i ρ h (.vals (lW a b)) (.ref aW) [aW]
 |ri{l:List V}{aW t:Addr}{vs:List aw}{n:Nat}:wF h aW t ((vs.length:Int)-1-i)->i<=vs.length->vs.length<=bz->cT ρ t->h.get? t=some (dJ vs n)->b9 ρ h vs l->cT ρ aW->gX aa i ρ h (.vals l.reverse) (.ref aW) [aW]
 |lst{n d:Nat}{aW l:Addr}:h.IsListIter aW l i->ρ[n]? =some (l,d)->cT ρ aW->gX aa i ρ h (.lst n) (.ref aW) [aW]
 |rj{n d k:Nat}{aW l:Addr}:wG h aW l ((k:Int)-1-i)->i<=k->ρ[n]? =some (l,d)->cT ρ aW->gX aa i ρ h (.rev n k) (.ref aW) [aW]
 |enum{n d:Nat}{e aW l:Addr}{old:aw}:IsEnum h e aW i old->h.IsListIter aW l i->ρ[n]? =some (l,d)->e≠aW->cT ρ e->cT ρ aW->gX aa i ρ h (.enum n) (.ref e) [e,aW]
 |zip{a b:j8}{m d:Nat}{z gx c2 cL df c0 dY:Addr}:HR z gx c2 cL df c0 dY->IsZip h z gx c2 .none->IsPair h gx (.ref cL) (.ref df)->(∃x y,IsPair h c2 x y)->ρ[m]? =some (c2,d)->kT ρ h cL c0 i a->kT ρ h df dY i b->cT ρ z->cT ρ cL->cT ρ df ->
   gX aa i ρ h (.zip a b m) (.ref z) [z,c2,cL,df]
 |keys{n v d cU:Nat}{aW a:Addr}{bY:List (Key×aw)}{l:List V}:h.IsKeyIter aW a i bY.length cU->ρ[n]? =some (a,d)->v<=d->(d=v->h.DictAt (keyKind aa.prog aa.w) a bY cU)->l=bY.map (λp=>l3 p.1)->(∀p∈bY,∀s,p.1=.inr s->gW s)->a≠aW->cT ρ aW->gX aa i ρ h (.keys n v l) (.ref aW) [aW]
theorem vg(ay:o.cls=.type T)(aY:T ≠ "tuple" /\ T ≠ "traceback"):HT o:=⟨λws n e=>by rw[e]at ay;exact aY.1 (nw ay).symm,λe=>aY.2 (nw (ay.symm.trans e.1))⟩
theorem vc(off:cT ρ aW)(g:h.get? aW=I o)(ay:o.cls=.type T)(aY:T ≠ "tuple" /\ T ≠ "traceback"):Own [aW] ρ h:=λb al=>by
 rw[bT.mp al];exact⟨o,g,.inl ⟨off,vg ay aY⟩⟩
theorem kT.own(x:kT ρ h i c k z):∃o,h.get? i=I o/\HT o/\¬hY o:=by
 induction x with
 |lst a _=>obtain⟨o,ho,ay,hd⟩:=a;exact⟨o,ho,vg ay (by decide),λ⟨_,_,q⟩=>by rw[hd]at q;cases q⟩
 |tup a _ _ _=>obtain⟨o,ho,ay,hd⟩:=a;exact⟨o,ho,vg ay (by decide),λ⟨_,_,q⟩=>by rw[hd]at q;cases q⟩
theorem gX.own(x:gX aa i ρ h bA it wr):Own wr ρ h:=by
 induction x with
 |tup bG _ _ _ off=>obtain⟨o,ho,ay,hd⟩:=bG;exact vc off ho ay (by decide)
 |range bG off=>exact vc off bG ab (by decide)
 |ri bG _ _ _ _ _ off=>exact vc off bG ab (by decide)
 |lst bG _ off=>obtain⟨o,ho,ay,hd⟩:=bG;exact vc off ho ay (by decide)
 |rj bG _ _ off=>exact vc off bG ab (by decide)
 |keys bG _ _ _ _ _ _ off=>obtain⟨o,ho,ay,hd⟩:=bG;exact vc off ho ay (by decide)
 |enum he bG _ _ off sW=>
  obtain⟨o,ho,ay,hd⟩:=bG;intro b al;rcases cY.mp al with rfl|al
  ·exact⟨_,he,.inl ⟨off,vg ab (by decide)⟩⟩
  ·rw[bT.mp al];exact⟨_,ho,.inl ⟨sW,vg ay (by decide)⟩⟩
 |zip D hz pq iW em s1 s2 sT cj dO=>
  obtain⟨x,y,iW⟩:=iW;obtain⟨LU,g1,e5⟩:=s1.own;obtain⟨LS,g2,n2⟩:=s2.own;intro b al;refine aE λkk=>?_;rcases cY.mp al with rfl|al
  ·exact kk ⟨_,hz,.inl ⟨sT,vg ab (by decide)⟩⟩
  ·rcases cY.mp al with rfl|al
   ·exact kk ⟨_,iW,.inr ⟨⟨_,_,em⟩,[x,y],0,ab⟩⟩
   ·rcases cY.mp al with rfl|al
    ·exact kk ⟨_,g1,.inl ⟨cj,e5.1⟩⟩
    ·refine kk ?_;rw[bT.mp al];exact⟨_,g2,.inl ⟨dO,n2.1⟩⟩
theorem m3(g:h.get? aW=I o)(aM:¬hY o):∀b∈[aW],∀o,h.get? b=I o->¬hY o:=λb al o e=>by
 rw[bT.mp al,g]at e;cases e;exact aM
theorem gX.a7(x:gX aa i ρ h bA it wr):∀b∈wr,∀o,h.get? b=I o->¬hY o:=by
 induction x with
 |tup bG _ _ _ off=>obtain⟨o,ho,ay,hd⟩:=bG;exact m3 ho λ⟨_,_,q⟩=>by rw[hd]at q;cases q
 |range bG off=>exact m3 bG λ⟨_,_,q⟩=>by cases q
 |ri bG _ _ _ _ _ off=>exact m3 bG λ⟨_,_,q⟩=>by cases q
 |lst bG _ off=>obtain⟨o,ho,ay,hd⟩:=bG;exact m3 ho λ⟨_,_,q⟩=>by rw[hd]at q;cases q
 |rj bG _ _ off=>exact m3 bG λ⟨_,_,q⟩=>by cases q
 |keys bG _ _ _ _ _ _ off=>obtain⟨o,ho,ay,hd⟩:=bG;exact m3 ho λ⟨_,_,q⟩=>by rw[hd]at q;cases q
 |enum he bG _ _ off sW=>
  obtain⟨o,ho,ay,hd⟩:=bG;intro b al;rcases cY.mp al with rfl|al
  ·exact m3 he (λ⟨_,_,q⟩=>by cases q) _ (bT.mpr ab)
  ·exact m3 ho (λ⟨_,_,q⟩=>by rw[hd]at q;cases q) _ al
 |zip D hz pq iW em s1 s2 sT cj dO=>
  obtain⟨x,y,iW⟩:=iW;obtain⟨LU,g1,e5⟩:=s1.own;obtain⟨LS,g2,n2⟩:=s2.own;intro b al;rcases cY.mp al with rfl|al
  ·exact m3 hz (λ⟨_,_,q⟩=>by cases q) _ (bT.mpr ab)
  ·rcases cY.mp al with rfl|al
   ·exact m3 iW (λ⟨_,_,q⟩=>by cases q) _ (bT.mpr ab)
   ·rcases cY.mp al with rfl|al
    ·exact m3 g1 e5.2 _ (bT.mpr ab)
    ·exact m3 g2 n2.2 _ al
theorem gX.ext(x:Ext W ρ h aA h')(fG:∀b∈wr,b∉W)(r:gX aa i ρ h bA it wr):gX aa i aA h' bA it wr:=by
 have ho:=r.own;have n3:=r.a7;have ao:∀b∈wr,∀o,h.get? b=I o->h'.get? b=I o:=λb al o e=>by
  obtain⟨o',bg,⟨off,aM⟩|⟨_,vs,n,mr⟩⟩:=ho b al
  ·replace bg:=e ▸ bg;cases bg;exact x.yM e ⟨n3 b al o e,aM.2⟩ (fG b al) off
  ·replace bg:=e ▸ bg;cases bg;rw[mr]at e ⊢;exact x.q3 _ _ _ e
 have hS:∀b o,h.get? b=I o->cT ρ b->cT aA b:=λb o e off=>cT.ext x e off;have y:=x.sub;have one:∀{aW:Addr},aW∈[aW]:=bT.mpr ab
 induction r with
 |tup bG gp g bl off=>
  refine aE λkk=>?_;obtain⟨o,ho,_⟩:=id bG;exact kk (.tup (IsTupleIter.keep bG (ao _ one)) (hS _ _ g gp) (x.q3 _ _ _ g) (bl.ext x) (hS _ _ ho off))
 |range bG off=>exact .range (ao _ one _ bG) (hS _ _ bG off)
 |ri bG h1 h2 gp g bl off=>exact .ri (ao _ one _ bG) h1 h2 (hS _ _ g gp) (x.q3 _ _ _ g) (bl.ext x) (hS _ _ bG off)
 |lst bG e off=>
  refine aE λkk=>?_;obtain⟨o,ho,_⟩:=id bG;obtain⟨_,bg⟩:=y.1 _ _ _ e;exact kk (.lst (bG.at (ao _ one)) bg (hS _ _ ho off))
 |rj bG h1 e off=>
  obtain⟨_,bg⟩:=y.1 _ _ _ e;exact .rj (ao _ one _ bG) h1 bg (hS _ _ bG off)
 |enum he bG e dD off sW=>
  refine aE λkk=>?_;obtain⟨o,ho,_⟩:=id bG;obtain⟨_,bg⟩:=y.1 _ _ _ e;have s5:∀{a b:Addr},b∈[a,b]:=da _ (bT.mpr ab);exact kk (.enum (ao _ (b8 ..) _ he) (bG.at (ao _ s5)) bg dD (hS _ _ he off) (hS _ _ ho sW))
 |@zip a b m d z gx c2 cL df c0 dY D hz pq iW em s1 s2 sT cj dO=>
  refine aE λkk=>?_;obtain⟨u,v,iW⟩:=iW;obtain⟨LU,g1,e5⟩:=s1.own;obtain⟨LS,g2,n2⟩:=s2.own;obtain⟨_,acg⟩:=y.1 _ _ _ em;have m0:z∈[z,c2,cL,df]:=b8 ..;have A4:c2∈[z,c2,cL,df]:=da _ (b8 ..);have s5:cL∈[z,c2,cL,df]:=da _ (da _ (b8 ..));have Fz:df∈[z,c2,cL,df]:=da _ (da _ (da _ (bT.mpr ab)));exact kk (.zip D (ao _ m0 _ hz) (x.q3 _ [.ref cL,.ref df] 0 pq) ⟨u,v,ao _ A4 _ iW⟩ acg (s1.sub y (ao _ s5)) (s2.sub y (ao _ Fz)) (hS _ _ hz sT) (hS _ _ g1 cj) (hS _ _ g2 dO))
 |keys bG e aK hd aj aD dD off=>
  refine aE λkk=>?_;obtain⟨o,ho,_⟩:=id bG;obtain⟨eb,bg,hle,vG⟩:=x.pre _ _ _ e;refine kk (.keys (bG.at (ao _ one)) bg (b7 aK hle) (λq=>?_) aj aD dD (hS _ _ ho off));have dx:_=_:=lO (q ▸ hle) aK;refine aE λkk=>?_;obtain⟨o,aT,ho,ay,tq,r⟩:=hd dx;exact kk ⟨o,aT,vG (q.trans dx.symm) o ho ⟨_,_,tq⟩,ay,tq,r⟩
set_option backward.match.sparseCases true in
theorem ye(ho:s.heap.get? aW=I o)(ay:o.cls=.type T)
  (cq:["enumerate", "zip", "dict_itemiterator", "dict_reverseitemiterator", "odict_iterator", "itertools.zip_longest", "itertools.pairwise"].contains T=aH) (h:Q () s):a3 (bk aa.prog aa.w) A (letOwnedTupleGo target (.ref aW) v) Q E s:=by
 have key:∀f:Expr,(letOwnedTupleGo f (.ref aW) v=cv ()\/letOwnedTupleGo f (.ref aW) v=(match v with
   |.ref a=>(load aW>>=λo=>match o.cls,o.data with
    |.type n,.fields vs=>if (["enumerate", "zip", "dict_itemiterator", "dict_reverseitemiterator", "odict_iterator", "itertools.zip_longest", "itertools.pairwise"].contains n&&vs[0]? == I (rawInt a))=ak then
      (rule "for.unpacks-the-owned-tuple" >>= λae=>updateField aW 0 .none) else cv ()
    |_,_=>cv ())
   |_=>cv ())):=by
  intro f;cases f <;> first|exact .inl ab|(right;cases v <;> rfl)
 rcases key target with e|e
 ·rw[e];exact bQ h
 ·rw[e]
  induction v with
  |ref a=>
   refine aJ (RD ho ?_);rw[ay]
   cases o.data with
   |fields vs=>
    refine(?_:a3 _ _ (if (["enumerate", "zip", "dict_itemiterator", "dict_reverseitemiterator", "odict_iterator", "itertools.zip_longest", "itertools.pairwise"].contains T&&_)=ak then _ else _) _ _ _);rw[cq];exact bQ h
   |_=>exact bQ h
  |_=>exact bQ h
theorem Mo(h:(listAt σ n).map f=I r):∃l,σ[n]? =I (.list l)/\f l=r:=by
 refine aE λkk=>?_;obtain⟨l,e,h⟩:=hr.mp h;refine kk ?_;exact⟨l,yd e,h⟩
theorem Yz(ao:nW k v=ak)(aD:∀s,k=.inr s->gW s):Rel ρ h v (l3 k):=by
 rcases FO ao with ⟨i,t,rfl,rfl⟩|⟨x,t,rfl,rfl⟩
 ·exact .int i t
 ·exact .str x t (aD x ab)
theorem MH(h:FX t=ak):∃aT k p,t=.Tuple aT k p:=by
 induction t using Expr.casesOn with
 |Tuple aT k p=>exact⟨aT,k,p,ab⟩
 |_=>exact fU h
def ahb(s:bp)(wr:List Addr)(Q:Option aw->bp->Prop)(o:Option V):Prop:=∀h',o=U->hX wr s.heap h'->Q U { s with heap:=h' }
def ahd(aa:dE)(A:Around)(s:bp)(ρ:Map)(target:Expr)(wr:List Addr)(bA:Src)(it:aw)(i:Nat)(val:aw)(v:V)(h':Heap)(tk:Nat):Prop:=
 ∀(jd:Unit->bp->Prop) (jf:aw->bp->Prop),(∀fH,hX wr s.heap fH->Rel ρ fH val v->gX aa (i+1) ρ fH bA it wr->jd () (At fH tk s))->a3 (bk aa.prog aa.w) A (letOwnedTupleGo target it val) jd jf (At h' tk s)
def aha(aa:dE)(A:Around)(s:bp)(ρ:Map)(target:Expr)(Q:Option aw->bp->Prop)(wr:List Addr)(bA:Src)(it:aw)(i:Nat)(o:Option V):Prop:=
 ∀v val h' tk,o=I v->hX wr s.heap h'->ahd aa A s ρ target wr bA it i val v h' tk->Q (I val) (At h' tk s)
theorem Own.l4(own:Own [aW] ρ h)(off:cT ρ aW)(aI:Heap.ExtBut aW h h'):hX [aW] h h':=hX.of (λb o al e=>aI b o (λeq=>al (bT.mpr eq)) e) λb al vs n e=>by
 obtain⟨o,bg,⟨_,aM⟩|⟨⟨m,d,hm⟩,_⟩⟩:=own b al
 ·replace bg:=e ▸ bg;cases bg;exact aM.1 vs n ab
 ·replace hm:=bT.mp al ▸ hm;exact off _ (g4 hm) ab
theorem gX.next(aQ:A.handled=U)(x:gX aa i ρ s.heap bA it wr)(de:Inv aa σ ρ s.heap)(e:bA.at σ i=I o)
  (ma:gz bA target=ak) (h1:ahb s wr Q o) (h2:aha aa A s ρ target Q wr bA it i o) :
  a3 (bk aa.prog aa.w) A (pyNext it) Q E s:=by
 have own:=x.own
 induction x with
 |@tup l aW t vs n bG gp g bl off=>
  cases e
  induction aj:l[i]? with
  |none=>
   exact wpAny_pyNext_tuple_end aQ bG (lj g) (by simpa using bl.get_none aj) λh' aI=>h1 h' aj (own.l4 off aI)
  |some v=>
   refine aE λkk=>?_;obtain⟨val,aK,r⟩:=bl.get aj;refine kk (wpAny_pyNext_tuple_item bG (lj g) (x:=val) (by simpa using aK) λh' gv aI=>?_);have ao:=own.l4 off aI.extBut;have aD:=ao.sub own;refine h2 v val h' s.toks aj ao λjd jf aL=>?_;refine aE λkk=>?_;obtain⟨ba,iT,ay,_⟩:=id gv;exact kk (ye (s:={ s with heap:=h' }) iT ay (by decide) (aL h' ao (r.sub aD) (.tup gv gp (aD.2 _ _ _ gp g).2 (bl.sub aD) off)))
 |@range a b aW bG off=>
  cases e;rw[We]at h1 h2;by_cases d6:i<(b-a).toNat
  ·replace h2:=bj d6 ▸ h2;refine wpAny_pyNext_range_item bG (by exact V2 ‹_›) λh' gv aI=>?_;have ao:=own.l4 off aI.extBut;refine h2 _ _ h' (s.toks+1) ab ao λjd jf aL=>?_;refine ye (s:=At h' (s.toks+1) s) gv ab (by decide) (aL h' ao (.int _ _) (.range ?_ off));have aO:((b-a).toNat:Int)-(i:Int)-1=((b-a).toNat:Int)-((i+1:Nat):Int):=by exact zU ..
   replace gv:=aO ▸ ((Int.add_assoc .. : a+(i:Int)+1=a+((i+1:Nat):Int)) ..) ▸ gv;exact gv
  ·replace h1:=bH d6 ▸ h1;exact wpAny_pyNext_range_end aQ bG (by exact V3 ‹_›) λh' aI=>h1 h' ab (own.l4 off aI)
 |@ri l aW t vs n bG aR hz gp g bl off=>
  cases e;have hlen:=bl.length;refine aE λkk=>?_;rcases kh i vs.length with d6|yz
  ·have fb:(vs.length:Int)-1-(i:Int)=((vs.length-1-i:Nat):Int):=by exact KX ‹_›
   replace bG:=fb ▸ bG;have ys:l[l.length-1-i]? =I (l[l.length-1-i]'(As (hlen ▸ d6))):=iw (As (hlen ▸ d6));obtain⟨val,aK,r⟩:=bl.get ys;replace aK:=(oD (hlen ..)) ▸ aK;refine kk (Xs bG g hz aK λh' tk gv aI=>?_);have ao:=own.l4 off aI.extBut;have aD:=ao.sub own;refine h2 _ val h' tk (by rw[aka (by exact w3 ‹_› ‹_›)];exact ys) ao λjd jf aL=>?_;refine ye (s:=At h' tk s) gv ab (by decide) (aL h' ao (r.sub aD) (.ri ?_ d6 hz gp (aD.2 _ _ _ gp g).2 (bl.sub aD) off));have aO:((vs.length-1-i:Nat):Int)-1=(vs.length:Int)-1-((i+1:Nat):Int):=by exact KO ‹_›
   replace gv:=aO ▸ gv;exact gv
  ·have fb:(vs.length:Int)-1-(i:Int) = -1:=by exact KW ‹_› ‹_›
   replace bG:=fb ▸ bG;exact kk (Xr aQ bG λh' aI=>h1 h' (iL (by rw[Dy,<-hlen];exact yz)) (own.l4 off aI))
 |@lst n d aW l bG bK off=>
  refine aE λkk=>?_;obtain⟨m,b4,rfl⟩:=Mo e;obtain⟨vs,k,g,aj,bl⟩:=de.list b4 bK;refine kk ?_
  induction hm:m[i]? with
  |none=>
   exact wpAny_pyNext_list_end aQ bG (gd g) (by simpa using bl.get_none hm) λh' aI=>h1 h' hm (own.l4 off aI)
  |some v=>
   refine aE λkk=>?_;obtain⟨val,aK,r⟩:=bl.get hm;refine kk (wpAny_pyNext_list_item bG (gd g) (x:=val) (by simpa using aK) λh' gv aI=>?_);have ao:=own.l4 off aI.extBut;refine h2 v val h' s.toks hm ao λjd jf aL=>?_;refine aE λkk=>?_;obtain⟨ba,iT,ay,_⟩:=id gv;exact kk (ye (s:={ s with heap:=h' }) iT ay (by decide) (aL h' ao (r.sub (ao.sub own)) (.lst gv bK off)))
 |@rj n d k aW l bG aR bK off=>
  refine aE λkk=>?_;refine bind_some e λm em e=>?_;refine kk ?_;by_cases hj:m.length=k
  case neg=>replace e:=bH hj ▸ e;exact bh e
  replace e:=bj hj ▸ e;cases e;refine aE λkk=>?_;obtain⟨vs,j,g,aj,bl⟩:=de.list (yd em) bK;have hlen:=bl.length;rcases kh i k with d6|yz
  ·have fb:(k:Int)-1-(i:Int)=((k-1-i:Nat):Int):=by exact KX ‹_›
   replace bG:=fb ▸ bG;have ys:m[m.length-1-i]? =I (m[m.length-1-i]'(As (hj ▸ d6))):=iw (As (hj ▸ d6));obtain⟨val,aK,r⟩:=bl.get ys;replace aK:=hj ▸ aK;refine kk (Xv bG g aK λh' gv aI=>?_);have ao:=own.l4 off aI.extBut;refine h2 _ val h' s.toks (by rw[aka (by exact w3 ‹_› (oD ‹_›))];exact ys) ao λjd jf aL=>?_;refine ye (s:={ s with heap:=h' }) gv ab (by decide) (aL h' ao (r.sub (ao.sub own)) (.rj ?_ d6 bK off));rw[(by exact KO ‹_› : ((k-1-i:Nat):Int)-1=(k:Int)-1-((i+1:Nat):Int))]at gv;exact gv
  ·have fb:(k:Int)-1-(i:Int) = -1:=by exact KW ‹_› ‹_›
   replace bG:=fb ▸ bG;exact kk (Xu aQ bG λh' aI=>h1 h' (iL (by rw[Dy,hj];exact yz)) (own.l4 off aI))
 |@enum n d cC aW l old he bG bK dD off sW=>
  refine aE λkk=>?_;obtain⟨m,b4,rfl⟩:=Mo e;obtain⟨vs,k,g,aj,bl⟩:=de.list b4 bK;have out:∀b,b∉[cC,aW]->b≠cC/\b≠aW:=λb al=>⟨λeq=>al (by rw[eq];exact b8 ..),λeq=>al (by rw[eq];exact da _ (bT.mpr ab))⟩;have hc:∀b∈[cC,aW],∀vs n,s.heap.get? b≠I (dJ vs n):=λb al vs n e=>by
   obtain⟨ba,bg,⟨_,aM⟩|⟨⟨mm,gR,hm⟩,_⟩⟩:=own b al
   ·replace bg:=e ▸ bg;cases bg;exact aM.1 vs n ab
   ·rcases cY.mp al with rfl|al
    ·exact off _ (g4 hm) ab
    ·replace hm:=bT.mp al ▸ hm;exact sW _ (g4 hm) ab
  refine kk ?_
  induction hm:m[i]? with
  |none=>
   replace h1:=hm ▸ h1;exact wpAny_pyNext_enum_end aQ he bG (gd g) (by simpa using bl.get_none hm) λh' aI=>h1 h' ab (hX.of (λb o al e=>aI b o (out b al).2 e) hc)
  |some v=>
   replace h2:=hm ▸ h2;refine aE λkk=>?_;obtain⟨aT,WQ,pp,rfl⟩:=MH ma;obtain⟨val,aK,r⟩:=bl.get hm;refine kk (wpAny_pyNext_enum_item he bG (gd g) (x:=val) (by simpa using aK) dD λh' aaz gv cq gf ju=>?_);refine h2 _ _ h' (s.toks+1) ab (hX.of (λb o al e=>ju b o (out b al).1 (out b al).2 e) hc:hX [cC,aW] s.heap h') λjd jf aL=>?_;refine wpAny_letOwnedTupleGo_enum (s:=At h' (s.toks+1) s) aaz λfH GD rG=>?_;have vQ:hX [cC,aW] s.heap fH:=hX.of (λb o al e=>(rG.2 b (out b al).1).trans (ju b o (out b al).1 (out b al).2 e)) hc;have aD:=vQ.sub own;refine aL fH vQ (.tup (vs:=[.int i s.toks,val]) (n:=0) de.nQ ((rG.2 _ (Nat.ne_of_gt (Heap.lt_size he):s.heap.objs.size≠cC)).trans cq) (by show 2<=bz;decide) (.cons (.int _ _) (.cons (r.sub aD) .nil))) (.enum (old:=val) ?_ (gv.at λo e=>(rG.2 aW dD.symm).trans e) bK dD off sW);replace GD:=((ab:(i:Int)+1=((i+1:Nat):Int)) ..) ▸ GD;exact GD
 |@zip a b mm d z gx c2 cL df c0 dY D hz pq iW em s1 s2 sT cj dO=>
  refine aE λkk=>?_;refine bind_some e λl ax e=>?_;obtain⟨m,aO,rfl⟩:=hr.mp e;obtain⟨vs,dx,dN⟩:=s1.side de ax;obtain⟨ws,eH,ef⟩:=s2.side de aO;have Z:zh s.heap z gx c2 cL df c0 dY i vs ws (uB a) (uB b) .none:=⟨D,hz,pq,iW,dx,eH⟩;have A4:c2∈[z,c2,cL,df]:=da _ (b8 ..);have s5:cL∈[z,c2,cL,df]:=da _ (da _ (b8 ..));have Fz:df∈[z,c2,cL,df]:=da _ (da _ (da _ (bT.mpr ab)));have kb:∀h',wu s.heap h' z c2 cL df->(∃x y,IsPair h' c2 x y)->hX [z,c2,cL,df] s.heap h':=λh' ao aU=>by
   obtain⟨x,y,aY⟩:=aU;refine⟨λc o ay e=>ao c o (λeq=>ay (eq ▸ (b8 .. : z∈[z,c2,cL,df]))) (λeq=>ay (eq ▸ A4)) (λeq=>ay (eq ▸ s5)) (λeq=>ay (eq ▸ Fz)) e,λc ay vs n e=>?_⟩;obtain⟨ba,bg,⟨_,aM⟩|⟨⟨ak3,gR,hm⟩,_⟩⟩:=own c ay
   ·replace bg:=e ▸ bg;cases bg;exact absurd ab (aM.1 vs n)
   ·refine aE λkk=>?_;rcases cY.mp ay with rfl|ay
    ·exact absurd ab (sT _ (g4 hm))
    ·rcases cY.mp ay with rfl|ay
     ·exact kk ⟨[x,y],0,aY⟩
     ·rcases cY.mp ay with rfl|ay
      ·exact absurd ab (cj _ (g4 hm))
      ·refine kk ?_;replace hm:=bT.mp ay ▸ hm;exact absurd ab (dO _ (g4 hm))
  have ends:vs[i]? =U\/ws[i]? =U->pairUp l[i]? m[i]? =U->a3 (bk aa.prog aa.w) A (pyNext (.ref z)) Q E s:=λhe hp=>Sv aQ Z he λh' ao aY=>h1 h' hp (kb h' ao aY);refine kk ?_
  induction aj:l[i]? with
  |none=>exact ends (.inl (dN.get_none aj)) (by rw[aj];rfl)
  |some x=>
   induction hm:m[i]? with
   |none=>exact ends (.inr (ef.get_none hm)) (by rw[aj,hm];rfl)
   |some y=>
    refine aE λkk=>?_;obtain⟨Tb,Zn,VS⟩:=dN.get aj;obtain⟨Ta,Zm,ER⟩:=ef.get hm;obtain⟨aT,WQ,pp,rfl⟩:=MH ma;refine kk (Ss Z Zn Zm λh' wx cq ao=>?_);refine h2 (.tup [x,y]) _ h' s.toks (by rw[aj,hm];rfl) (kb h' ao wx.out) λjd jf aL=>?_;refine wpAny_letOwnedTupleGo_zip (s:={ s with heap:=h' }) wx.zip λfH Zh rG=>?_;have up:∀c o,c≠z->h'.get? c=I o->fH.get? c=I o:=λc o ay e=>(rG.2 c ay).trans e;have Lx:∃x y,IsPair fH c2 x y:=by obtain⟨x,y,e⟩:=wx.out;exact⟨x,y,up _ _ D.TOz e⟩
    have Nr:=kb fH (λc o c0 dY j6 i8 e=>up c o c0 (ao c o c0 dY j6 i8 e):wu s.heap fH z c2 cL df) Lx;have aD:=Nr.sub own;exact aL fH Nr (.tup (vs:=[Tb,Ta]) (n:=0) de.nQ (up _ _ (Nat.ne_of_gt (Heap.lt_size hz):s.heap.objs.size≠z) cq) (by show 2<=bz;decide) (.cons (VS.sub aD) (.cons (ER.sub aD) .nil)))
     (.zip D Zh (up _ _ D.TIz wx.its) Lx em (s1.on (wx.one.keep (λo e=>up _ o D.i1z e) λo e=>up _ o D.Co e) aD) (s2.on (wx.two.keep (λo e=>up _ o D.i2z e) λo e=>up _ o D.Cn e) aD) sT cj dO)
 |@keys n v d cU aW a bY l bG bK aK hd aj aD dD off=>
  have pf:nD σ n=I v/\o=l[i]?:=by
   have e:(if nD σ n=I v then I l[i]? else U)=I o:=e;by_cases q:nD σ n=I v
   ·replace e:=bj q ▸ e;cases e;exact⟨q,ab⟩
   ·replace e:=bH q ▸ e;exact bh e
  refine aE λkk=>?_;obtain⟨pf,rfl⟩:=pf;have b4:∃t,σ[n]? =I (.dict v t):=by
   unfold nD at pf
   induction q:σ[n]? with
   |none=>replace pf:=q ▸ pf;exact bh pf
   |some ba=>
    replace pf:=q ▸ pf
    induction ba using O.casesOn with
    |dict v' t=>cases pf;exact⟨t,ab⟩
    |_=>exact bh pf
  obtain⟨t,b4⟩:=b4;have fm:=hd ((de.dict b4 bK).1:d=v);refine kk ?_
  induction aI:bY[i]? with
  |none=>
   refine wpAny_pyNext_dict_end aQ bG fm aI λh' jt=>h1 h' ?_ (own.l4 off jt);rw[aj,ki,aI];rfl
  |some p=>
   obtain⟨k,u⟩:=p;refine wpAny_pyNext_dict_item bG fm aI λkey h' Gu gv kE=>?_;have ao:=own.l4 off kE.extBut;refine h2 (l3 k) key h' s.toks (by rw[aj,ki,aI];rfl) ao λjd jf aL=>?_;exact letGo_keyiter (s':={ s with heap:=h' }) gv (aL h' ao (Yz Gu (aD _ (g4 aI))) (.keys gv bK aK (λae=>fm.extBut kE.extBut dD) aj aD dD off))
def ad3(aa:dE):Src->Map->Heap->aw->Prop
 |.vals l,ρ,h,v=>(∃t vs n,v=.ref t/\cT ρ t/\h.get? t=I (dJ vs n)/\b9 ρ h vs l) \/
   ∃r a b t u w,v=.ref r/\IsRange h r a b 1 t u w/\Builtin.Range.small a b 1=ak/\l=lW a b
 |.lst n,ρ,h,v=>∃a d vs k,v=.ref a/\ρ[n]? =I (a,d)/\h.get? a=I (er vs k)
 |.keys n u l,ρ,h,v=>∃a bY,v=.ref a/\ρ[n]? =I (a,u)/\(a==sysModules)=aH/\h.DictOf (keyKind aa.prog aa.w) a bY/\l=bY.map (λp=>l3 p.1)/\∀p∈bY,∀s,p.1=.inr s->gW s
 |_,_,_,_=>False
def nk(aa:dE)(al:Heap)(bA:Src)(ρ:Map)(h:Heap)(v:aw):Prop:=ad3 aa bA ρ h v\/∃wr,gX aa 0 ρ h bA v wr/\∀b∈wr,al.get? b=U
theorem Al(ao:∀b o,h.get? b=I o->∃o',h'.get? b=I o'):h.get? h'.objs.size=U:=by
 induction e:h.get? h'.objs.size with
 |none=>rfl
 |some o=>obtain⟨o',bg⟩:=ao _ _ e;exact absurd (Heap.lt_size bg) (hZ _)
theorem gX.self(x:gX aa i ρ s.heap bA it wr)(h:Q it s):a3 (bk aa.prog aa.w) A (pyIter it) Q E s:=by
 induction x with
 |tup bG _ _ _ _=>exact wpAny_pyIter_tupleiter bG h
 |range bG _=>exact wpAny_pyIter_rangeiter bG h
 |ri bG _ _ _ _ _ _=>exact YW bG h
 |lst bG _ _=>exact wpAny_pyIter_listiter bG h
 |rj bG _ _ _=>exact YX bG h
 |enum he _ _ _ _ _=>exact wpAny_pyIter_enum he h
 |zip _ hz _ _ _ _ _ _ _ _=>exact wpAny_pyIter_zip hz h
 |keys bG _ _ _ _ _ _ _=>exact wpAny_pyIter_keyiter bG h
theorem nk.iter(de:Inv aa σ ρ s.heap)(x:Ext W d1 al ρ s.heap)(r:nk aa al bA ρ s.heap v)
  (h:∀it wr h',(∀b o,s.heap.get? b=I o->h'.get? b=I o)->gX aa 0 ρ h' bA it wr->(∀b∈wr,al.get? b=U)->Q it { s with heap:=h' }):a3 (bk aa.prog aa.w) A (pyIter v) Q E s:=by
 have off:=de.nQ;have n1:∀ba b o,s.heap.get? b=I o->(s.heap.push ba).get? b=I o:=λba b o e=>ed _ e;have one:∀b∈[s.heap.objs.size],al.get? b=U:=λb al=>by rw[bT.mp al];exact(Al x.alive)
 rcases r with r|⟨wr,it,hw⟩
 ·induction bA with
  |vals l=>
   refine aE λkk=>?_;rcases r with ⟨t,vs,n,rfl,gp,g,bl⟩|⟨r,a,b,t,u,w,rfl,aP,Zx,rfl⟩
   ·exact kk (RB (lj g) (h _ [s.heap.objs.size] _ (n1 _) (.tup ⟨_,gJ _ ab,ab,ab⟩ gp (n1 _ _ _ g) (bl.sub (Sub.keeps (n1 _))) off) one))
   ·refine kk (wpAny_pyIter_range aP Zx (h _ [s.heap.objs.size] _ (n1 _) (.range ?_ off) one));have e:Builtin.Range.rangeSize a b 1=((b-a).toNat:Int)-((0:Nat):Int):=by rw[rangeSize_one];split;exact(Sd (Int.sub_nonneg_of_le (w8 ‹_›))).symm.trans (Se _).symm;rw[Int.toNat_of_nonpos (aki (sv.mp ‹_›))];rfl
    rw[<-e,(by exact Se _:a+((0:Nat):Int)=a)];exact gJ _ ab
  |lst n=>
   refine aE λkk=>?_;obtain⟨a,d,vs,k,rfl,bK,g⟩:=r;exact kk (ai1 (gd g) (h _ [s.heap.objs.size] _ (n1 _) (.lst ⟨_,gJ _ ab,ab,ab⟩ bK off) one))
  |keys n u l=>
   refine aE λkk=>?_;obtain⟨a,bY,rfl,bK,Ge,hd,aj,aD⟩:=r;obtain⟨cU,fm⟩:=hd.dictAt;exact kk (ai2 Ge fm (h _ [s.heap.objs.size] _ (n1 _) (.keys ⟨_,gJ _ ab,ab,ab⟩ bK (cI _) (λae=>fm.push _) aj aD (fZ fm.lt_size) off) one))
  |enum _=>exact r.elim
  |zip _ _ _=>exact r.elim
  |rev _ _=>exact r.elim
 ·exact it.self (h _ wr s.heap (λae az e=>e) it hw)
end
section
variable {al:Heap}{wr:List Addr}{aA d1:Map}{mg mb:Str->Option aw}
variable {loc:Loc}{n:Nat}
def qI(aa:dE)(env:Env)(ns:ct):Loc->Map->Heap->Unit->Prop:=λloc ρ h ae=>c9 aa env ns loc ρ h
theorem yJ{α:Type}{l:List α}{i j:Nat}{a b:α}(h:(l.set i a)[j]? =I b):(i=j/\b=a)\/(i≠j/\l[j]? =I b):=by
 by_cases fE:i=j
 ·subst fE
  left
  rcases kh i l.length with aj|aj
  ·replace h:=zT aj ▸ h;cases h;exact⟨ab,ab⟩
  ·rw[iL (by simpa using aj)]at h;exact bh h
 ·replace h:=oC fE ▸ h;exact .inr ⟨fE,h⟩
theorem rp{h:Heap}{a:Addr}{m:Str->Option aw}(aM:h.Ns a m):∃o,h.get? a=I o/\hY o:=by
 refine aE λkk=>?_;obtain⟨o',aT,cU,ho,hd,r⟩:=aM;exact kk ⟨o',ho,aT,cU,hd⟩
theorem Yv(hd:o.data=.cell v):kY o o' where
 tup:=λvs n e=>by replace hd:=e ▸ hd;cases hd
 dict:=λd=>by obtain⟨_,_,e⟩:=d;replace e:=hd.symm.trans e;cases e
 bb:=λd=>by obtain⟨_,_,e,_⟩:=d;replace e:=hd.symm.trans e;cases e
theorem aaQ(F:c9 aa env ns loc ρ s.heap):(env.scope.kind == .class || (env.scope.kind == .module&&env.locals != env.globals))=false:=by rw[F.kind];rfl
theorem ah.Kl{x:Str}{i:Nat}{v:aw}{a:V}(F:c9 aa env ns loc ρ s.heap)(de:Inv aa σ ρ s.heap)(a8:aa.get? env.locals=U)(aD:slot ns x=I (i,.local))(r:Rel ρ s.heap v a) :
  ah aa [env.locals] ρ s A (qI aa env ns) (storeName env x v) (.ok (loc.set i (I a)) σ):=by
 refine aE λkk=>?_;obtain⟨m,aM,aK⟩:=F.vars;refine kk (wpAny_storeName_local (F.kindOf aD) aM (λh' mh kE=>?_) (aaQ F));have ao:∀b o,s.heap.get? b=I o->b∉[env.locals]->h'.get? b=I o:=λb o e al=>kE.extBut b o (λeq=>al (bT.mpr eq)) e;have aI:Ext [env.locals] ρ s.heap ρ h':=Ext.of_keep (λb hm=>by rw[bT.mp hm];exact F.jq) ao λb o e hm=>by
  rw[bT.mp hm]at e ⊢;refine aE λkk=>?_;obtain⟨o',bg,eb⟩:=rp mh;obtain⟨oW,j1,Hj⟩:=rp aM;refine kk ?_;replace j1:=e ▸ j1;cases j1;exact⟨o',bg,FN Hj eb⟩
 refine⟨ρ,h',s.toks+1,ab,de.keep aI (λb hm=>by rw[bT.mp hm];exact⟨F.jq,a8⟩) ao,aI,?_⟩;exact {
  names:=F.names
  kind:=F.kind
  globals:=F.globals
  kO:=F.kO
  vars:=by
   refine⟨_,mh,λy j u h1 h2=>?_⟩;rcases yJ h2 with ⟨rfl,e⟩|⟨dD,h2⟩
   ·cases e;rw[Aj h1 aD];exact⟨v,bj ab,r.ext aI⟩
   ·refine aE λkk=>?_;obtain⟨val,e,aP⟩:=aK y j u h1 h2;refine kk ⟨val,?_,aP.ext aI⟩;rw[bH (λeq=>by rw[eq,aD]at h1;cases h1;exact dD ab)];exact e
  cell:=λy j h1=>by
   refine aE λkk=>?_;obtain⟨c,o,e,⟨ba,iT,hd⟩,aK⟩:=F.cell y j h1;refine kk ⟨c,o,e,⟨ba,ao _ _ iT (λhm=>(F.h8 y c e).1 (bT.mp hm)),hd⟩,λu h2=>?_⟩;rcases yJ h2 with ⟨rfl,_⟩|⟨dD,h2⟩
   ·replace h1:=aD ▸ Aj h1 aD ▸ h1;cases h1
   ·refine aE λkk=>?_;obtain⟨val,bg,aP⟩:=aK u h2;exact kk ⟨val,bg,aP.ext aI⟩
  live:=λy c e=>by
   refine aE λkk=>?_;obtain⟨o,ba,iT,hd⟩:=F.live y c e;exact kk ⟨o,ba,ao _ _ iT (λhm=>(F.h8 y c e).1 (bT.mp hm)),hd⟩
  jq:=F.jq
  h8:=F.h8
  apart:=F.apart
  top:=F.top }
theorem ah.Vp{x:Str}{i:Nat}{v:aw}{a:V}(F:c9 aa env ns loc ρ s.heap)(de:Inv aa σ ρ s.heap)(a8:∀b∈dp env,aa.get? b=U)(aD:slot ns x=I (i,.cell))(r:Rel ρ s.heap v a) :
  ah aa (dp env) ρ s A (qI aa env ns) (storeName env x v) (.ok (loc.set i (I a)) σ):=by
 refine aE λkk=>?_;obtain⟨c,nO,ay,tr,alb⟩:=F.cell x i aD;have NJ:c∈dp env:=aaW (k:=.cell) (by rw[F.names];exact mem_of_lookup (xG aD)) ay;refine kk (wpAny_storeName_cell F.kind (F.kindOf aD) ay tr λh' mh kE=>?_);have ao:∀b o,s.heap.get? b=I o->b∉[c]->h'.get? b=I o:=λb o e al=>kE.extBut b o (λeq=>al (bT.mpr eq)) e;have aI:Ext [c] ρ s.heap ρ h':=Ext.of_keep (λb hm=>by rw[bT.mp hm];exact(F.h8 x c ay).2) ao λb o e hm=>by
  rw[bT.mp hm]at e ⊢;refine aE λkk=>?_;obtain⟨o',bg,_⟩:=mh;obtain⟨oW,j1,Hj⟩:=tr;refine kk ?_;replace j1:=e ▸ j1;cases j1;exact⟨o',bg,Yv Hj⟩
 refine⟨ρ,h',s.toks,ab,de.keep aI (λb hm=>by rw[bT.mp hm];exact⟨(F.h8 x c ay).2,a8 c NJ⟩) ao,aI.weak λb hm=>.inl (by rw[bT.mp hm];exact NJ),?_⟩;exact {
  names:=F.names
  kind:=F.kind
  globals:=F.globals
  kO:=F.kO
  vars:=by
   refine aE λkk=>?_;obtain⟨m,⟨o,aT,cU,ho,ey⟩,aK⟩:=F.vars;refine kk ⟨m,⟨o,aT,cU,ao _ _ ho (λhm=>(F.h8 x c ay).1 (bT.mp hm).symm),ey⟩,λy j u h1 h2=>?_⟩;rcases yJ h2 with ⟨rfl,_⟩|⟨dD,h2⟩
   ·replace h1:=aD ▸ Aj h1 aD ▸ h1;cases h1
   ·refine aE λkk=>?_;obtain⟨val,e,aP⟩:=aK y j u h1 h2;exact kk ⟨val,e,aP.ext aI⟩
  cell:=λy j h1=>by
   refine aE λkk=>?_;obtain⟨d,o,e,⟨ba,iT,hd⟩,aK⟩:=F.cell y j h1;refine kk ?_;by_cases vU:d=c
   ·subst vU;have F9:=F.apart y x d e ay;subst F9;replace h1:=aD ▸ h1;cases h1;refine⟨d,I v,e,mh,λu h2=>?_⟩;rcases yJ h2 with ⟨_,e⟩|⟨dD,h2⟩
    ·cases e;exact⟨v,ab,r.ext aI⟩
    ·exact absurd ab dD
   ·refine⟨d,o,e,⟨ba,ao _ _ iT (λhm=>vU (bT.mp hm)),hd⟩,λu h2=>?_⟩;rcases yJ h2 with ⟨rfl,_⟩|⟨dD,h2⟩
    ·replace e:=ay ▸ Aj h1 aD ▸ e;cases e;exact absurd ab vU
    ·refine aE λkk=>?_;obtain⟨val,bg,aP⟩:=aK u h2;exact kk ⟨val,bg,aP.ext aI⟩
  live:=λy d e=>by
   refine aE λkk=>?_;obtain⟨o,ba,iT,hd⟩:=F.live y d e;refine kk ?_;by_cases vU:d=c
   ·subst vU;exact⟨_,mh⟩
   ·exact⟨o,ba,ao _ _ iT (λhm=>vU (bT.mp hm)),hd⟩
  jq:=F.jq
  h8:=F.h8
  apart:=F.apart
  top:=F.top }
structure wz(aa:dE)(env:Env)(ns:ct)(W:List Addr)(st:Str->V->Loc->M Loc):Prop where
 store:∀(x:Str) (v:aw) (a:V) (loc:Loc) (σ:aq) (ρ:Map) (s:bp) (A:Around),c9 aa env ns loc ρ s.heap->Inv aa σ ρ s.heap->Rel ρ s.heap v a->ah aa W ρ s A (qI aa env ns) (storeName env x v) (st x a loc σ)
 quiet:∀(x:Str) (a:V) (loc:Loc) (σ:aq) (e:V) (af:aq),st x a loc σ≠.exc e af
theorem Kn(a8:aa.get? env.locals=U):wz aa env ns [env.locals] (ff ns) where
 store:=λx v a loc σ ρ s A F de r=>by
  unfold ff
  induction aD:slot ns x with
  |none=>exact aS
  |some p=>
   obtain⟨i,k⟩:=p;cases k <;> first|exact aS|exact ah.Kl F de a8 aD r
 quiet:=λx a loc σ e af=>by
  unfold ff
  induction slot ns x with
  |none=>exact nofun
  |some p=>
   obtain⟨i,k⟩:=p;cases k <;> exact nofun
theorem sJ(a8:∀b∈dp env,aa.get? b=U):wz aa env ns (dp env) (stLoc ns) where
 store:=λx v a loc σ ρ s A F de r=>by
  unfold stLoc
  induction aD:slot ns x with
  |none=>exact aS
  |some p=>
   obtain⟨i,k⟩:=p;cases k <;> first
    |exact aS
    |exact ah.Vp F de a8 aD r
    |exact(ah.Kl F de (a8 _ (b8 ..)) aD r).weak λb hm=>.inl (by rw[bT.mp hm];exact b8 ..)
 quiet:=λx a loc σ e af=>by
  unfold stLoc
  induction slot ns x with
  |none=>exact nofun
  |some p=>
   obtain⟨i,k⟩:=p;cases k <;> exact nofun
theorem ah.bindName(h:ah aa W ρ s A R (storeName env x v) r):ah aa W ρ s A R (PySem.bindName env x v) r:=
 ah.wrap (λae az=>wpAny_bindName) h
theorem L0(h:x6 t=I q):t=.Name q.1 q.2:=by
 cases t <;> first
  |exact bh h
  |(cases h;rfl)
theorem Ui(h:Ad t=I q):t=.Tuple q.1 q.2.1 q.2.2:=by
 cases t <;> first
  |exact bh h
  |(cases h;rfl)
noncomputable def rt(q:Str×Pos):Expr:=.Name q.1 q.2
theorem Xq:∀{eB:List Expr}{dF:List (Str×Pos)},x5 eB=I dF->eB=dF.map rt:=by
 intro eB
 induction eB with
 |nil=>intro dF h;cases h;rfl
 |cons t eB au=>
  intro dF h;refine bind_some h λq h1 h=>?_;obtain⟨r,h2,rfl⟩:=hr.mp h;rw[L0 h1,au h2];rfl
theorem Px:assignEach (rt q::r) env=(aH,assign (rt q) env)::assignEach r env:=rfl
theorem Py{dF:List (Str×Pos)}:(assignEach (dF.map rt) env).findIdx? (·.1)=U/\(assignEach (dF.map rt) env).length=dF.length:=by
 induction dF with
 |nil=>exact⟨ab,ab⟩
 |cons q dF au=>rw[eE,Px,List.findIdx?_cons,au.1,gy,au.2];exact⟨ab,ab⟩
theorem adm{st:Str->V->Loc->M Loc}(S:wz aa env ns W st){dF:List (Str×Pos)}:∀(vs:List aw) (l:List V) (loc:Loc) (σ:aq) (ρ:Map) (s:bp),c9 aa env ns loc ρ s.heap->Inv aa σ ρ s.heap->b9 ρ s.heap vs l ->
  ah aa W ρ s A (qI aa env ns) (assignInOrder ((assignEach (dF.map rt) env).map (·.2)) vs) (r0 st dF l loc σ):=by
 induction dF with
 |nil=>
  intro vs l loc σ ρ s F de r
  induction l with
  |nil=>cases r;exact ah.ret de F
  |cons a l=>exact aS
 |cons q dF au=>
  intro vs l loc σ ρ s F de r
  cases r with
  |nil=>exact aS
  |@cons v vs a l r rs=>
   rw[eE,Px];show ah aa W ρ s A (qI aa env ns) (PySem.holding vs (assign (.Name q.1 q.2) env v)>>=λae=>assignInOrder ((assignEach (dF.map rt) env).map (·.2)) vs) ((st q.1 a loc>>=λbJ=>r0 st dF l bJ) σ);refine ah.bind (R:=qI aa env ns) (ah.holding ?_) λiA a0 aZ H tk ae bo bO jF=>au vs l iA a0 aZ _ jF bo (rs.ext bO);rw[RN];exact ah.standAt (ah.bindName (S.store q.1 v a loc σ ρ s A F de r))
theorem adn{st:Str->V->Loc->M Loc}{dF:List (Str×Pos)}:∀{l:List V}{loc bJ:Loc}{σ af:aq},r0 st dF l loc σ=.ok bJ af->dF.length=l.length:=by
 induction dF with
 |nil=>intro l loc bJ σ af h;induction l with
  |nil=>rfl
  |cons _ _=>exact iF h
 |cons q dF au=>intro l loc bJ σ af h;induction l with
  |nil=>exact iF h
  |cons v vs=>
   refine aE λkk=>?_;obtain⟨l₁,a0,_,ax⟩:=wk (m:=st q.1 v loc) (f:=λbJ=>r0 st dF vs bJ) h;refine kk ?_;exact dR (· + 1) (au ax)
theorem adl{st:Str->V->Loc->M Loc}(S:wz aa env ns W st){dF:List (Str×Pos)}:∀{l:List V}{loc:Loc}{σ:aq}{e:V}{af:aq},r0 st dF l loc σ≠.exc e af:=by
 induction dF with
 |nil=>intro l loc σ e af h;cases l <;> first|exact sU h|exact mx h
 |cons q dF au=>intro l loc σ e af h;induction l using List.casesOn with
  |nil=>exact mx h
  |cons v vs=>
   rcases y9 (m:=st q.1 v loc) (f:=λbJ=>r0 st dF vs bJ) (λb=>mx (b.symm.trans h)) with ⟨l₁,a0,_,ax⟩|⟨_,_,h1,_⟩
   ·exact au (ax.symm.trans h)
   ·exact S.quiet _ _ _ _ _ _ h1
theorem Hx{st:Str->V->Loc->M Loc}(S:wz aa env ns W st){t:Expr}{a:V}{e:V}{af:aq}:bindTo st t a loc σ≠.exc e af:=by
 unfold bindTo bindNames
 induction x6 t with
 |some q=>exact S.quiet _ _ _ _ _ _
 |none=>induction Ad t with
  |none=>exact λh=>mx h
  |some q=>induction a using V.casesOn with
   |tup l=>dsimp only;induction x5 q.1 with
    |none=>exact λh=>mx h
    |some dF=>exact adl S
   |_=>exact λh=>mx h
theorem ah.bindTo{st:Str->V->Loc->M Loc}(S:wz aa env ns W st){t:Expr}{v:aw}{a:V}(aQ:A.handled=U)(F:c9 aa env ns loc ρ s.heap)(de:Inv aa σ ρ s.heap)(r:Rel ρ s.heap v a) :
  ah aa W ρ s A (qI aa env ns) (assign t env v) (bindTo st t a loc σ):=by
 induction aP:Mine.Internal.bindTo st t a loc σ with
 |bad=>exact aS
 |exc _ _=>exact absurd aP (Hx S)
 |ok iA a0=>
  unfold Mine.Internal.bindTo Mine.Internal.bindNames at aP
  induction h1:x6 t with
  |some q=>
   rw[h1]at aP;rw[L0 h1,RN,<-aP];exact ah.standAt (ah.bindName (S.store q.1 v a loc σ ρ s A F de r))
  |none=>
   rw[h1]at aP
   induction h2:Ad t with
   |none=>rw[h2]at aP;exact iF aP
   |some q=>
    rw[h2]at aP
    induction r using Rel.cs with
    |@tup q6 vs nn l _ g aj bl=>
     dsimp only at aP
     induction h3:x5 q.1 with
     |none=>rw[h3]at aP;exact iF aP
     |some dF=>
      rw[h3]at aP;rw[Ui h2,Xq h3,arm_assign_Tuple];refine ah.standAt ?_;unfold unpack;refine aJ (ir ?_);rw[Py.1,(by rw[Py.2,adn aP,k1,bl.length]:(assignEach (dF.map rt) env).length=vs.toArray.size)];refine wpAny_unpackItems_tuple aQ (lj g) λh' aI=>?_;have ao:∀b o,s.heap.get? b=I o->h'.get? b=I o:=λb o e=>aI b o (fZ (Heap.lt_size e)) e;have aD:=adm (A:=A) (dF:=dF) S vs l loc σ ρ { s with heap:=h' } (F.eV (Ext.of_keeps ao)) (de.keeps ao) (bl.sub (Sub.keeps ao));rw[aP]at aD;refine cH aD (λb s' hp=>?_) λae az x=>x;obtain⟨aZ,H,tk,rfl,bo,bO,jF⟩:=hp;exact⟨aZ,H,tk,ab,bo,(Ext.of_keeps ao).trans bO,jF⟩
    |_=>exact iF aP
end
section
variable {al:Heap}{wr:List Addr}{aA d1:Map}{mg mb:Str->Option aw}
variable {loc:Loc}{n:Nat}
variable (aa C n) in
def pL(e:Expr):Prop:=∀(env:Env) (ns:ct) (loc:Loc) (σ:aq) (ρ:Map) (s:bp) (A:Around),eh aa A n C.calm->c9 aa env ns loc ρ s.heap->Inv aa σ ρ s.heap ->
 ah aa [] ρ s A (nk aa s.heap) (eval e env) (src C e ns loc (ev C e ns loc) σ)
theorem ah.map{α β bN:Type}{t:Sem β}{m:M α}{k:α->M bN}{R:α->Map->Heap->β->Prop}{oo:bN->Map->Heap->β->Prop}(h:ah aa W ρ s A R t (m σ))(aL:∀a σ e af,k a σ≠.exc e af)
  (ao:∀a a0 aZ H b c cE,Inv aa a0 aZ H->R a aZ H b->k a a0=.ok c cE->cE=a0/\oo c aZ H b):ah aa W ρ s A oo t ((m>>=k) σ):=by
 induction e:m σ with
 |bad=>rw[cS e];exact aS
 |exc _ _=>rw[e1 e];replace h:=e ▸ h;exact h
 |ok a a0=>
  rw[aN e];replace h:=e ▸ h
  induction aO:k a a0 with
  |bad=>exact aS
  |exc _ _=>exact absurd aO (aL _ _ _ _)
  |ok c cE=>
   refine cH h (λb s' hp=>?_) λae az x=>x;obtain⟨aZ,H,tk,rfl,i,x,r⟩:=hp;obtain⟨rfl,dn⟩:=ao a a0 aZ H b c cE i r aO;exact⟨aZ,H,tk,ab,i,x,dn⟩
theorem fp.Vx(r:fp ρ h bY l):∀p∈bY,∀s,p.1=.inr s->gW s:=by
 induction r with
 |nil=>exact λae hm=>nomatch hm
 |cons aD _ _ au=>exact λp hm=>(cY.mp hm).elim (λe=>e ▸ aD) (au p)
theorem Vr(a:V)(σ:aq)(e:V)(af:aq):el a σ≠.exc e af:=by
 induction a using V.casesOn with
 |ref n=>
  refine(?_:(hF n>>=λo=>match o with|.list _=>(cv (Src.lst n):M Src)|.dict v l=>cv (.keys n v (l.map λp=>l3 p.1))|_=>M.bad) σ≠_)
  induction h:σ[n]? with
  |none=>rw[cS (by rw[nh,h])];exact nofun
  |some o=>
   rw[aN (a:=o) (af:=σ) (by rw[nh,h])];cases o <;> exact nofun
 |_=>exact nofun
set_option tactic.hygienic true in
theorem Ko{e:Expr}(he:cg aa C n e)(aQ:eh aa A n C.calm)(F:c9 aa env ns loc ρ s.heap)(i:Inv aa σ ρ s.heap) :
  ah aa [] ρ s A (nk aa s.heap) (eval e env) ((ev C e ns loc>>=el) σ):=by
 refine ah.map (he env ns loc σ ρ s A aQ F i) Vr λa a0 aZ H b c cE bo r ao=>?_
 induction r using Rel.cs with
 |tup gp g aj bl=>cases ao;exact⟨ab,.inl (.inl ⟨_,_,_,ab,gp,g,bl⟩)⟩
 |ref bK=>
  rename_i k n d
  have ao:(hF d>>=λo=>match o with|.list _=>(cv (Src.lst d):M Src)|.dict v l=>cv (.keys d v (l.map λp=>l3 p.1))|_=>M.bad) a0=.ok c cE:=ao
  induction b4:a0[d]? with
  |none=>rw[cS (by rw[nh,b4])]at ao;exact iF ao
  |some o=>
   rw[aN (a:=o) (af:=a0) (by rw[nh,b4])]at ao
   induction o with
   |list l=>
    cases ao;obtain⟨vs,k,g,_,_⟩:=Inv.list (s:={ s with heap:=H }) bo b4 bK;exact⟨ab,.inl ⟨_,_,vs,k,ab,bK,g⟩⟩
   |dict v l=>
    cases ao;obtain⟨ax,aD,bY,hd,_,r⟩:=Inv.dict (s:={ s with heap:=H }) bo b4 bK;refine⟨ab,.inl ⟨_,bY,ab,ax ▸ bK,aD,hd,?_,r.Vx⟩⟩;have:=dR (List.map l3) r.keys;rw[iv,iv]at this;exact this.symm
   |_=>exact iF ao
 |_=>exact iF ao
theorem abI{a:Expr}{α:Type}{k:V->M α}:(ev C a ns loc>>=k)=(kL C [a] ns loc>>=λl=>match l with|[v]=>k v|_=>M.bad):=rfl
theorem abH{a b:Expr}{α:Type}{k:V->V->M α}:(ev C a ns loc>>=λv=>ev C b ns loc>>=λw=>k v w)=(kL C [a,b] ns loc>>=λl=>match l with|[v,w]=>k v w|_=>M.bad):=rfl
theorem LL(i:Inv aa σ ρ s.heap)(al:s.heap.objs.size<=b):cT ρ b:=λp hp=>by
 obtain⟨cj,ax⟩:=i.alive hp;exact λe=>absurd (Heap.lt_size ax) (qT.mpr (e ▸ al))
theorem wg{h h':Heap}(ao:∀b o,h.get? b=I o->∃o',h'.get? b=I o'){b:Addr}(al:h'.objs.size<=b):h.get? b=U:=by
 induction e:h.get? b with
 |none=>rfl
 |some o=>obtain⟨o',bg⟩:=ao _ _ e;exact absurd (Heap.lt_size bg) (qT.mpr al)
inductive CH(bA:Src)(ρ:Map)(h:Heap)(v:aw):Prop
 |mk(r:Addr)(a:Int)(b:Int)(t:Tok)(u:Tok)(w:Tok)(h1:v=.ref r)(h2:IsRange h r a b 1 t u w)(h3:Builtin.Range.small a b 1=true)(bf:bA=.vals (lW a b)):CH bA ρ h v
theorem CH.src{bA:Src}{h:Heap}{v:aw}(x:CH bA ρ h v):nk aa al bA ρ h v:=by
 refine aE λkk=>?_;obtain⟨r,a,b,t,u,w,h1,h2,h3,rfl⟩:=x;refine kk ?_;exact .inl (.inr ⟨r,a,b,t,u,w,h1,h2,h3,ab⟩)
theorem ah.rangeCall(i:Inv aa σ ρ s.heap)(bl:Rel ρ s.heap a x):ah aa [] ρ s A CH (call (.type "range") [a]) (k6 x σ):=by
 induction bl using Rel.cs with
 |int z t=>
  refine ah.ite λay=>?_;refine ah.grown i λQ E br=>call_range_1 (br _ _ _ (λc o e=>ed _ e) ⟨_,0,z,_,_,_,ab,IsRange.new ..,?_,ab⟩);exact small_one (by decide) (by decide) (pY (by decide) ay.1) (Int.lt_of_le_of_lt ay.2 (by decide))
 |_=>exact aS
theorem ah.ace{a:aw}{x:V}(i:Inv aa σ ρ s.heap)(p3:Ext [] d1 al ρ s.heap)(bl:Rel ρ s.heap a x):ah aa [] ρ s A (nk aa al) (call (.type "enumerate") [a]) (yU x σ):=by
 induction bl using Rel.cs with
 |@ref a d n bK=>
  refine ah.e8 λl b4=>?_;obtain⟨vs,m,g,aj,r⟩:=i.list b4 bK;refine ah.grown i λQ E br=>call_enumerate_list (gd g) λh' he bG gf ao=>br _ h' s.toks ao (.inr ⟨_,.enum he bG bK (w0 _) (LL i (jL _)) i.nQ,λb al=>?_⟩);rcases cY.mp al with rfl|al
  ·exact wg p3.alive (jL _)
  ·rw[bT.mp al];exact Al p3.alive
 |_=>exact aS
theorem ah.V8(i:Inv aa σ ρ s.heap)(p3:Ext [] d1 al ρ s.heap)(bl:Rel ρ s.heap a x):ah aa [] ρ s A (nk aa al) (call (.type "reversed") [a]) (uY x σ):=by
 have one:∀b∈[s.heap.objs.size],al.get? b=U:=λb al=>by rw[bT.mp al];exact Al p3.alive
 induction bl using Rel.cs with
 |@tup a vs n l gp g aj r=>
  refine(?_:ah aa [] ρ s A _ _ (.ok (Src.vals l.reverse) σ));refine ah.grown i λQ E br=>ac4 g aj λh' tk ao bG=>br _ h' tk ao (.inr ⟨_,.ri (i:=0) ?_ (iu _) aj gp (ao _ _ g) (r.sub (Sub.keeps ao)) i.nQ,one⟩);rw[show(vs.length:Int)-1-((0:Nat):Int)=(vs.length:Int)-1 by exact zU ..];exact bG
 |@ref a d n bK=>
  refine ah.e8 λl b4=>?_;obtain⟨vs,m,g,aj,r⟩:=i.list b4 bK;refine ah.grown i λQ E br=>ac5 g λh' ao bG=>br _ h' s.toks ao (.inr ⟨_,.rj (i:=0) ?_ (iu _) bK i.nQ,one⟩);rw[show(l.length:Int)-1-((0:Nat):Int)=(l.length:Int)-1 by exact zU ..,<-r.length];exact bG
 |_=>exact aS
structure H3(aa:dE)(σ:aq)(ρ:Map)(h:Heap)(v:aw)(z:j8)(c:Addr)(vs:List aw):Prop where
 eq:v=.ref c
 src:j9 h c vs (uB z)
 lst:∀n,z=.lst n->∃d,ρ[n]? =I (c,d)
 tup:∀l,z=.tup l->cT ρ c/\(∃n,h.get? c=I (dJ vs n))/\b9 ρ h vs l
theorem Jg{v:aw}{x:V}{α:Type}{k:j8->M α}{r:α}{af:aq}(i:Inv aa σ ρ s.heap)(bl:Rel ρ s.heap v x)(h:(oE x>>=k) σ=.ok r af):∃z c vs,H3 aa σ ρ s.heap v z c vs/\k z σ=.ok r af:=by
 induction bl using Rel.cs with
 |@tup a vs n l gp g aj bl=>exact⟨.tup l,a,vs,⟨ab,.tup (lj g),λn e=>(by cases e),λl e=>by cases e;exact⟨gp,⟨n,g⟩,bl⟩⟩,h⟩
 |@ref a d n bK=>
  have h:((e8 n>>=λae=>(cv (j8.lst n):M j8))>>=k) σ=.ok r af:=h;rw[M.assoc]at h;obtain⟨l,a0,ax,h⟩:=wk h;rw[iD]at ax
  induction b4:σ[n]? with
  |none=>rw[b4]at ax;exact iF ax
  |some o=>
   rw[b4]at ax
   induction o with
   |list m=>
    cases ax;obtain⟨vs,j,g,aj,r⟩:=i.list b4 bK;exact⟨.lst n,a,vs,⟨ab,.lst (gd g),λn e=>(by cases e;exact⟨d,bK⟩),λl e=>(by cases e)⟩,h⟩
   |_=>exact iF ax
 |_=>exact iF h
theorem H3.at(q:H3 aa σ ρ h v z c vs)(y:Sub ρ h aA h')(aD:gT h' i c 0 vs (uB z)):kT aA h' i c 0 z:=by
 induction z with
 |lst n=>
  refine aE λkk=>?_;obtain⟨d,e⟩:=q.lst n ab;obtain⟨eb,bg⟩:=y.1 _ _ _ e;refine kk ?_
  cases aD with
  |lst a b=>exact .lst a bg
 |tup l=>
  refine aE λkk=>?_;obtain⟨gp,⟨n,g⟩,r⟩:=q.tup l ab;refine kk ?_
  cases aD with
  |tup a b=>exact .tup a (y.2 _ _ _ gp g).1 (y.2 _ _ _ gp g).2 (r.sub y)
theorem Jf(a:V)(σ:aq)(e:V)(af:aq):oE a σ≠.exc e af:=by
 induction a using V.casesOn with
 |ref n=>
  refine(?_:(e8 n>>=λae=>(cv (j8.lst n):M j8)) σ≠_)
  induction h:σ[n]? with
  |none=>rw[cS (by rw[iD,h])];exact nofun
  |some o=>induction o with
   |list l=>rw[aN (a:=l) (af:=σ) (by rw[iD,h])];exact nofun
   |_=>rw[cS (by rw[iD,h])];exact nofun
 |_=>exact nofun
theorem Sw(a b:V)(σ:aq)(e:V)(af:aq):mT a b σ≠.exc e af:=by
 unfold mT
 induction h:oE a σ with
 |bad=>rw[cS h];exact nofun
 |exc _ _=>exact absurd h (Jf _ _ _ _)
 |ok x a0=>
  rw[aN h]
  induction h':oE b a0 with
  |bad=>rw[cS h'];exact nofun
  |exc _ _=>exact absurd h' (Jf _ _ _ _)
  |ok y cE=>rw[aN h'];exact nofun
theorem ah.Sx{a b:aw}{x y:V}(i:Inv aa σ ρ s.heap)(p3:Ext [] d1 al ρ s.heap)(bl:Rel ρ s.heap a x)(cw:Rel ρ s.heap b y):ah aa [] ρ s A (nk aa al) (call (.type "zip") [a,b]) (mT x y σ):=by
 induction e:mT x y σ with
 |bad=>exact aS
 |exc _ _=>exact absurd e (Sw _ _ _ _ _)
 |ok bA af=>
  refine aE λkk=>?_;obtain⟨xf,c0,vs,dx,e⟩:=Jg i bl e;obtain⟨p1,dY,ws,eH,e⟩:=Jg i cw e;refine kk ?_;cases e;rw[dx.eq,eH.eq];refine ac3 dx.src eH.src λh' ao Z=>?_;refine aE λkk=>?_;obtain⟨u,v,iW⟩:=Z.out;have ek:=i.new (W:=[]) (o:=.cache) (a:=s.heap.objs.size+3) ao (wg (λb o e=>⟨o,e⟩) (g0 _ _)) λx=>⟨[u,v],0,iW⟩;have y:=ek.2.sub;have off:∀b o,h'.get? b=I o->s.heap.objs.size<=b->b≠s.heap.objs.size+3->cT (ρ++[(s.heap.objs.size+3,0)]) b:=λb o e al dD p hp=>by
   rcases hs.mp hp with hp|hp
   ·exact LL i al p hp
   ·rw[bT.mp hp];exact dD
  obtain⟨cj,aly,f1,g1,_⟩:=Z.one.at;obtain⟨dO,alx,f2,g2,_⟩:=Z.two.at;refine kk ⟨_,h',s.toks,ab,ek.1,ek.2,.inr ⟨_,.zip (d:=0) Z.off Z.zip Z.its Z.out ?_ (dx.at y Z.one) (eH.at y Z.two) (off _ _ Z.zip (g0 _ _) Z.off.TOz.symm) (off _ _ g1 (cI _) Z.off.TOi1.symm) (off _ _ g2 (g0 _ _) Z.off.TOi2.symm),λb al=>?_⟩⟩
  ·show(ρ++[(s.heap.objs.size+3,0)])[σ.length]? =_;rw[<-i.len,mR (cI _),lN];rfl
  ·rcases cY.mp al with rfl|al
   ·exact wg p3.alive (g0 _ _)
   ·rcases cY.mp al with rfl|al
    ·exact wg p3.alive (g0 _ _)
    ·rcases cY.mp al with rfl|al
     ·exact wg p3.alive (cI _)
     ·rw[bT.mp al];exact wg p3.alive (g0 _ _)
theorem ah.typeCall{α:Type}{f:Str}{T:String}{aT:List Expr}{p pos:Pos}{k:List V->M α}{R:α->Map->Heap->aw->Prop}(B:gF tx mg mb aa.heap)(bu:nv aa C n aT)(aQ:eh aa A n C.calm)(F:c9 aa env ns loc ρ s.heap)(i:Inv aa σ ρ s.heap)(hg:jZ ns f=ak)(a8:tx.fns f=U)
  (cZ:rq aT=ak) (aM:f∈pF) (cq:iJ f=I (.type T))
  (ao:∀l vs a0 aZ H tk,Inv aa a0 aZ H->Ext [] ρ s.heap aZ H->b9 aZ H vs l->ah aa [] aZ (At H tk s) A R (call (.type T) vs) (k l a0)) :
  ah aa [] ρ s A R (eval (.Call (.Name f p) aT [] pos) env) ((kL C aT ns loc>>=k) σ):=by
 rw[IG];refine ah.head (v:=.type T) (λQ E h=>DN B F i hg aM a8 cq h) ?_;exact ah.args cZ bu aQ F i (λQ E cZ h=>OM cZ h) λl a0 aZ H tk vs bo bO b3=>ao l vs a0 aZ H tk bo bO b3
theorem ah.Ec{α:Type}{f:Str}{T:String}{a:Expr}{p pos:Pos}{k:V->M α}{R:α->Map->Heap->aw->Prop}(B:gF tx mg mb aa.heap)(bu:cg aa C n a)(aQ:eh aa A n C.calm)(F:c9 aa env ns loc ρ s.heap)(i:Inv aa σ ρ s.heap)(hg:jZ ns f=ak)(a8:tx.fns f=U)
  (cZ:pa a=aH) (aM:f∈pF) (cq:iJ f=I (.type T))
  (ao:∀x v a0 aZ H tk,Inv aa a0 aZ H->Ext [] ρ s.heap aZ H->Rel aZ H v x->ah aa [] aZ (At H tk s) A R (call (.type T) [v]) (k x a0)) :
  ah aa [] ρ s A R (eval (.Call (.Name f p) [a] [] pos) env) ((ev C a ns loc>>=k) σ):=by
 rw[abI];refine ah.typeCall B (BZ bu Hc) aQ F i hg a8 (by simp [rq,cZ]) aM cq λl vs a0 aZ H tk bo bO b3=>?_
 cases b3 with
 |nil=>exact aS
 |cons r rs=>cases rs with
  |nil=>exact ao _ _ a0 aZ H tk bo bO r
  |cons _ _=>exact aS
theorem Kq(mi:∀f,C.isFn f=(tx.fns f).isSome)(h:ji C ns f=t)(aY:t≠0):jZ ns f=ak/\tx.fns f=U/\((t=1/\f=("range" : Str))\/(t=2/\f=("enumerate" : Str))\/(t=3/\f=("reversed" : Str))\/(t=4/\f=("zip" : Str))):=by
 unfold ji at h;by_cases h1:(jZ ns f && !C.isFn f)=ak
 case neg=>replace h:=bH h1 ▸ h;exact absurd h.symm aY
 replace h:=bj h1 ▸ h;simp only [g5,Bool.not_eq_true']at h1;refine⟨h1.1,?_,?_⟩
 ·have:=h1.2;replace this:=(mi ..) ▸ this
  induction e:tx.fns f with
  |none=>rfl
  |some _=>replace this:=e ▸ this;exact nE this
 ·by_cases h2:f=("range" : Str)
  ·replace h:=bj h2 ▸ h;exact .inl ⟨h.symm,h2⟩
  ·replace h:=bH h2 ▸ h;by_cases h3:f=("enumerate" : Str)
   ·replace h:=bj h3 ▸ h;exact .inr (.inl ⟨h.symm,h3⟩)
   ·replace h:=bH h3 ▸ h;by_cases bf:f=("reversed" : Str)
    ·replace h:=bj bf ▸ h;exact .inr (.inr (.inl ⟨h.symm,bf⟩))
    ·replace h:=bH bf ▸ h;by_cases cP:f=("zip" : Str)
     ·replace h:=bj cP ▸ h;exact .inr (.inr (.inr ⟨h.symm,cP⟩))
     ·replace h:=bH cP ▸ h;exact absurd h.symm aY
theorem Km(h:pa a=ak):ev C a ns loc=M.bad:=by cases a <;> first|rfl|exact fU h
theorem ah.Tz{α:Type}{f:Str}{T:String}{a b:Expr}{p pos:Pos}{k:V->V->M α}{R:α->Map->Heap->aw->Prop}(B:gF tx mg mb aa.heap)(bu:cg aa C n a)(al:cg aa C n b)(aQ:eh aa A n C.calm)(F:c9 aa env ns loc ρ s.heap)(i:Inv aa σ ρ s.heap)(hg:jZ ns f=ak)(a8:tx.fns f=U)
  (th:pa b=aH) (aM:f∈pF) (cq:iJ f=I (.type T))
  (ao:∀x y v w a0 aZ H tk,Inv aa a0 aZ H->Ext [] ρ s.heap aZ H->Rel aZ H v x->Rel aZ H w y->ah aa [] aZ (At H tk s) A R (call (.type T) [v,w]) (k x y a0)) :
  ah aa [] ρ s A R (eval (.Call (.Name f p) [a,b] [] pos) env) ((ev C a ns loc>>=λv=>ev C b ns loc>>=λw=>k v w) σ):=by
 by_cases cZ:pa a=ak
 ·rw[Km cZ];exact aS
 rw[abH];refine ah.typeCall B (BZ bu (BZ al Hc)) aQ F i hg a8 (by simp [rq,cZ,th]) aM cq λl vs a0 aZ H tk bo bO b3=>?_
 cases b3 with
 |nil=>exact aS
 |cons r rs=>cases rs with
  |nil=>exact aS
  |cons dn rs=>cases rs with
   |nil=>exact ao _ _ _ _ a0 aZ H tk bo bO r dn
   |cons _ _=>exact aS
theorem Vq{f:Str}{as:List Expr}{p pos:Pos}(B:gF tx mg mb aa.heap)(mi:∀f,C.isFn f=(tx.fns f).isSome)(he:cg aa C n (.Call (.Name f p) as [] pos))(has:∀a∈as,cg aa C n a):pL aa C n (.Call (.Name f p) as [] pos):=
 λenv ns loc σ ρ s A aQ F i=>by
 have whole:=Ko he aQ F i;rcases as with _|⟨a,_|⟨b,_|⟨c,r⟩⟩⟩
 ·exact whole
 ·refine(?_:ah aa [] ρ s A (nk aa s.heap) _ ((if (ji C ns f=1\/ji C ns f=2)\/ji C ns f=3 then (ev C a ns loc>>=λv=>Kr (ji C ns f) v) else (ev C (.Call (.Name f p) [a] [] pos) ns loc>>=λv=>el v)) σ));by_cases t1:(ji C ns f=1\/ji C ns f=2)\/ji C ns f=3
  case neg=>rw[bH t1];exact whole
  rw[bj t1];by_cases cZ:pa a=ak
  ·rw[Km cZ];exact aS
  have cZ:pa a=aH:=by simpa using cZ
  obtain⟨hg,a8,aY⟩:=Kq (t:=ji C ns f) mi ab (λq=>by rw[q] at ‹_\/_›;revert ‹_\/_›;decide);have bu:=has a (bT.mpr ab);rcases aY with ⟨aY,rfl⟩|⟨aY,rfl⟩|⟨aY,rfl⟩|⟨aY,rfl⟩
  ·rw[aY];exact ah.Ec B bu aQ F i hg a8 cZ (by decide +kernel) adq λx v a0 aZ H tk bo bO r=>(ah.rangeCall bo r).mono λae az bS fc h=>h.src
  ·rw[aY];exact ah.Ec B bu aQ F i hg a8 cZ (by decide +kernel) adr λx v a0 aZ H tk bo bO r=>ah.ace bo bO r
  ·rw[aY];exact ah.Ec B bu aQ F i hg a8 cZ (by decide +kernel) adp λx v a0 aZ H tk bo bO r=>ah.V8 bo bO r
  ·lia
 ·refine(?_:ah aa [] ρ s A (nk aa s.heap) _ ((if ji C ns f=4/\pa b=aH then (ev C a ns loc>>=λv=>ev C b ns loc>>=λw=>mT v w) else (ev C (.Call (.Name f p) [a,b] [] pos) ns loc>>=λv=>el v)) σ));have bu:=has a (b8 ..);have al:=has b (da _ (bT.mpr ab));by_cases t1:ji C ns f=4/\pa b=aH
  ·rw[bj t1];obtain⟨hg,a8,aY⟩:=Kq mi t1.1 (by decide);obtain rfl:f=("zip" : Str):=by
    rcases aY with ⟨aY,_⟩|⟨aY,_⟩|⟨aY,_⟩|⟨_,e⟩
    ·exact absurd aY (by decide)
    ·exact absurd aY (by decide)
    ·exact absurd aY (by decide)
    ·exact e
   exact ah.Tz B bu al aQ F i hg a8 t1.2 (by decide +kernel) ado λx y v w a0 aZ H tk bo bO r dn=>ah.Sx bo bO r dn
  rw[bH t1];exact whole
 ·exact whole
theorem MM(h:(k==NameKind.free)=ak):k=.free:=by simpa using h
structure aiR(env:Env)(names:ct)(cs cl:List (Str×Addr)):Prop where
 sub:∀x c,cl.lookup x=I c->env.cells.lookup x=I c
 all:∀x∈names,x.2=.free->∃c,cl.lookup x.1=I c
 old:∀x,(∃c,cs.lookup x=I c)->∃c,cl.lookup x=I c
theorem acW(env:Env)(names:ct)(cs:List (Str×Addr))(h1:∀x∈names,x.2=.free->∃c,env.cells.lookup x.1=I c)(h2:∀x c,cs.lookup x=I c->env.cells.lookup x=I c) :
  ∃cl,(forIn names cs λx r=>if (x.2==NameKind.free)=ak then (do let c <-cellOf env x.1;pure (ForInStep.yield ((x.1,c)::r))) else pure (ForInStep.yield r))=(cv cl:Sem (List (Str×Addr)))/\aiR env names cs cl:=by
 induction names generalizing cs with
 |nil=>exact⟨cs,ab,h2,λae hm=>(nomatch hm),λae h=>h⟩
 |cons p r au=>
  obtain⟨x,k⟩:=p;have mn:=λy bL=>h1 y (da _ bL);rw[List.forIn_cons];by_cases ao:(k==NameKind.free)=ak
  ·obtain⟨c,ay⟩:=h1 (x,k) (b8 ..) (MM ao);have e:cellOf env x=cv c:=by unfold cellOf;rw[show env.cells.lookup x=I c from ay]
   rw[bj ao,e];obtain⟨cl,ax,q⟩:=au ((x,c)::cs) mn λy d hd=>by
    rw[gI]at hd
    split at hd
    ·rename_i bL
     cases hd;rw[beq_iff_eq.mp bL];exact ay
    ·exact h2 y d hd
   refine⟨cl,ax,q.sub,λy bL a8=>?_,λy bL=>q.old y ?_⟩
   ·rcases cY.mp bL with rfl|bL
    ·exact q.old x ⟨c,by rw[gI,jJ]⟩
    ·exact q.all y bL a8
   ·obtain⟨d,hd⟩:=bL;rw[gI]
    split
    ·exact⟨_,ab⟩
    ·exact⟨d,hd⟩
  ·rw[bH ao];obtain⟨cl,ax,q⟩:=au cs mn h2;refine⟨cl,ax,q.sub,λy bL a8=>?_,q.old⟩;rcases cY.mp bL with rfl|bL
   ·exact absurd (by rw[show k=NameKind.free from a8];rfl) ao
   ·exact q.all y bL a8
theorem acV(h:∀x∈scope.names,x.2=.free->∃c,env.cells.lookup x.1=I c):∃cl,closureFor scope env=cv cl/\(∀x c,cl.lookup x=I c->env.cells.lookup x=I c)/\∀x∈scope.names,x.2=.free->∃c,cl.lookup x.1=I c:=by
 refine aE λkk=>?_;obtain⟨cl,ax,aO,c7,_⟩:=acW env scope.names [] h λae az e=>by exact bh e
 refine kk ⟨cl,?_,aO,c7⟩;show((forIn scope.names [] λ(x:Str×NameKind) (r:List (Str×Addr))=>if (x.2==NameKind.free)=ak then (do let c <-cellOf env x.1;pure (ForInStep.yield ((x.1,c)::r))) else pure (ForInStep.yield r))>>=λr=>cv r)=cv cl;rw[ax];rfl
structure adY(ns:ct)(loc bJ:Loc)(x:Str)(i kC:Nat)(k:NameKind):Prop where
 le:kC<=i
 ex:∃o,bJ[i-kC]? =I o/\(k≠.free->o=U)/\(k=.free->∃j,slot ns x=I (j,.cell)/\o=(loc[j]?).getD U)
structure wN(ns:ct)(loc:Loc)(names:ct)(bJ:Loc)(σ af:aq):Prop where
 same:af=σ
 s4:∀x∈names,x.2≠.cell
 fr:∀x∈names,x.2=.free->∃j,slot ns x.1=I (j,.cell)
 slots:∀(x:Str) (i kC:Nat) (k:NameKind),mV names x kC=I (i,k)->adY ns loc bJ x i kC k
theorem wN.cons(q:wN ns loc r t σ af)(ay:k≠.cell)(a8:k=.free->∃j,slot ns x=I (j,.cell)/\o=(loc[j]?).getD U)(aM:k≠.free->o=U):wN ns loc ((x,k)::r) (o::t) σ af:=by
 refine⟨q.same,λy bL=>?_,λy bL Nz=>?_,λy i kC c6 aD=>?_⟩
 ·rcases cY.mp bL with rfl|bL
  ·exact ay
  ·exact q.s4 y bL
 ·rcases cY.mp bL with rfl|bL
  ·obtain⟨j,bw,_⟩:=a8 Nz;exact⟨j,bw⟩
  ·exact q.fr y bL Nz
 ·rw[uS]at aD
  split at aD
  ·rename_i F9
   cases aD;rw[beq_iff_eq.mp F9];exact⟨cI _,o,by rw[lN];rfl,aM,a8⟩
  ·refine aE λkk=>?_;obtain⟨hle,o',hE,aU⟩:=q.slots y i (kC+1) c6 aD;refine kk ⟨IY hle,o',?_,aU⟩;rw[Kd hle,List.getElem?_cons_succ];exact hE
theorem MP(h:eL ns loc names σ=.ok bJ af):wN ns loc names bJ σ af:=by
 induction names generalizing bJ with
 |nil=>cases h;exact⟨ab,λae hm=>(nomatch hm),λae hm=>(nomatch hm),λae az bS fc e=>by exact bh e⟩
 |cons p r au=>
  obtain⟨x,k⟩:=p;have step:∀(o:Option V),((eL ns loc r>>=λt=>(pure (o::t):M Loc)) σ=.ok bJ af)->∃t,bJ=o::t/\wN ns loc r t σ af:=λo h=>by
   induction e:eL ns loc r σ with
   |bad=>replace h:=cS e ▸ h;exact iF h
   |exc _ _=>replace h:=e1 e ▸ h;cases h
   |ok t a0=>replace h:=aN e ▸ h;cases h;exact⟨t,ab,au e⟩
  have plain:k≠.cell->k≠.free->((eL ns loc r>>=λt=>(pure (U::t):M Loc)) σ=.ok bJ af)->wN ns loc ((x,k)::r) bJ σ af:=λh1 h2 h=>by
   obtain⟨t,rfl,q⟩:=step U h;exact q.cons h1 (λe=>absurd e h2) λae=>ab
  induction k with
  |free=>
   induction aD:slot ns x with
   |none=>replace h:=aD ▸ vA ▸ h;exact iF h
   |some p=>
    obtain⟨j,c6⟩:=p
    induction c6 with
    |cell=>
     replace h:=aD ▸ vA ▸ h;obtain⟨t,rfl,q⟩:=step ((loc[j]?).getD U) h;exact q.cons (by decide) (λae=>⟨j,aD,ab⟩) λh=>absurd ab h
    |_=>replace h:=aD ▸ vA ▸ h;exact iF h
  |cell=>exact iF h
  | «local» => exact plain (by decide) (by decide) h
  |globalImplicit=>exact plain (by decide) (by decide) h
  |globalExplicit=>exact plain (by decide) (by decide) h
theorem Y2{P:Prop}{v:V}(h:eL ns loc names σ=.exc v af):P:=by
 induction names with
 |nil=>exact sU h
 |cons p r au=>
  obtain⟨x,k⟩:=p;have plain:∀(o:Option V),((eL ns loc r>>=λt=>(pure (o::t):M Loc)) σ=.exc v af)->P:=λo h=>by
   induction e:eL ns loc r σ with
   |bad=>replace h:=cS e ▸ h;exact mx h
   |exc _ _=>replace h:=e1 e ▸ h;cases h;exact au e
   |ok t a0=>replace h:=aN e ▸ h;exact sU h
  induction k with
  |free=>
   induction aD:slot ns x with
   |none=>replace h:=aD ▸ vA ▸ h;exact mx h
   |some p=>
    obtain⟨j,c6⟩:=p
    induction c6 with
    |cell=>replace h:=aD ▸ vA ▸ h;exact plain _ h
    |_=>replace h:=aD ▸ vA ▸ h;exact mx h
  |cell=>exact mx h
  | «local» => exact plain _ h
  |globalImplicit=>exact plain _ h
  |globalExplicit=>exact plain _ h
theorem La:∀{x:Str}{i kC:Nat}{k:NameKind},mV (ca ns names) x kC=I (i,k)->∃o9,mV names x kC=I (i,o9)/\(k=o9\/(o9=.free/\k=.cell)):=by
 induction names with
 |nil=>intro x i kC k h;exact bh h
 |cons p r au=>
  intro x i kC k h;obtain⟨y,m5⟩:=p;have e:ca ns ((y,m5)::r)=(y,if (m5 == .free&&ns.lookup y==I .cell)=ak then .cell else m5)::ca ns r:=by
   unfold ca;rw[eE];by_cases ay:(m5 == .free&&ns.lookup y==I .cell)=ak
   ·dsimp only;rw[bj ay,bj ay]
   ·dsimp only;rw[bH ay,bH ay]
  replace h:=e ▸ h;rw[uS]at h ⊢
  induction m7:(x==y) with
  |true=>
   replace h:=m7 ▸ h;cases h;refine⟨m5,ab,?_⟩;by_cases ay:(m5 == .free&&ns.lookup y==I .cell)=ak
   ·rw[bj ay];simp only [g5]at ay;exact .inr ⟨MM ay.1,ab⟩
   ·rw[bH ay];exact .inl ab
  |false=>
   replace h:=m7 ▸ h;exact au h
theorem slot_mem(h:slot names x=I (i,k)):(x,k)∈names:=mem_of_lookup (xG h)
theorem acQ(F:c9 aa env ns loc ρ h)(fw:eL ns loc scope.names σ=.ok bJ af)(ao:scope.kind=.function)
  (gg:∀x c,cl.lookup x=I c->env.cells.lookup x=I c) (GH:∀x∈scope.names,x.2=.free->∃c,cl.lookup x.1=I c)
  (n7:dX = { newEnv scope c env.globals cl env.qual U .none (I env) env.builtins with scope:=relabel scope env }) (aM:h.Ns c λae=>U) (hS:cT ρ c) (dD:∀x d,env.cells.lookup x=I d->d≠c) :
  c9 aa dX (ca ns scope.names) bJ ρ h:=by
 subst n7;refine aE λkk=>?_;obtain⟨_,Gn,n5,me⟩:=MP fw;refine kk ?_;exact {
  names:=by
   show(relabel scope env).names=_;unfold relabel ca;have:env.scope.names=ns:=F.names;simp only [F.kind,Env.kindOf,this];congr 1
   funext p
   obtain⟨y,k⟩:=p;cases k <;> simp
  kind:=ao
  globals:=F.globals
  kO:=F.kO
  vars:=⟨_,aM,λx i v h1 h2=>by
   refine aE λkk=>?_;obtain⟨o9,aD,ju⟩:=La h1;refine aE λkk=>?_;rcases ju with rfl|⟨_,ay⟩
   ·obtain⟨_,o,ho,yr,_⟩:=me x i 0 _ aD;replace ho:=(Dq ..) ▸ ho;rw[ho,yr (by decide)]at h2;cases h2
   ·refine kk ?_;cases ay⟩
  cell:=λx i h1=>by
   refine aE λkk=>?_;obtain⟨o9,aD,ju⟩:=La h1;have vL:=slot_mem aD;have Z1:o9=.free:=by
    rcases ju with rfl|⟨h,_⟩
    ·exact absurd ab (Gn _ vL)
    ·exact h
   subst Z1;obtain⟨_,o,ho,_,Gi⟩:=me x i 0 _ aD;obtain⟨j,bw,rfl⟩:=Gi ab;replace ho:=(Dq ..) ▸ ho;obtain⟨d,c5,ax,aO,c7⟩:=F.cell x j bw;obtain⟨eb,kI⟩:=GH _ vL ab;have:env.cells.lookup x=I eb:=gg _ _ kI;refine kk ?_;replace this:=(ax ..) ▸ this;cases this;refine⟨d,c5,kI,aO,λv aK=>c7 v ?_⟩;replace aK:=(ho ..) ▸ aK
   induction e:loc[j]? with
   |none=>replace aK:=(e ..) ▸ aK;cases aK
   |some u=>replace aK:=(e ..) ▸ aK;exact aK
  live:=λx d e=>F.live x d (gg _ _ e)
  jq:=hS
  h8:=λx d e=>⟨dD x d (gg _ _ e),(F.h8 x d (gg _ _ e)).2⟩
  apart:=λx y d ax aO=>F.apart x y d (gg _ _ ax) (gg _ _ aO)
  top:=F.top }
end
theorem OT:∀gens:List Comprehension,(∃t it ifs,gens=[⟨t,it,ifs,0⟩])\/∀(C:Cfg) (elt:Expr) (scope:Scope) (p:Pos) (ns:ct) (loc:Loc),ev C (.ListComp elt gens scope p) ns loc=M.bad
 |[]=>.inr λae az bS fc p2 sA=>ab
 |[⟨t,it,ifs,.ofNat 0⟩]=>.inl ⟨t,it,ifs,ab⟩
 |[⟨t,it,ifs,.ofNat (k+1)⟩]=>.inr λae az bS fc p2 sA=>ab
 |[⟨t,it,ifs,.negSucc k⟩]=>.inr λae az bS fc p2 sA=>ab
 |⟨_,_,_,.ofNat 0⟩::_::_=>.inr λae az bS fc p2 sA=>ab
 |⟨_,_,_,.ofNat (_+1)⟩::_::_=>.inr λae az bS fc p2 sA=>ab
 |⟨_,_,_,.negSucc _⟩::_::_=>.inr λae az bS fc p2 sA=>ab
section
variable {al:Heap}{wr:List Addr}{aA d1:Map}{sb:bp}{mg mb:Str->Option aw}
variable {dX:Env}{fi:ct}{loc:Loc}{n:Nat}
theorem acN
  (h:a3 (bk aa.prog aa.w) A (pyNext it) (λr s₁=>match r with
   |none=>R (.ok .next) s₁
   |some v=>a3 (bk aa.prog aa.w) A (letOwnedTupleGo target it v) (λae xA=>a3 (bk aa.prog aa.w) A (assign target env v) (λae q8=>
     a3 (bk aa.prog aa.w) A (forIn ifs ak λc r=>if r=ak then do let ok <-isTrue c env (eval c env);pure (ForInStep.yield ok) else pure (ForInStep.yield r)) (λok lU=>
      if ok=ak then a3 (bk aa.prog aa.w) A (eval elt env) (λx Kc=>
       a3 (bk aa.prog aa.w) A (call (.builtin "list.append") [acc,x]) (λae Kb=>codeAny (bk aa.prog aa.w) A (.compLoop (.ListComp elt [⟨target,iter,ifs,0⟩] scope pos) 0 it acc env) R Kb) (notedBy (bk aa.prog aa.w) A env λx s'=>R (.error x) s') Kc) (notedBy (bk aa.prog aa.w) A env λx s'=>R (.error x) s') lU
      else codeAny (bk aa.prog aa.w) A (.compLoop (.ListComp elt [⟨target,iter,ifs,0⟩] scope pos) 0 it acc env) R lU) (notedBy (bk aa.prog aa.w) A env λx s'=>R (.error x) s') q8) (notedBy (bk aa.prog aa.w) A env λx s'=>R (.error x) s') xA) (notedBy (bk aa.prog aa.w) A env λx s'=>R (.error x) s') s₁) (notedBy (bk aa.prog aa.w) A env λx s'=>R (.error x) s') s) :
  codeAny (bk aa.prog aa.w) A (.compLoop (.ListComp elt [⟨target,iter,ifs,0⟩] scope pos) 0 it acc env) R s:=by
 refine IS ?_;refine(?_:a3 _ A ((compTurn (.ListComp elt [⟨target,iter,ifs,0⟩] scope pos) 0 it acc env).onRaise (λx=>do noteFrame x env;theTreesLotGoes x)) _ _ s);refine RC ?_;rw[compTurn_list];refine aJ (oA (aJ (cH h (λr s₁ dv=>?_) λae az h'=>h')))
 induction r with
 |none=>exact bQ dv
 |some v=>
  refine aJ (cH dv (λae xA F6=>?_) λae az h'=>h');refine aJ (cH F6 (λae q8 fl=>aJ (cH fl (λok lU eM=>?_) λae az h'=>h')) λae az h'=>h')
  induction ok with
  |false=>exact bQ ⟨ab,eM⟩
  |true=>
   exact aJ (aJ (cH eM (λx Kc vE=>aJ (cH vE (λae Kb i5=>bQ (bQ ⟨ab,i5⟩)) λae az h'=>h')) λae az h'=>h'))
variable (aa C n) in
def pK(ifs:List Expr):Prop:=∀(env:Env) (ns:ct) (loc:Loc) (σ:aq) (ρ:Map) (s:bp) (A:Around),eh aa A n C.calm->c9 aa env ns loc ρ s.heap->Inv aa σ ρ s.heap ->
 ah aa [] ρ s A sd (forIn ifs ak λc r=>if r=ak then do let ok <-isTrue c env (eval c env);pure (ForInStep.yield ok) else pure (ForInStep.yield r)) (tests C ifs ns loc σ)
theorem Uk:pK aa C n []:=λenv ns loc σ ρ s A aQ F i=>ah.ret i ab
theorem Uj(h:hV aa C n e):pK aa C n [e]:=λenv ns loc σ ρ s A aQ F i=>
 ah.wrap (λae az=>wpAny_tests_one) (h env ns loc σ ρ s A aQ F i)
theorem Ul:pK aa C n (e::f::r):=λenv ns loc σ ρ s A aQ F i=>aS
structure k0(aa:dE)(d1:Map)(al:Heap)(dX:Env)(fi:ct)(D:Addr)(loc:Loc)(l:List V)(σ:aq)(ρ:Map)(h:Heap):Prop where
 inv:Inv aa σ ρ h
 fx:c9 aa dX fi loc ρ h
 ext:Ext [] d1 al ρ h
 acc:∃vs k,h.get? D=I (er vs k)/\b9 ρ h vs l
 off:cT ρ D
structure um(aa:dE)(al:Heap)(dX:Env)(wr:List Addr)(D:Addr):Prop where
 deadW:∀b∈wr,al.get? b=U
 qz:al.get? D=U
 rU:al.get? dX.locals=U
 oZ:∀b∈wr,qd dX b
 xZ:qd dX D
 base:∀b o,aa.get? b=I o->∃o',al.get? b=I o'
 IE:D∉wr
 fr:Ii aa wr
theorem um.zc(K:um aa al dX wr D)(h:al.get? b=U):aa.get? b=U:=by
 induction e:aa.get? b with
 |none=>rfl
 |some o=>obtain⟨o',bg⟩:=K.base _ _ e;rw[h]at bg;exact bh bg
theorem k0.but(K:um aa al dX wr D)(x:k0 aa d1 al dX fi D loc l σ ρ h)(ao:hX wr h h')(ho:Own wr ρ h):k0 aa d1 al dX fi D loc l σ ρ h' where
 inv:=x.inv.but ao ho (λb al=>K.zc (K.deadW b al)) K.fr
 fx:=x.fx.but ao ho K.oZ
 ext:=x.ext.but ao K.deadW
 acc:=by
  refine aE λkk=>?_;obtain⟨vs,k,g,r⟩:=x.acc;refine kk ?_;exact⟨vs,k,ao.1 _ _ K.IE g,r.sub (ao.sub ho)⟩
 off:=x.off
theorem k0.step(K:um aa al dX wr D)(x:k0 aa d1 al dX fi D loc l σ ρ h)(fG:∀b∈W,b=dX.locals)(i:Inv aa af aA h')(e:Ext W ρ h aA h')(F:c9 aa dX fi bJ aA h') :
  k0 aa d1 al dX fi D bJ l af aA h' where
 inv:=i
 fx:=F
 ext:=((x.ext.weak (W':=W) λae hm=>nomatch hm).trans e).weak λb hm=>.inr (by rw[fG b hm];exact K.rU)
 acc:=by
  refine aE λkk=>?_;obtain⟨vs,k,g,r⟩:=x.acc;exact kk ⟨vs,k,e.yM g Yb (λhm=>K.xZ.1 (fG _ hm)) x.off,r.ext e⟩
 off:=by
  refine aE λkk=>?_;obtain⟨vs,k,g,r⟩:=x.acc;exact kk (cT.ext e g x.off)
theorem k0.push(K:um aa al dX wr D)(x:k0 aa d1 al dX fi D loc l σ ρ s.heap)(ko:gX aa i ρ s.heap bA it wr)(r:Rel ρ s.heap v a)(aj:l.length<=bz)
  (h:∀h',k0 aa d1 al dX fi D loc (l++[a]) σ ρ h'->gX aa i ρ h' bA it wr->Q .none { s with heap:=h' }):a3 (bk aa.prog aa.w) A (call (.builtin "list.append") [.ref D,v]) Q E s:=by
 refine aE λkk=>?_;obtain⟨vs,k,g,e4⟩:=x.acc;refine kk (ai5 ⟨k,g⟩ (λh' hg ao=>?_) (by rw[k1,e4.length];exact aj));obtain⟨ej,hg⟩:=hg;have hg:h'.get? D=I (er (vs++[v]) ej):=by simpa [er] using hg
 have ju:∀b o,s.heap.get? b=I o->b∉[D]->h'.get? b=I o:=λb o e al=>ao.extBut b o (λeq=>al (bT.mpr eq)) e;have aI:Ext [D] ρ s.heap ρ h':=Ext.of_keep (λb hm=>by rw[bT.mp hm];exact x.off) ju λb o e hm=>by
  rw[bT.mp hm]at e ⊢;replace e:=g ▸ e;cases e;exact⟨_,hg,Mz⟩
 refine h h' ⟨x.inv.keep aI (λb hm=>by rw[bT.mp hm];exact⟨x.off,K.zc K.qz⟩) ju,x.fx.ext aI (λb hm=>by rw[bT.mp hm];exact K.xZ),?_,⟨vs++[v],ej,hg,(e4.append (.cons r .nil)).ext aI⟩,x.off⟩
  (ko.ext aI λb al hm=>K.IE (bT.mp hm ▸ al))
 exact((x.ext.weak (W':=[D]) λae hm=>nomatch hm).trans aI).weak λb hm=>.inr (by rw[bT.mp hm];exact K.qz)
inductive zF(aa:dE)(d1:Map)(al:Heap)(sb:bp)(L:Addr)(e:V)(af:aq)(res:Result)(s':bp):Prop
 |mk(ev:aw)(aA:Map)(eD:Heap)(ei:Nat)(m:Str->Option aw)(h1:res=.error ev)(h2:s'=(At eD ei sb))(i:Inv aa af aA eD)(x:Ext [] d1 al aA eD)(re:jc af e ev aA eD)(hc:pO ev eD)(aM:eD.Ns L m)(off:cT aA L):zF aa d1 al sb L e af res s'
def aiP(aa:dE)(d1:Map)(al:Heap)(sb:bp)(dX:Env)(fi:ct)(D:Addr)(rv:List V):Res (List V)->Result->bp->Prop
 |.bad,_,_=>True
 |.exc e af,r,s'=>zF aa d1 al sb dX.locals e af r s'
 |.ok l af,r,s'=>r=.ok .next/\∃bJ aA eD ei,s'=(At eD ei sb)/\k0 aa d1 al dX fi D bJ (rv++l) af aA eD
theorem k0.kJ{e:V}{ev:aw}{cE:aq}(aQ:eh aa A n C.calm)(x:k0 aa d1 al dX fi D loc l σ ρ h)(hp:kd aa [] ρ (At h tk sb) cE (jc cE e ev) s') :
  notedBy (bk aa.prog aa.w) A dX (λy xK=>zF aa d1 al sb dX.locals e cE (.error y) xK) ev s':=by
 obtain⟨eA,d2,ee,rfl,dz,iE,re⟩:=hp;obtain⟨m,aM,_⟩:=x.fx.vars;obtain⟨o,ho,_⟩:=rp aM;have Nd:=iE.AU aM (nofun) x.fx.jq;have LO:=cT.ext iE ho x.fx.jq;refine x3 (s:=At d2 ee sb) aQ x.fx.top dz re λh' dH dm hc=>?_;obtain⟨dO,Gj,_⟩:=rp Nd;exact⟨ev,eA,h',ee,m,ab,ab,dH,(x.ext.trans iE).trans dm,re,hc,dm.AU Nd (nofun) LO,cT.ext dm Gj LO⟩
theorem acO(aQ:eh aa A n C.calm)(aL:C.calm=ak)(K:um aa al dX wr D)(aY:pK aa C n ifs)(he:cg aa C n elt)(ma:gz bA target=ak) :
  ∀(k i:Nat) (loc:Loc) (rv:List V) (σ:aq) (ρ:Map) (H:Heap) (tk:Nat) (r:Res (List V)),k0 aa d1 al dX fi D loc rv σ ρ H->gX aa i ρ H bA it wr ->
   compLoop bA (bindTo (ff fi) target) (tests C ifs fi) (ev C elt fi) k i loc σ=r->r≠.bad->rv.length+k<=bz+1 ->
   codeAny (bk aa.prog aa.w) A (.compLoop (.ListComp elt [⟨target,iter,ifs,0⟩] scope pos) 0 it (.ref D) dX) (aiP aa d1 al sb dX fi D rv r) (At H tk sb):=by
 intro k
 induction k with
 |zero=>
  intro _ _ _ _ _ _ _ _ _ _ h aM _;exact absurd h.symm aM
 |succ k au=>
  intro i loc rv σ ρ H tk r x ko h aM aj
  induction fm:bA.at σ i with
  |none=>rw[OV fm]at h;exact absurd h.symm aM
  |some o=>
   rw[Ci fm]at h;refine acN (s:=At H tk sb) (ko.next (s:=At H tk sb) (aQ.handled aL) x.inv fm ma (λh' ho ao=>?_) λv val h' ei aK ao GB=>?_)
   ·subst ho;subst h;exact⟨ab,loc,ρ,h',tk,ab,by rw[lP];exact x.but K ao ko.own⟩
   ·subst aK;refine GB _ _ λfH vQ e4 DO=>?_;have km:=x.but K vQ ko.own;have h1:=ah.bindTo (s:=At fH ei sb) (t:=target) (Kn (aa:=aa) (env:=dX) (ns:=fi) (K.zc K.rU)) (aQ.handled aL) km.fx km.inv e4
    induction qs:bindTo (ff fi) target v loc σ with
    |bad=>exact absurd ((cS qs).symm.trans h).symm aM
    |exc _ _=>exact absurd qs (Hx (Kn (aa:=aa) (env:=dX) (ns:=fi) (K.zc K.rU)))
    |ok iA a0=>
    replace h:=(aN qs).symm.trans h;rw[qs]at h1;refine cH h1 (λae s' hp=>?_) λae az f=>f.elim;obtain⟨aZ,dQ,d9,rfl,bo,j1,jF⟩:=hp;have jg:=km.step K (λb hm=>bT.mp hm) bo j1 jF;have h2:=aY dX fi iA a0 aZ (At dQ d9 sb) A aQ jg.fx jg.inv
    induction jv:tests C ifs fi iA a0 with
    |bad=>exact absurd ((cS jv).symm.trans h).symm aM
    |exc _ _=>
     have:=(e1 jv).symm.trans h;subst this;rw[jv]at h2;exact cH h2 (λae az f=>f.elim) λev s' hp=>jg.kJ aQ hp
    |ok ok cE=>
    replace h:=(aN jv).symm.trans h;rw[jv]at h2;refine cH h2 (λAQ s' hp=>?_) λae az f=>f.elim;obtain⟨eA,d2,ee,rfl,dz,iE,fD⟩:=hp;have fD:AQ=ok:=fD;subst fD;have ix:=jg.step K (W:=[]) (λb hm=>absurd hm (gH)) dz iE (jg.fx.eV iE);have q1:=(DO.ext j1 λb al hm=>(K.oZ b al).1 (bT.mp hm)).ext iE λb al hm=>absurd hm gH
    induction AQ with
    |false=>exact au (i+1) iA rv cE eA d2 ee r ix q1 h aM (by exact gq 0x10980520020084C0084A020021 ab aj)
    |true=>
     have h:(ev C elt fi iA>>=λx=>compLoop bA (bindTo (ff fi) target) (tests C ifs fi) (ev C elt fi) k (i+1) iA>>=λr=>pure (x::r)) cE=r:=h;have h3:=he dX fi iA cE eA (At d2 ee sb) A aQ ix.fx ix.inv
     induction tv:ev C elt fi iA cE with
     |bad=>exact absurd ((cS tv).symm.trans h).symm aM
     |exc _ _=>
      have:=(e1 tv).symm.trans h;subst this;rw[tv]at h3;exact cH h3 (λae az f=>f.elim) λev s' hp=>ix.kJ aQ hp
     |ok a hu=>
     replace h:=(aN tv).symm.trans h;rw[tv]at h3;refine cH h3 (λy s' hp=>?_) λae az f=>f.elim;obtain⟨pZ,wO,p5,rfl,l5,G8,ER⟩:=hp;have SH:=q1.ext G8 λb al hm=>absurd hm gH;refine k0.push (s:=At wO p5 sb) K (ix.step K (W:=[]) (λb hm=>absurd hm (gH)) l5 G8 (ix.fx.eV G8)) SH ER (by exact gq 0x31020084C0084A020021 ab aj) λh' SF SG=>?_;have go:=λdn h' mh=>au (i+1) iA (rv++[a]) hu pZ _ p5 dn SF SG h' mh (by rw[dM,zS];exact gq 0x84C02842400020084C0084A020021 ab aj)
     induction tu:compLoop bA (bindTo (ff fi) target) (tests C ifs fi) (ev C elt fi) k (i+1) iA hu with
     |bad=>exact absurd ((cS tu).symm.trans h).symm aM
     |exc _ _=>
      have:=(e1 tu).symm.trans h;subst this;exact go _ tu nofun
     |ok l ny=>
      have:=(aN tu).symm.trans h;subst this;refine zJ (go _ tu nofun) λdn s' aP=>?_;obtain⟨cP,Mj,xc,zx,xq,eS,X⟩:=aP;rw[jM]at X;exact⟨cP,Mj,xc,zx,xq,eS,X⟩
theorem acP:∀{k i:Nat}{loc:Loc}{σ:aq}{l:List V}{af:aq},compLoop bA bt tt cu k i loc σ=.ok l af->l.length<k:=by
 intro k
 induction k with
 |zero=>
  intro _ _ _ _ _ h;exact iF h
 |succ k au=>
  intro i loc σ l af h
  induction fm:bA.at σ i with
  |none=>rw[OV fm]at h;exact iF h
  |some o=>
   rw[Ci fm]at h
   induction o with
   |none=>cases h;exact so _
   |some v=>
    obtain⟨iA,a0,_,h⟩:=wk h;obtain⟨b,cE,_,h⟩:=wk h
    induction b with
    |false=>exact w2 (au h)
    |true=>
     obtain⟨y,hu,_,h⟩:=wk (m:=cu iA) h;obtain⟨r,ny,bf,h⟩:=wk h;cases h;exact Nat.succ_lt_succ (au bf)
end
section
variable {al:Heap}{wr:List Addr}{aA d1:Map}{sb:bp}{af:aq}{mg mb:Str->Option aw}
variable {dX:Env}{fi:ct}{loc:Loc}{n:Nat}
def OU(C:Cfg)(elt target iter:Expr)(ifs:List Expr)(scope:Scope)(ns:ct)(loc:Loc):M V:=do
 let s <-src C iter ns loc (ev C iter ns loc)
 if C.calm&&(gz s target&&gS scope.kind scope.names) then do
  let n <-s.count
  if n<=bz then do
   let bJ <-eL ns loc scope.names
   let l <-compLoop s (bindTo (ff (ca ns scope.names)) target) (tests C ifs (ca ns scope.names)) (ev C elt (ca ns scope.names)) (n+1) 0 bJ
   bP (.list l)
  else M.bad
 else M.bad
theorem acL(h:gS k names=ak):k=.function/\∀x∈names,x.2=.local->names.lookup x.1=I .local:=by
 unfold gS at h;simp only [g5,ec]at h;obtain⟨h1,h2⟩:=h;refine⟨?_,λx aI aj=>?_⟩
 ·cases k <;> first|rfl|exact fU h1
 ·have:=h2 x aI;replace this:=aj ▸ this;dsimp only at this
  induction e:names.lookup x.1 with
  |none=>replace this:=e ▸ this;exact fU this
  |some c6=>replace this:=e ▸ this;cases c6 <;> first|rfl|exact fU this
theorem Pz{α:Type}{f:aq->Option α}{a:α}{af:aq}(h:c1 f σ=.ok a af):af=σ/\f σ=I a:=by
 replace h:=(hU ..) ▸ h
 induction e:f σ with
 |none=>replace h:=(e ..) ▸ h;exact iF h
 |some b=>replace h:=(e ..) ▸ h;cases h;exact⟨ab,ab⟩
theorem PA{α:Type}{f:aq->Option α}{v:V}{af:aq}{P:Prop}(h:c1 f σ=.exc v af):P:=by
 replace h:=(hU ..) ▸ h
 induction e:f σ with
 |none=>replace h:=(e ..) ▸ h;exact mx h
 |some b=>replace h:=(e ..) ▸ h;exact sU h
theorem FW{α:Type}{c:Prop}[Decidable c] {m:M α}(h:(if c then m else M.bad) σ≠.bad):c/\(if c then m else M.bad) σ=m σ:=by
 by_cases ay:c
 ·rw[bj ay];exact⟨ay,ab⟩
 ·rw[bH ay]at h;exact absurd ab h
theorem O6{e:V}{ev:aw}{E:aw->bp->Prop}(i:Inv aa σ ρ s.heap)(r:jc σ e ev ρ s.heap)(hc:pO ev s.heap)
  (aL:∀h',Inv aa σ ρ h'->Ext [] ρ s.heap ρ h'->E ev { s with heap:=h' }):cameBackBy (bk aa.prog aa.w) A env E ev s:=by
 obtain⟨a,o,vs,bb,rfl,g,hd,h1⟩:=id hc;refine aJ (gj g hd h1 ?_);rw[bH (show ¬(Value.ref bb==Value.none)=ak from nofun)];exact xI i r λh' dH dm ae=>aL h' dH dm
theorem W3{α:Type}{e:V}{ev:aw}{what:String}{Q:α->bp->Prop}{E:aw->bp->Prop}(i:Inv aa σ ρ s.heap)(r:jc σ e ev ρ s.heap)(hc:pO ev s.heap)
  (aL:∀h',Inv aa σ ρ h'->Ext [] ρ s.heap ρ h'->E ev { s with heap:=h' }):a3 (bk aa.prog aa.w) A (passOn what ev dX:Sem α) Q E s:=by
 obtain⟨a,o,vs,bb,rfl,g,hd,h1⟩:=id hc;refine aJ (gj g hd h1 ?_);rw[bH (show ¬(Value.ref bb==Value.none)=ak from nofun)];exact aJ (xI i r λh' dH dm ae=>wpAny_throw (aL h' dH dm))
theorem Hm(kC:Inv aa af ρ al)(i:Inv aa σ aA H)(x:Ext W ρ al aA H)(aM:H.Ns c m)(off:cT aA c)(hd:al.get? c=U)(aD:Heap.SameBut c H h') :
  Inv aa σ aA h'/\Ext W ρ al aA h'/\hX [c] H h'/\Own [c] aA H:=by
 have own:Own [c] aA H:=λb al=>by
  rw[bT.mp al];refine aE λkk=>?_;obtain⟨o,ho,d⟩:=rp aM;refine kk ⟨o,ho,.inl ⟨off,λvs n e=>?_,λt=>oN t d⟩⟩;refine aE λkk=>?_;obtain⟨_,_,d⟩:=d;refine kk ?_;replace d:=e ▸ d;cases d
 have ao:hX [c] H h':=own.l4 off aD.extBut;have dead:∀b∈[c],al.get? b=U:=λb iV=>by rw[bT.mp iV];exact hd
 refine⟨i.but ao own (λb iV=>?_) (λb iV=>kC.x4 (dead b iV)),x.but ao dead,ao,own⟩
 induction e:aa.get? b with
 |none=>rfl
 |some o=>have:=kC.base _ _ e;replace this:=dead b iV ▸ this;exact bh this
theorem EG(h:∀aT k p,iter≠.Set aT k p):∀x,foldedSetIterable iter env x=pure x:=by
 intro x;cases iter <;> first|rfl|exact absurd ab (h _ _ _)
theorem Kp:src C (.Set aT k p) ns loc (ev C (.Set aT k p) ns loc) σ=.bad:=rfl
def CompEnd(aa:dE)(A:Around)(ρ:Map)(s:bp)(E:aw->bp->Prop)(use:Option (aw->Sem Unit))(Q:aw->bp->Prop)(r:Res V):Prop:=
 ∀v af,r=.ok v af->∀D c f aA H tk m,Inv aa af aA H->Ext [] ρ s.heap aA H->Rel aA H (.ref D) v->H.Ns c m->cT aA c->s.heap.get? c=U->compPost (bk aa.prog aa.w) A E use Q (.ref D) c (.ok f) (At H tk s)
def aiQ(aa:dE)(ρ:Map)(s:bp)(E:aw->bp->Prop)(r:Res V):Prop:=
 ∀e af,r=.exc e af->∀ev s',kd aa [] ρ s af (jc af e ev) s'->E ev s'
theorem acK{use:Option (aw->Sem Unit)}{Q:aw->bp->Prop}{E:aw->bp->Prop}{e:V}{acc:aw}{c:Addr}{res:Result}{s':bp}(de:Inv aa af ρ s.heap)(hd:s.heap.get? c=U)(x:zF aa ρ s.heap s c e σ res s')(f5:∀ev s',kd aa [] ρ s σ (jc σ e ev) s'->E ev s'):compPost (bk aa.prog aa.w) A E use Q acc c res s':=by
 obtain⟨ev,aA,eD,ei,m,rfl,rfl,dH,dm,re,hc,aM,off⟩:=x;refine⟨m,aM,λh' aD dX ae=>?_⟩;obtain⟨dz,d8,ao,own⟩:=Hm de dH dm aM off hd aD;have Xo:pO ev h':=by
  obtain⟨a,o,vs,bb,h1,h2,h3,bf⟩:=hc;refine⟨a,o,vs,bb,h1,ao.1 a o (λhm=>?_) h2,h3,bf⟩;obtain⟨o',hE,aT,cU,GF⟩:=rp aM;rw[bT.mp hm]at h2;replace hE:=h2 ▸ hE;cases hE;replace GF:=h3 ▸ GF;cases GF
 exact W3 (s:=At h' ei s) dz re Xo λfH ql p4=>f5 ev _ ⟨aA,fH,ei,ab,ql,d8.trans p4,re⟩
theorem Ch{elt target iter:Expr}{ifs:List Expr}{scope:Scope}{pos:Pos}{r:Res V}{use:Option (aw->Sem Unit)}{Q:aw->bp->Prop}{E:aw->bp->Prop}{pp:Pos}(aQ:eh aa A n C.calm)(F:c9 aa env ns loc ρ s.heap)(de:Inv aa σ ρ s.heap)
  (aD:pL aa C n iter) (aY:pK aa C n ifs) (he:cg aa C n elt) (h:OU C elt target iter ifs scope ns loc σ=r) (aP:r≠.bad)
  (yB:CompEnd aa A ρ s E use Q r) (rH:aiQ aa ρ s E r) :
  a3 (bk aa.prog aa.w) A (comprehension (.ListComp elt [⟨target,iter,ifs,0⟩] scope pos) scope env pp (newList []) aH (eval iter env) use) Q E s:=by
 subst h;have ph:=aD env ns loc σ ρ s A aQ F de;by_cases ia:∃aT k p,iter=.Set aT k p
 ·refine aE λkk=>?_;obtain⟨aT,k,p,rfl⟩:=ia;exact aP ab
 induction h1:src C iter ns loc (ev C iter ns loc) σ with
 |bad=>exact absurd (cS h1) aP
 |exc e a0=>
  rw[h1]at ph;unfold comprehension;exact aJ (cH ph (λae az f=>f.elim) λev s' hp=>rH e a0 (e1 h1) ev s' hp)
 |ok bA a0=>
 refine keep λP kk=>?_;have ax:OU C elt target iter ifs scope ns loc σ=_:=aN h1;obtain⟨ay,aO⟩:=FW (ax ▸ aP);replace ax:=ax.trans aO;clear aO;rcases y9 (ax ▸ aP) with ⟨N,cE,h2,c7⟩|⟨_,_,h2,_⟩
 case inr=>exact PA h2
 replace ax:=ax.trans c7;clear c7;obtain⟨rfl,qt⟩:=Pz h2;obtain⟨ek,eN⟩:=FW (ax ▸ aP);replace ax:=ax.trans eN;clear eN;rcases y9 (ax ▸ aP) with ⟨bJ,hu,h3,eX⟩|⟨_,_,h3,_⟩
 case inr=>exact Y2 h3
 replace ax:=ax.trans eX;clear eX;replace aP:=ax ▸ aP;have aad:∀l ny,compLoop bA (bindTo (ff (ca ns scope.names)) target) (tests C ifs (ca ns scope.names)) (ev C elt (ca ns scope.names)) (N+1) 0 bJ hu=.ok l ny->l.length<=bz:=λl ny h=>by
  have:=acP h;exact gq 0xA608021200213002129021 ab ek this
 simp only [g5]at ay;obtain⟨aL,ma,aae⟩:=ay;obtain⟨vO,ZL⟩:=acL aae;obtain⟨rfl,Gn,n5,me⟩:=MP h3;obtain⟨cl,aag,gg,GH⟩:=acV (env:=env) (scope:=scope) λx aI a8=>by
  obtain⟨j,bw⟩:=n5 x aI a8;obtain⟨c,o,e,_⟩:=F.cell x.1 j bw;exact⟨c,e⟩
 refine kk (wpAny_comprehension_free (g:=⟨target,iter,ifs,0⟩) (gs:=[]) (cl:=cl) ab (EG (λaT k p e=>ia ⟨aT,k,p,e⟩:∀aT k p,iter≠.Set aT k p)) aag vO ZL ?_);rw[h1]at ph;refine cH ph (λSE s₁ hp=>?_) λae az f=>f.elim;refine aE λkk=>?_;obtain⟨aZ,dQ,d9,rfl,bo,bO,b3⟩:=hp;refine kk ?_;refine nk.iter (s:=At dQ d9 s) bo bO b3 λit wr fl yt ko rJ=>?_;have dz:=bo.keeps yt;have d8:Ext [] ρ s.heap aZ fl:=bO.trans (Ext.of_keeps yt);have wR:c9 aa env ns loc aZ fl:=F.eV d8;refine pT (T := "list") (wpAny_newFunctionEnv Gn (by intro y bL;simp at bL) (λeM Gl Br=>?_) vO);dsimp only at Gl Br ⊢;have BP:∀b o,fl.get? b=I o->eM.get? b=I o:=λb o e=>Br.extBut b o (fZ (Heap.lt_size (ed _ e))) (ed _ (ed _ e));generalize BO:fl.push { cls:=.type "list",dict:=U,data:=.seq ([]:List aw).toArray }=pP at Gl Br ⊢;have NY:fl.objs.size≠pP.objs.size:=by rw[<-BO,w9];exact fZ (jK _)
 have qz:=Al d8.alive;have Ce:fl.get? pP.objs.size=U:=by
  induction e:fl.get? pP.objs.size with
  |none=>rfl
  |some o=>exact absurd (Heap.lt_size e) (by rw[(by rw[<-BO,w9]:pP.objs.size=fl.objs.size+1)];exact qT.mpr (jL _))
 have rU:s.heap.get? pP.objs.size=U:=by
  induction e:s.heap.get? pP.objs.size with
  |none=>rfl
  |some o=>obtain⟨o',bg⟩:=d8.alive _ _ e;rw[Ce]at bg;exact bh bg
 have xZ:cT aZ fl.objs.size:=dz.nQ;have h8:cT aZ pP.objs.size:=λp hp=>by
  obtain⟨cj,ax⟩:=dz.alive hp;exact λe=>(by rw[<-e,Ce]at ax;exact bh ax)
 have aiK:c9 aa env ns loc aZ eM:=wR.eV (Ext.of_keeps BP);generalize n7:({ newEnv scope pP.objs.size env.globals cl env.qual U .none (I env) (builtinsNs) with scope:=relabel scope env }:Env)=dX;have vW:dX.locals=pP.objs.size:=by rw[<-n7];rfl
 have aah:dX.cells=cl:=by rw[<-n7];rfl
 have aiL:c9 aa dX (ca ns scope.names) bJ aZ eM:=acQ aiK h3 vO gg GH (by rw[<-n7];rfl) Gl h8 λx d hd e=>by
  refine aE λkk=>?_;obtain⟨_,o,ho,_⟩:=wR.live x d hd;refine kk ?_;rw[e,Ce]at ho;exact bh ho
 have NI:∀y c,dX.cells.lookup y=I c->∃o,s.heap.get? c=I o:=λy c ay=>by
  rw[aah]at ay;refine aE λkk=>?_;obtain⟨_,o,ho,_⟩:=F.live y c (gg _ _ ay);refine kk ?_;exact⟨o,ho⟩
 have K:um aa s.heap dX wr fl.objs.size:=
  {deadW:=rJ
   qz:=qz
   rU:=by rw[vW];exact rU
   oZ:=λb al=>by
    refine⟨λe=>?_,λy c ay e=>?_⟩
    ·refine aE λkk=>?_;obtain⟨o,ho,_⟩:=ko.own b al;refine kk ?_;rw[e,vW,Ce]at ho;exact bh ho
    ·obtain⟨o,ho⟩:=NI y c ay;rw[<-e,rJ b al]at ho;exact bh ho
   xZ:=⟨by rw[vW];exact NY,λy c ay e=>by
     obtain⟨o,ho⟩:=NI y c ay;rw[<-e,qz]at ho;exact bh ho⟩
   base:=λb o e=>⟨o,de.base b o e⟩
   IE:=λhm=>by
    refine aE λkk=>?_;obtain⟨o,ho,_⟩:=ko.own _ hm;refine kk ?_;exact absurd (Heap.lt_size ho) (hZ _)
   fr:=λb al=>de.x4 (rJ b al) }
 have X:k0 aa ρ s.heap dX (ca ns scope.names) fl.objs.size bJ [] hu aZ eM:=
  {inv:=(dz.keeps BP)
   fx:=aiL
   ext:=d8.trans (Ext.of_keeps BP)
   acc:=⟨[],0,(Br.extBut _ _ (by rw[<-BO,w9];exact fZ (jK _)) (ed _ (BO ▸ gJ _ ab)):eM.get? fl.objs.size=I (er [] 0)),.nil⟩
   off:=xZ }
 have q1:=ko.ext (Ext.of_keeps (W:=[]) BP) λb al hm=>absurd hm gH;have Nj:compLoop bA (bindTo (ff (ca ns scope.names)) target) (tests C ifs (ca ns scope.names)) (ev C elt (ca ns scope.names)) (N+1) 0 bJ hu≠.bad:=λe=>aP (cS e);have fin:∀tk,codeAny (bk aa.prog aa.w) A (.compLoop (.ListComp elt [⟨target,iter,ifs,0⟩] scope pos) 0 it (.ref fl.objs.size) dX) (compPost (bk aa.prog aa.w) A E use Q (.ref fl.objs.size) pP.objs.size) (At eM tk s):=λtk=>by
  refine zJ ((λtk=>acO (iter:=iter) (scope:=scope) (pos:=pos) (sb:=s) aQ aL K aY he ma (N+1) 0 bJ [] hu aZ eM tk _ X q1 ab Nj (by simpa using ek)) tk) λr s' kF=>?_
  induction bf:compLoop bA (bindTo (ff (ca ns scope.names)) target) (tests C ifs (ca ns scope.names)) (ev C elt (ca ns scope.names)) (N+1) 0 bJ hu with
  |bad=>exact absurd bf Nj
  |exc e ny=>
   rw[bf]at kF;replace kF:zF aa ρ s.heap s dX.locals e ny r s':=kF;rw[vW]at kF;exact acK de rU kF (rH e ny (ax.trans (e1 bf)))
  |ok l ny=>
   rw[bf]at kF;refine aE λkk=>?_;obtain⟨rfl,Mj,xc,zx,xq,rfl,tV⟩:=kF;obtain⟨vs,k,g,e4⟩:=tV.acc;obtain⟨m,aM,_⟩:=tV.fx.vars;rw[vW]at aM;have LN:=tV.fx.jq;rw[vW]at LN;refine kk ?_;refine yB _ _ (ax.trans (aN bf)) _ _ _ (xc++[(fl.objs.size,0)]) zx xq m (tV.inv.grow (.snoc (A8 g)) (λae az e=>e) tV.off (K.zc qz) (λe he q=>by
    obtain⟨_,L,o,hL,g,_⟩:=de.up e he;replace q:=hL ▸ q;cases q;replace g:=qz ▸ g;exact bh g) ⟨vs,k,g,by rw[e4.length];simpa using (aad l ny bf),e4.sub (.snoc (A8 g))⟩) (tV.ext.grow qz) (.ref (d:=0) ?_) aM (λp hp=>?_) rU
   ·rw[<-tV.inv.len,mR (cI _),lN];rfl
   ·rcases hs.mp hp with hp|hp
    ·exact LN p hp
    ·rw[bT.mp hp];exact NY.symm
 exact codeAny_compStart_list (fin _) (q1.self (s:=At eM _ s) (fin _))
end
section
variable {al:Heap}{wr:List Addr}{aA d1:Map}{sb:bp}{mg mb:Str->Option aw}
variable {dX:Env}{fi:ct}{loc:Loc}{n:Nat}
theorem abN(aD:pL aa C n iter)(aY:pK aa C n ifs)(he:cg aa C n elt):cg aa C n (.ListComp elt [⟨target,iter,ifs,0⟩] scope pos):=
 λenv ns loc σ ρ s A aQ F i=>by
 induction h:ev C (.ListComp elt [⟨target,iter,ifs,0⟩] scope pos) ns loc σ with
 |bad=>exact aS
 |exc _ _=>exact Ch (use:=U) (Q:=λae az=>False) aQ F i aD aY he h nofun (λae az e=>(by cases e)) λae az e ev s' hp=>(by cases e;exact hp)
 |ok v af=>
  refine Ch (use:=U) aQ F i aD aY he h nofun (λae az e D c f aA H tk m dH dm r aM off hd=>⟨m,aM,λh' kE=>?_⟩) λae az e=>(by cases e);cases e;refine aE λkk=>?_;obtain⟨dz,d8,ao,own⟩:=Hm i dH dm aM off hd kE;exact kk ⟨aA,h',tk,ab,dz,d8,r.sub (ao.sub own)⟩
def PZ(ρ:Map)(h:Heap):a6->Flow->Prop
 |.next,f=>f=.next
 |.brk,f=>f=.brk
 |.cont,f=>f=.cont
 |.ret v,f=>∃val,f=.ret val/\Rel ρ h val v
def fo(aa:dE)(env:Env)(ns:ct):a6×Loc->Map->Heap->Flow->Prop:=λr ρ h f=>PZ ρ h r.1 f/\c9 aa env ns r.2 ρ h
variable (aa C n) in
def jG(st:Stmt):Prop:=∀(env:Env) (ns:ct) (loc:Loc) (σ:aq) (ρ:Map) (s:bp) (A:Around),eh aa A n C.calm->(∀b∈dp env,aa.get? b=U)->c9 aa env ns loc ρ s.heap->Inv aa σ ρ s.heap ->
 ah aa (dp env) ρ s A (fo aa env ns) (exec st env) (ex C st ns loc σ)
variable (aa C n) in
def ke(nG:List Stmt):Prop:=∀(env:Env) (ns:ct) (loc:Loc) (σ:aq) (ρ:Map) (s:bp) (A:Around),eh aa A n C.calm->(∀b∈dp env,aa.get? b=U)->c9 aa env ns loc ρ s.heap->Inv aa σ ρ s.heap ->
 ah aa (dp env) ρ s A (fo aa env ns) (execs nG env) (cm C nG ns loc σ)
theorem ah.fx{α β:Type}{t:Sem β}{r:Res α}{R:α->Map->Heap->β->Prop}(F:c9 aa env ns loc ρ s.heap)(h:ah aa [] ρ s A R t r):ah aa W ρ s A (λv aA h' b=>R v aA h' b/\c9 aa env ns loc aA h') t r:=by
 induction r with
 |bad=>exact aS
 |exc _ _=>exact cH h (λae az f=>f) λb s' aU=>by obtain⟨aA,h',tk,e,i,x,r⟩:=aU;exact⟨aA,h',tk,e,i,x.weak λae hm=>absurd hm gH,r⟩
 |ok v af=>
  refine cH h (λb s' hp=>?_) λae az x=>x;obtain⟨aZ,H,tk,rfl,bo,bO,b3⟩:=hp;exact⟨aZ,H,tk,ab,bo,bO.weak λae hm=>absurd hm gH,b3,F.eV bO⟩
theorem cg.st{e:Expr}(he:cg aa C n e)(aQ:eh aa A n C.calm)(F:c9 aa env ns loc ρ s.heap)(i:Inv aa σ ρ s.heap):ah aa W ρ s A (λv aA h' b=>Rel aA h' b v/\c9 aa env ns loc aA h') (eval e env) (ev C e ns loc σ):=ah.fx F (he env ns loc σ ρ s A aQ F i)
theorem hV.st{e:Expr}(he:hV aa C n e)(aQ:eh aa A n C.calm)(F:c9 aa env ns loc ρ s.heap)(i:Inv aa σ ρ s.heap):ah aa W ρ s A (λv aA h' b=>b=v/\c9 aa env ns loc aA h') (isTrue e env (eval e env)) (d4 C e ns loc (ev C e ns loc) σ):=ah.fx F (he env ns loc σ ρ s A aQ F i)
theorem G9:ke aa C n []:=λenv ns loc σ ρ s A aQ a8 F i=>ah.ret i ⟨ab,F⟩
theorem Ha{st:Stmt}{r:List Stmt}(h:jG aa C n st)(aP:ke aa C n r):ke aa C n (st::r):=λenv ns loc σ ρ s A aQ a8 F i=>by
 rw[RL];show ah aa (dp env) ρ s A (fo aa env ns) _ ((ex C st ns loc>>=λx=>andThen x (cm C r ns)) σ);refine ah.bind (h env ns loc σ ρ s A aQ a8 F i) λa a0 aZ H tk f bo bO b3=>?_;obtain⟨eU,iA⟩:=a;obtain⟨hx,jF⟩:=b3
 induction eU with
 |next=>cases hx;exact aP env ns iA a0 aZ _ A aQ a8 jF bo
 |brk=>cases hx;exact ah.ret bo ⟨ab,jF⟩
 |cont=>cases hx;exact ah.ret bo ⟨ab,jF⟩
 |ret v=>
  obtain⟨val,rfl,e4⟩:=hx;exact ah.ret bo ⟨⟨val,ab,e4⟩,jF⟩
theorem abr:jG aa C n (.Pass pos):=λenv ns loc σ ρ s A aQ a8 F i=>by
 rw[arm_exec_Pass];exact ah.standAt (ah.ret i ⟨ab,F⟩)
theorem abo:jG aa C n (.Return U pos):=λenv ns loc σ ρ s A aQ a8 F i=>by
 rw[ajh];exact ah.standAt (ah.ret i ⟨⟨.none,ab,.none⟩,F⟩)
theorem abp(he:cg aa C n e):jG aa C n (.Return (I e) pos):=λenv ns loc σ ρ s A aQ a8 F i=>by
 rw[ajh];refine ah.standAt (ah.bind (he.st aQ F i) λa a0 aZ H tk b bo bO b3=>?_);exact ah.ret bo ⟨⟨b,ab,b3.1⟩,b3.2⟩
theorem abt(aY:hV aa C n t)(bu:ke aa C n a)(al:ke aa C n b):jG aa C n (.If t a b pos):=λenv ns loc σ ρ s A aQ a8 F i=>by
 rw[arm_exec_If];refine ah.standAt (ah.bind (aY.st aQ F i) λc a0 aZ H tk mv bo bO b3=>?_);obtain⟨rfl,jF⟩:=b3
 induction mv with
 |true=>exact bu env ns loc a0 aZ _ A aQ a8 jF bo
 |false=>exact al env ns loc a0 aZ _ A aQ a8 jF bo
theorem ah.dropValue(i:Inv aa σ ρ s.heap)(F:c9 aa env ns loc ρ s.heap):ah aa W ρ s A (fo aa env ns) (PySem.dropValue (.Call f as [] q) p v) ((cv (a6.next,loc):M (a6×Loc)) σ):=by
 have fin:kd aa W ρ s σ (λaA h'=>fo aa env ns (.next,loc) aA h' .next) s:=⟨ρ,s.heap,s.toks,ab,i,Ext.refl,ab,F⟩
 induction v with
 |ref a=>exact aJ (oA (aJ (wpAny_runValue (IT entry_let_go (show a3 _ _ (PySem.ret .none) _ _ s from bQ (bQ fin))))))
 |_=>exact bQ fin
theorem Og(he:cg aa C n (.Call f as [] p)):jG aa C n (.Expr (.Call f as [] p) pos):=λenv ns loc σ ρ s A aQ a8 F i=>by
 rw[arm_exec_Expr];have aR:interactive env=aH:=by unfold interactive;rw[F.kind];rfl
 rw[aR,(ab:swapsWith (.Call f as [] p) U pos.line env=cv aH)];refine ah.standAt ?_;refine(?_:ah aa (dp env) ρ s A (fo aa env ns) (eval (.Call f as [] p) env>>=λv=>PySem.dropValue (.Call f as [] p) pos v) ((ev C (.Call f as [] p) ns loc>>=λae=>(cv (a6.next,loc):M (a6×Loc))) σ));exact ah.bind (he.st aQ F i) λa a0 aZ H tk b bo bO b3=>ah.dropValue bo b3.2
theorem ah.AI{t:Sem Unit}{m:M Loc}(h:ah aa W ρ s A (qI aa env ns) t (m σ)):ah aa W ρ s A (fo aa env ns) (t>>=λae=>cv Flow.next) ((m>>=λl=>(cv (a6.next,l):M (a6×Loc))) σ):=
 ah.bind h λa a0 aZ H tk b bo bO b3=>ah.ret bo ⟨ab,b3⟩
variable (aa C n) in
def De(value:Expr):Prop:=∀elt t it ifs sc p,value=.ListComp elt [⟨t,it,ifs,0⟩] sc p->pL aa C n it/\pK aa C n ifs/\cg aa C n elt
theorem abz(aK:cg aa C n value)(aQ:eh aa A n C.calm)(a8:∀b∈dp env,aa.get? b=U)(F:c9 aa env ns loc ρ s.heap)(i:Inv aa σ ρ s.heap)(yq:swapsWith value (I (.Name x p)) pos.line env=pure aH) :
  ah aa (dp env) ρ s A (fo aa env ns) (exec (.Assign [.Name x p] value pos) env) (ex C (.Assign [.Name x p] value pos) ns loc σ):=by
 rw[ajl _ _ _ _ _ yq];show ah aa (dp env) ρ s A (fo aa env ns) _ ((ev C value ns loc>>=λv=>stLoc ns x v loc>>=λl=>(cv (a6.next,l):M (a6×Loc))) σ);refine ah.standAt (ah.bind (aK.st aQ F i) λa a0 aZ H tk b bo bO b3=>ah.standAt ?_);exact ah.AI (ah.bindName ((sJ a8).store x b a loc a0 aZ _ A b3.2 bo b3.1))
theorem aby(aD:pL aa C n iter)(aY:pK aa C n ifs)(he:cg aa C n elt)(aQ:eh aa A n C.calm)(a8:∀b∈dp env,aa.get? b=U)
  (F:c9 aa env ns loc ρ s.heap) (i:Inv aa σ ρ s.heap) (yq:swapsWith (.ListComp elt [⟨target,iter,ifs,0⟩] scope tO) (I (.Name x p)) pos.line env=pure ak) :
  ah aa (dp env) ρ s A (fo aa env ns) (exec (.Assign [.Name x p] (.ListComp elt [⟨target,iter,ifs,0⟩] scope tO) pos) env) (ex C (.Assign [.Name x p] (.ListComp elt [⟨target,iter,ifs,0⟩] scope tO) pos) ns loc σ):=by
 rw[exec_Assign_Name_used _ _ _ _ yq];show ah aa (dp env) ρ s A (fo aa env ns) _ ((ev C (.ListComp elt [⟨target,iter,ifs,0⟩] scope tO) ns loc>>=λv=>stLoc ns x v loc>>=λl=>(cv (a6.next,l):M (a6×Loc))) σ)
 induction h:ev C (.ListComp elt [⟨target,iter,ifs,0⟩] scope tO) ns loc σ with
 |bad=>rw[cS h];exact aS
 |exc e af=>
  rw[e1 h];refine aJ (oA (aJ ?_));rw[ajj];exact aJ (Ch (use:=I (assign (.Name x p) env)) (Q:=λae az=>_) aQ F i aD aY he h nofun (λae az e=>(by cases e)) λae az e ev s' hp=>(by
   cases e;obtain⟨aA,h',tk,e,i,x,r⟩:=hp;exact⟨aA,h',tk,e,i,x.weak λae hm=>absurd hm gH,r⟩))
 |ok v af=>
  rw[aN h]
  induction h2:stLoc ns x v loc af with
  |bad=>rw[cS h2];exact aS
  |exc _ _=>exact absurd h2 ((sJ (aa:=aa) (env:=env) a8).quiet _ _ _ _ _ _)
  |ok bJ eF=>
   rw[aN h2];refine aJ (oA (aJ ?_));rw[ajj];refine aJ (Ch (use:=I (assign (.Name x p) env)) (Q:=λae s'=>_) aQ F i aD aY he h nofun (λae az e D c f aA H tk m dH dm r aM off hd=>?_) λae az e=>(by cases e));cases e;have st:ah aa (dp env) aA (At H tk s) A (qI aa env ns) (assign (.Name x p) env (.ref D)) (stLoc ns x v loc af):=by
    rw[RN];exact ah.standAt (ah.bindName ((sJ a8).store x (.ref D) v loc af aA (At H tk s) A (F.eV dm) dH r))
   rw[h2]at st;refine cH st (λae s' hp=>?_) λae az f=>f.elim;obtain⟨aZ,dQ,d9,rfl,bo,bO,jF⟩:=hp;have NK:qd env c:=F.LM hd;have Nf:dQ.Ns c m:=bO.AU aM NK.LY off;refine⟨m,Nf,λh' kE=>bQ (bQ ?_)⟩;have jg:Ext (dp env) ρ s.heap aZ dQ:=(dm.weak λae hm=>absurd hm gH).trans bO;obtain⟨o,ho,_⟩:=rp aM;obtain⟨dz,d8,ao,own⟩:=Hm i bo jg Nf (cT.ext bO ho off) hd kE;exact⟨aZ,h',d9,ab,dz,d8,ab,jF.but ao own λb al=>by rw[bT.mp al];exact NK⟩
theorem Oh(aK:cg aa C n value)(ay:De aa C n value):jG aa C n (.Assign [.Name x p] value pos):=λenv ns loc σ ρ s A aQ a8 F i=>by
 have plain:=λyq=>abz (x:=x) (p:=p) (pos:=pos) aK aQ a8 F i yq;have HD:∀(al:ev C value ns loc σ=.bad),ah aa (dp env) ρ s A (fo aa env ns) (exec (.Assign [.Name x p] value pos) env) (ex C (.Assign [.Name x p] value pos) ns loc σ):=λal=>by
  show ah aa (dp env) ρ s A (fo aa env ns) _ ((ev C value ns loc>>=λv=>stLoc ns x v loc>>=λl=>(cv (a6.next,l):M (a6×Loc))) σ);rw[cS al];exact aS
 induction value using Expr.casesOn with
 |ListComp elt gens scope tO=>
  have al:∃b,swapsWith (.ListComp elt gens scope tO) (I (.Name x p)) pos.line env=cv b:=⟨_,ab⟩;obtain⟨b,al⟩:=al
  induction b using Bool.casesOn with
  |false=>exact plain al
  |true=>
   refine aE λkk=>?_;rcases OT gens with ⟨t,it,ifs,rfl⟩|ts
   ·skip
    obtain⟨h1,h2,h3⟩:=ay elt t it ifs scope tO ab;exact kk (aby h1 h2 h3 aQ a8 F i al)
   ·exact kk (HD (by rw[ts];rfl))
 |SetComp _ _ _ _=>exact HD ab
 |DictComp _ _ _ _ _=>exact HD ab
 |_=>exact plain ab
theorem abx{o i:Expr}{p pos:Pos}{value:Expr}(aK:cg aa C n value)(ho:cg aa C n o)(aR:cg aa C n i):jG aa C n (.Assign [.Subscript o i p] value pos):=λenv ns loc σ ρ s A aQ a8 F de=>by
 rw[exec_Assign_Subscript _ _ _ _ _ (by cases value <;> rfl)];refine(?_:ah aa (dp env) ρ s A (fo aa env ns) _ ((ev C value ns loc>>=λv=>ev C o ns loc>>=λa=>ev C i ns loc>>=λb=>Mine.Internal.setItem a b v>>=λae=>(cv (a6.next,loc):M (a6×Loc))) σ));refine ah.standAt (ah.bind (aK.st aQ F de) λa a0 aZ dQ d9 ag bo bO b3=>?_);refine(?_:ah aa (dp env) aZ _ A (fo aa env ns) _ (((ev C o ns loc>>=λb=>ev C i ns loc>>=λc=>Mine.Internal.setItem b c a>>=λae=>(cv loc:M Loc))>>=λl=>(cv (a6.next,l):M (a6×Loc))) a0));refine ah.AI ?_;rw[arm_assign_Subscript];refine ah.bind (ah.holding (ho.st aQ b3.2 bo)) λb cE eA d2 ee ai dz d8 g8=>?_;refine ah.bind (ah.holding (aR.st aQ g8.2 dz)) λc hu pZ wO p5 ar l5 nA rg=>ah.standAt ?_;refine ah.bind (ah.holding (ah.fx rg.2 (ah.setItem (aa:=aa) (A:=A) (W:=[]) (s:=At wO p5 s) l5 aQ.u (g8.1.ext nA) rg.1 ((b3.1.ext d8).ext nA)))) λae ny DG Ir Eg az FV SD Iv=>ah.of_wp (IJ ⟨DG,Ir,Eg,ab,FV,Ext.refl,Iv.2⟩)
theorem abA{o:Expr}{m:Str}{p pos:Pos}{value:Expr}(B:gF tx mg mb aa.heap)(gg:C.cls=tx.cls)(aK:cg aa C n value)(ho:cg aa C n o):jG aa C n (.Assign [.Attribute o m p] value pos):=λenv ns loc σ ρ s A aQ a8 F de=>by
 rw[plainObj_exec_Assign_Attribute _ _ _ _ _ (by cases value <;> rfl)];refine(?_:ah aa (dp env) ρ s A (fo aa env ns) _ ((ev C value ns loc>>=λv=>ev C o ns loc>>=λa=>d5 C m v a>>=λae=>(cv (a6.next,loc):M (a6×Loc))) σ));refine ah.standAt (ah.bind (aK.st aQ F de) λa a0 aZ dQ d9 ag bo bO b3=>?_);refine(?_:ah aa (dp env) aZ _ A (fo aa env ns) _ (((ev C o ns loc>>=λb=>d5 C m a b>>=λae=>(cv loc:M Loc))>>=λl=>(cv (a6.next,l):M (a6×Loc))) a0));refine ah.AI ?_;rw[assign_Attribute];refine ah.bind (ah.holding (ho.st aQ b3.2 bo)) λb cE eA d2 ee ai dz d8 g8=>ah.standAt ?_;refine ah.bind (ah.holding (ah.fx g8.2 (ah.d5 (aa:=aa) (A:=A) (W:=[]) (s:=At d2 ee s) B gg dz g8.1 (b3.1.ext d8)))) λae ny DG Ir Eg az FV SD Iv=>ah.of_wp (IJ ⟨DG,Ir,Eg,ab,FV,Ext.refl,Iv.2⟩)
theorem abw{eB:List Expr}{k:Nat}{p pos:Pos}{value:Expr}(aK:cg aa C n value):jG aa C n (.Assign [.Tuple eB k p] value pos):=λenv ns loc σ ρ s A aQ a8 F i=>by
 rw[arm_exec_Assign];refine(?_:ah aa (dp env) ρ s A (fo aa env ns) _ ((if (C.calm&&(xn value).isNone)=ak then (ev C value ns loc>>=λv=>bindTo (stLoc ns) (.Tuple eB k p) v loc>>=λl=>(cv (a6.next,l):M (a6×Loc))) else M.bad) σ));refine ah.ite λay=>?_;rw[g5]at ay;obtain⟨aL,ay⟩:=ay;have h1:swapsWithSole [.Tuple eB k p] value pos.line env=cv aH:=by cases value <;> rfl
 have h2:swappedStores [.Tuple eB k p] value env=cv U:=by cases value <;> first|rfl|exact absurd ay uy
 rw[h1,h2];refine ah.standAt ?_;refine(?_:ah aa (dp env) ρ s A (fo aa env ns) (eval value env>>=λv=>assign (.Tuple eB k p) env v>>=λae=>cv Flow.next) _);refine ah.bind (aK.st aQ F i) λa a0 aZ dQ d9 ag bo bO b3=>?_;exact ah.AI (ah.bindTo (sJ a8) (aQ.handled aL) b3.2 bo b3.1)
theorem abE(h1:nameIn t=U)(h2:subIn t=U)(h3:HJ t=U)(bf:xn t=U):yP C t value ns loc=M.bad:=by
 unfold yP;rw[h1];dsimp only;rw[h2];dsimp only;rw[h3];dsimp only;rw[bf]
theorem abv(he:cg aa C n e):jG aa C n (.Expr e pos):=by
 induction h:Hp e with
 |some q=>obtain⟨⟨f,as,q⟩,rfl⟩:=q;exact Og he
 |none=>
  intro env ns loc σ ρ s A aQ a8 F i;refine(?_:ah aa (dp env) ρ s A (fo aa env ns) _ ((match Hp e with|some _=>(ev C e ns loc>>=λae=>(cv (a6.next,loc):M (a6×Loc)))|none=>M.bad) σ));rw[h];exact aS
end
section
variable {al:Heap}{wr:List Addr}{aA d1:Map}{sb:bp}{mg mb:Str->Option aw}
variable {dX:Env}{fi:ct}{loc:Loc}{n:Nat}
theorem aaY
  (h:a3 (bk aa.prog aa.w) A (pyNext it) (λr s₁=>match r with
   |none=>R (.ok .next) s₁
   |some v=>a3 (bk aa.prog aa.w) A (letOwnedTupleGo target it v) (λae xA=>
     a3 (bk aa.prog aa.w) A (assign target env v) (λae q8=>a3 (bk aa.prog aa.w) A (execs body env) (λf lU=>match f with
      |.next|.cont=>codeAny (bk aa.prog aa.w) A (.forLoop target it body [] env) R lU
      |.brk=>R (.ok .next) lU
      |.ret v=>R (.ok (.ret v)) lU) (notedBy (bk aa.prog aa.w) A env λx s'=>R (.error x) s') q8) (notedBy (bk aa.prog aa.w) A env λx s'=>R (.error x) s') xA) (notedBy (bk aa.prog aa.w) A env λx s'=>R (.error x) s') s₁) (λae az=>False) s) :
  codeAny (bk aa.prog aa.w) A (.forLoop target it body [] env) R s:=by
 refine IS ?_;refine(?_:a3 _ A ((forTurn target it body [] env).onRaise (λx=>do noteFrame x env;theTreesLotGoes x)) _ _ s);refine RC ?_;simp only [forTurn];refine aJ (oA (aJ (Di (cH h (λr s₁ dv=>?_) λae az h'=>h'.elim))))
 induction r with
 |none=>exact bQ ⟨ab,codeAny_block (RF dv)⟩
 |some v=>
  refine aJ (cH dv (λae xA F6=>?_) λae az h'=>h');refine aJ (cH F6 (λae q8 fl=>aJ (cH fl (λf lU eM=>?_) λae az h'=>h')) λae az h'=>h')
  induction f with
  |next=>exact bQ ⟨ab,eM⟩
  |cont=>exact bQ ⟨ab,eM⟩
  |brk=>exact bQ eM
  |ret v=>exact bQ eM
structure ox(aa:dE)(d1:Map)(al:Heap)(env:Env)(ns:ct)(loc:Loc)(σ:aq)(ρ:Map)(h:Heap):Prop where
 inv:Inv aa σ ρ h
 fx:c9 aa env ns loc ρ h
 ext:Ext (dp env) d1 al ρ h
structure IA(aa:dE)(al:Heap)(env:Env)(wr:List Addr):Prop where
 deadW:∀b∈wr,al.get? b=U
 y1:∀b∈wr,aa.get? b=U
 oZ:∀b∈wr,qd env b
 fr:Ii aa wr
theorem ox.but(K:IA aa al env wr)(x:ox aa d1 al env ns loc σ ρ h)(ao:hX wr h h')(ho:Own wr ρ h):ox aa d1 al env ns loc σ ρ h' where
 inv:=x.inv.but ao ho K.y1 K.fr
 fx:=x.fx.but ao ho K.oZ
 ext:=x.ext.but ao K.deadW
theorem aa0(h:bA.at σ i=U):forLoop bA bt body (k+1) i loc σ=.bad:=by
 show(bA.get i>>=_) σ=_;rw[cS (by unfold Src.get;rw[hU,h])]
def C9(aa:dE)(d1:Map)(al:Heap)(sb:bp)(env:Env)(ns:ct):Res (a6×Loc)->Result->bp->Prop
 |.bad,_,_=>True
 |.ok r af,res,s'=>∃f aA eD ei,res=.ok f/\s'=(At eD ei sb)/\PZ aA eD r.1 f/\ox aa d1 al env ns r.2 af aA eD
 |.exc e af,res,s'=>∃ev aA eD ei,res=.error ev/\s'=(At eD ei sb)/\Inv aa af aA eD/\Ext (dp env) d1 al aA eD/\jc af e ev aA eD/\pO ev eD
theorem aaZ(aL:C.calm=ak)(aQ:eh aa A n C.calm)(K:IA aa al env wr)(a8:∀b∈dp env,aa.get? b=U)(mj:ke aa C n body)(ma:gz bA target=ak) :
  ∀(k i:Nat) (loc:Loc) (σ:aq) (ρ:Map) (H:Heap) (tk:Nat) (r:Res (a6×Loc)),ox aa d1 al env ns loc σ ρ H->gX aa i ρ H bA it wr ->
   forLoop bA (bindTo (stLoc ns) target) (cm C body ns) k i loc σ=r->r≠.bad ->
   codeAny (bk aa.prog aa.w) A (.forLoop target it body [] env) (C9 aa d1 al sb env ns r) (At H tk sb):=by
 intro k
 induction k with
 |zero=>
  intro _ _ _ _ _ _ _ _ _ h aM;exact absurd h.symm aM
 |succ k au=>
  intro i loc σ ρ H tk r x ko h aM;have oZ:∀b∈wr,b∉dp env:=λb al=>(K.oZ b al).LY
  induction fm:bA.at σ i with
  |none=>replace h:=aa0 fm ▸ h;exact absurd h.symm aM
  |some o=>
   replace h:=N7 fm ▸ h;refine aaY (s:=At H tk sb) (ko.next (s:=At H tk sb) (aQ.handled aL) x.inv fm ma (λh' ho ao=>?_) λv val h' ei aK ao GB=>?_)
   ·subst ho;subst h;exact⟨.next,ρ,h',tk,ab,ab,ab,x.but K ao ko.own⟩
   ·subst aK;refine GB _ _ λfH vQ e4 DO=>?_;have km:=x.but K vQ ko.own;have h1:=ah.bindTo (s:=At fH ei sb) (t:=target) (sJ (aa:=aa) (env:=env) (ns:=ns) a8) (aQ.handled aL) km.fx km.inv e4
    induction qs:bindTo (stLoc ns) target v loc σ with
    |bad=>exact absurd ((cS qs).symm.trans h).symm aM
    |exc _ _=>exact absurd qs (Hx (sJ (aa:=aa) (env:=env) (ns:=ns) a8))
    |ok iA a0=>
    replace h:=(aN qs).symm.trans h;replace h1:=qs ▸ h1;refine cH h1 (λae s' hp=>?_) λae az f=>f.elim;obtain⟨aZ,dQ,d9,rfl,bo,j1,jF⟩:=hp;have jg:ox aa d1 al env ns iA a0 aZ dQ:=⟨bo,jF,km.ext.trans j1⟩;have h2:=mj env ns iA a0 aZ (At dQ d9 sb) A aQ a8 jg.fx jg.inv
    induction jv:cm C body ns iA a0 with
    |bad=>exact absurd ((cS jv).symm.trans h).symm aM
    |exc e cE=>
     have:=(e1 jv).symm.trans h;subst this;replace h2:=jv ▸ h2;refine cH h2 (λae az f=>f.elim) λev s' hp=>?_;obtain⟨eA,d2,ee,rfl,dz,iE,re⟩:=hp;refine x3 (s:=At d2 ee sb) aQ jg.fx.top dz re λh' dH dm hc=>?_;exact⟨ev,eA,h',ee,ab,ab,dH,(jg.ext.trans iE).trans (dm.weak λae hm=>absurd hm gH),re,hc⟩
    |ok a cE=>
    replace h:=(aN jv).symm.trans h;replace h2:=jv ▸ h2;refine cH h2 (λf s' hp=>?_) λae az f=>f.elim;obtain⟨eA,d2,ee,rfl,dz,iE,hx,wR⟩:=hp;obtain⟨eU,s8⟩:=a;have ix:ox aa d1 al env ns s8 cE eA d2:=⟨dz,wR,jg.ext.trans iE⟩;have q1:=(DO.ext j1 oZ).ext iE oZ
    induction eU with
    |next=>cases hx;exact au (i+1) s8 cE eA d2 ee r ix q1 h aM
    |cont=>cases hx;exact au (i+1) s8 cE eA d2 ee r ix q1 h aM
    |brk=>cases hx;subst h;exact⟨.next,eA,d2,ee,ab,ab,ab,ix⟩
    |ret u=>
     obtain⟨val,rfl,xN⟩:=hx;subst h;exact⟨.ret val,eA,d2,ee,ab,ab,⟨val,ab,xN⟩,ix⟩
theorem N6(aL:C.calm=ak)(aQ:eh aa A n C.calm)(a8:∀b∈dp env,aa.get? b=U)(F:c9 aa env ns loc ρ s.heap)(de:Inv aa σ ρ s.heap)
  (aD:pL aa C n iter) (mj:ke aa C n body) (ma:gz bA target=ak) (h1:src C iter ns loc (ev C iter ns loc) σ=.ok bA a0) (h3:forLoop bA (bindTo (stLoc ns) target) (cm C body ns) N 0 loc a0=r) (aP:r≠.bad)
  (yB:∀res s',C9 aa ρ s.heap s env ns r res s'->match res with|.ok f=>Q f s'|.error e=>cameBackBy (bk aa.prog aa.w) A env E e s'):a3 (bk aa.prog aa.w) A (exec (.For target iter body [] pos) env) Q E s:=by
 have ia:∀aT k p,iter≠.Set aT k p:=λaT k p e=>by subst e;rw[Kp]at h1;exact iF h1
 have ph:=aD env ns loc σ ρ s A aQ F de;rw[h1]at ph;refine wpAny_For (cH ph (λSE s₁ hp=>?_) λae az f=>f.elim) (EG ia);obtain⟨aZ,dQ,d9,rfl,bo,bO,b3⟩:=hp;refine nk.iter (s:=At dQ d9 s) bo bO b3 λit wr fl yt ko rJ=>?_;have d8:Ext [] ρ s.heap aZ fl:=bO.trans (Ext.of_keeps yt);have K:IA aa s.heap env wr:=
  {deadW:=rJ
   y1:=λb al=>by
    induction e:aa.get? b with
    |none=>rfl
    |some o=>have:=de.base _ _ e;rw[rJ b al]at this;exact bh this
   oZ:=λb al=>F.LM (rJ b al)
   fr:=λb al=>de.x4 (rJ b al) }
 have X:ox aa ρ s.heap env ns loc a0 aZ fl:=⟨(bo.keeps yt),F.eV d8,d8.weak λae hm=>absurd hm gH⟩;exact zJ (aaZ (sb:=s) aL aQ K a8 mj ma N 0 loc a0 aZ fl d9 r X ko h3 aP) yB
theorem abu(aD:pL aa C n iter)(mj:ke aa C n body):jG aa C n (.For target iter body [] pos):=λenv ns loc σ ρ s A aQ a8 F de=>by
 refine(?_:ah aa (dp env) ρ s A (fo aa env ns) _ ((src C iter ns loc (ev C iter ns loc)>>=λbA=>if (C.calm&&gz bA target)=ak then (bA.count>>=λN=>forLoop bA (bindTo (stLoc ns) target) (cm C body ns) (N+1) 0 loc) else M.bad) σ))
 induction h1:src C iter ns loc (ev C iter ns loc) σ with
 |bad=>rw[cS h1];exact aS
 |exc e a0=>
  rw[e1 h1];have ia:∀aT k p,iter≠.Set aT k p:=λaT k p e=>by subst e;rw[Kp]at h1;exact mx h1
  have ph:=aD env ns loc σ ρ s A aQ F de;rw[h1]at ph;refine wpAny_For (cH ph (λae az f=>f.elim) λev s' hp=>?_) (EG ia);obtain⟨aZ,dQ,d9,rfl,bo,bO,b3⟩:=hp;exact⟨aZ,dQ,d9,ab,bo,bO.weak λae hm=>absurd hm gH,b3⟩
 |ok bA a0=>
  rw[aN h1];refine ah.ite λay=>?_;rw[g5]at ay;obtain⟨aL,ma⟩:=ay
  induction h2:bA.count a0 with
  |bad=>rw[cS h2];exact aS
  |exc _ _=>exact PA h2
  |ok N cE=>
   rw[aN h2];obtain⟨rfl,qt⟩:=Pz h2
   induction h3:forLoop bA (bindTo (stLoc ns) target) (cm C body ns) (N+1) 0 loc cE with
   |bad=>exact aS
   |exc e af=>
    refine N6 aL aQ a8 F de aD mj ma h1 h3 nofun λres s' aP=>?_;obtain⟨ev,aA,eD,ei,rfl,rfl,dH,dm,re,hc⟩:=aP;exact O6 (s:=At eD ei s) dH re hc λfH ql p4=>⟨aA,fH,ei,ab,ql,dm.trans (p4.weak λae hm=>absurd hm gH),re⟩
   |ok r af=>
    refine N6 aL aQ a8 F de aD mj ma h1 h3 nofun λres s' aP=>?_;refine aE λkk=>?_;obtain⟨f,aA,eD,ei,rfl,rfl,hx,tW⟩:=aP;exact kk ⟨aA,eD,ei,ab,tW.inv,tW.ext,hx,tW.fx⟩
theorem Jp
  (h:a3 (bk aa.prog aa.w) A (isTrue test env (eval test env)) (λb s₁=>if b=ak then a3 (bk aa.prog aa.w) A (execs body env) (λf lU=>match f with
      |.next|.cont=>codeAny (bk aa.prog aa.w) A (.whileLoop test body [] env) R lU
      |.brk=>R (.ok .next) lU
      |.ret v=>R (.ok (.ret v)) lU) (notedBy (bk aa.prog aa.w) A env λx s'=>R (.error x) s') s₁ else R (.ok .next) s₁) (notedBy (bk aa.prog aa.w) A env λx s'=>R (.error x) s') s) :
  codeAny (bk aa.prog aa.w) A (.whileLoop test body [] env) R s:=by
 refine IS ?_;refine(?_:a3 _ A ((whileTurn test body [] env).onRaise (λx=>do noteFrame x env;theTreesLotGoes x)) _ _ s);refine RC ?_;simp only [whileTurn];refine aJ (cH h (λb s₁ dv=>?_) λae az h'=>h')
 induction b with
 |false=>exact aJ (RF (bQ dv))
 |true=>
  refine aJ (cH dv (λf lU eM=>?_) λae az h'=>h')
  induction f with
  |next=>exact bQ ⟨ab,eM⟩
  |cont=>exact bQ ⟨ab,eM⟩
  |brk=>exact bQ eM
  |ret v=>exact bQ eM
theorem Jm(aQ:eh aa A n C.calm)(a8:∀b∈dp env,aa.get? b=U)(aY:hV aa C n t)(mj:ke aa C n body) :
  ∀(k:Nat) (loc:Loc) (σ:aq) (ρ:Map) (H:Heap) (tk:Nat) (r:Res (a6×Loc)),ox aa d1 al env ns loc σ ρ H->hP (λl=>d4 C t ns l (ev C t ns l)) (cm C body ns) k loc σ=r->r≠.bad ->
   codeAny (bk aa.prog aa.w) A (.whileLoop t body [] env) (C9 aa d1 al sb env ns r) (At H tk sb):=by
 intro k
 induction k with
 |zero=>intro _ _ _ _ _ _ _ h aM;exact absurd h.symm aM
 |succ k au=>
  intro loc σ ρ H tk r x h aM;have s1:=aY env ns loc σ ρ (At H tk sb) A aQ x.fx x.inv;have kJ:∀{e:V}{ev:aw}{cE:aq}{eA:Map}{d2:Heap}{ee:Nat},Inv aa cE eA d2->Ext (dp env) d1 al eA d2->jc cE e ev eA d2->notedBy (bk aa.prog aa.w) A env (λx s'=>C9 aa d1 al sb env ns (.exc e cE) (.error x) s') ev (At d2 ee sb):=λ{e ev cE eA d2 ee} dz iE re=>
   x3 (s:=At d2 ee sb) aQ x.fx.top dz re λh' dH dm hc=>⟨ev,eA,h',ee,ab,ab,dH,iE.trans (dm.weak λae hm=>absurd hm gH),re,hc⟩
  induction h1:d4 C t ns loc (ev C t ns loc) σ with
  |bad=>exact absurd ((cS (m:=d4 C t ns loc (ev C t ns loc)) h1).symm.trans h).symm aM
  |exc e a0=>
   have:=(e1 (m:=d4 C t ns loc (ev C t ns loc)) h1).symm.trans h;subst this;replace s1:=h1 ▸ s1;refine Jp (s:=At H tk sb) (cH s1 (λae az f=>f.elim) λev s' hp=>?_);obtain⟨eA,d2,ee,rfl,dz,iE,re⟩:=hp;exact kJ dz (x.ext.trans (iE.weak λae hm=>absurd hm gH)) re
  |ok c a0=>
  replace h:=(aN (m:=d4 C t ns loc (ev C t ns loc)) h1).symm.trans h;replace s1:=h1 ▸ s1;refine Jp (s:=At H tk sb) (cH s1 (λmv s' hp=>?_) λae az f=>f.elim);obtain⟨aZ,dQ,d9,rfl,bo,j1,ay⟩:=hp;have ay:mv=c:=ay;subst ay;have km:ox aa d1 al env ns loc a0 aZ dQ:=⟨bo,x.fx.eV j1,x.ext.trans (j1.weak λae hm=>absurd hm gH)⟩
  induction mv with
  |false=>
   subst h;exact⟨.next,aZ,dQ,d9,ab,ab,ab,km⟩
  |true=>
   have s2:=mj env ns loc a0 aZ (At dQ d9 sb) A aQ a8 km.fx km.inv
   induction h2:cm C body ns loc a0 with
   |bad=>exact absurd ((cS (m:=cm C body ns loc) h2).symm.trans h).symm aM
   |exc e cE=>
    have:=(e1 (m:=cm C body ns loc) h2).symm.trans h;subst this;replace s2:=h2 ▸ s2;refine cH s2 (λae az f=>f.elim) λev s' hp=>?_;obtain⟨eA,d2,ee,rfl,dz,iE,re⟩:=hp;exact kJ dz (km.ext.trans iE) re
   |ok a cE=>
   replace h:=(aN (m:=cm C body ns loc) h2).symm.trans h;replace s2:=h2 ▸ s2;refine cH s2 (λf s' hp=>?_) λae az f=>f.elim;obtain⟨eA,d2,ee,rfl,dz,iE,hx,wR⟩:=hp;obtain⟨eU,s8⟩:=a;have ix:ox aa d1 al env ns s8 cE eA d2:=⟨dz,wR,km.ext.trans iE⟩
   induction eU with
   |next=>cases hx;exact au s8 cE eA d2 ee r ix h aM
   |cont=>cases hx;exact au s8 cE eA d2 ee r ix h aM
   |brk=>cases hx;subst h;exact⟨.next,eA,d2,ee,ab,ab,ab,ix⟩
   |ret u=>
    obtain⟨val,rfl,xN⟩:=hx;subst h;exact⟨.ret val,eA,d2,ee,ab,ab,⟨val,ab,xN⟩,ix⟩
theorem SI(tt:Loc->M Bool)(bd:Loc->M (a6×Loc)):sC tt bd loc σ=oF tt bd loc σ:=by
 show(oF tt bd loc σ).bind Res.ok=_;cases oF tt bd loc σ <;> rfl
theorem abm(aY:hV aa C n t)(mj:ke aa C n body):jG aa C n (.While t body [] pos):=λenv ns loc σ ρ s A aQ a8 F de=>by
 refine(?_:ah aa (dp env) ρ s A (fo aa env ns) _ (sC (λl=>d4 C t ns l (ev C t ns l)) (cm C body ns) loc σ));rw[SI];unfold oF;by_cases hex:∃k,hP (λl=>d4 C t ns l (ev C t ns l)) (cm C body ns) k loc σ≠.bad
 case neg=>rw[dif_neg hex];exact aS
 rw[dif_pos hex];generalize Classical.choose hex=k
 induction h:hP (λl=>d4 C t ns l (ev C t ns l)) (cm C body ns) k loc σ with
 |bad=>exact aS
 |exc e af=>
  refine wpAny_While (zJ (Jm (sb:=s) aQ a8 aY mj k loc σ ρ s.heap s.toks _ ⟨de,F,Ext.refl⟩ h nofun) λres s' aP=>?_);obtain⟨ev,aA,eD,ei,rfl,rfl,dH,dm,re,hc⟩:=aP;exact O6 (s:=At eD ei s) dH re hc λfH ql p4=>⟨aA,fH,ei,ab,ql,dm.trans (p4.weak λae hm=>absurd hm gH),re⟩
 |ok r af=>
  refine wpAny_While (zJ (Jm (sb:=s) aQ a8 aY mj k loc σ ρ s.heap s.toks _ ⟨de,F,Ext.refl⟩ h nofun) λres s' aP=>?_);refine aE λkk=>?_;obtain⟨f,aA,eD,ei,rfl,rfl,hx,tW⟩:=aP;exact kk ⟨aA,eD,ei,ab,tW.inv,tW.ext,hx,tW.fx⟩
end
section
variable {mg mb:Str->Option aw}{n:Nat}
theorem yR(h:∀ns loc,M.bad=ev C e ns loc):cg aa C n e:=λenv ns loc σ ρ s A aQ F i=>by rw[<-h];exact aS
theorem oQ(he:cg aa C n e)(h:∀ns loc whole,(whole>>=el)=src C e ns loc whole):pL aa C n e:=λenv ns loc σ ρ s A aQ F i=>by
 rw[<-h];exact Ko he aQ F i
end
section
variable {mg mb:Str->Option aw}
variable {loc:Loc}{n:Nat}
theorem acG{pos:Pos}{K:Addr}{bm:List aw}{f:kS}{dk:Str->Option aw}{aT:List Expr}{Q:aw->bp->Prop}{E:aw->bp->Prop}(X:pH aa.heap K bm f dk)(cZ:∀e∈aT,∀v p,e≠.Starred v p)
  (h:a3 (bk aa.prog aa.w) A (spliced (backTo pos (fL aT env))) (λvs s₁=>(∀b o,aa.get? b=I o->s₁.heap.get? b=I o)/\a3 (bk aa.prog aa.w) A (call (.ref K) ([]++vs)) Q E s₁) E s) :
  a3 (bk aa.prog aa.w) A (callWith pos (.ref K) [] (backTo pos (fL aT env)) []) Q E s:=by
 have th:((backTo pos (fL aT env)).any (λx=>x.fst) || ([]:List (Option Str×Sem aw)).any λx=>x.fst.isNone)=aH:=by rw[((noStar (env:=env) (pos:=pos) cZ).1)];rfl
 unfold callWith;refine aJ (ir (yQ cZ (cH h (λvs s₁ dv=>aJ (oA ?_)) λae az x=>x)));obtain⟨aU,g,d,t,os⟩:=s₁;refine(?_:a3 _ _ (keeperOf (.ref K)>>=_) _ _ _);refine aJ (wpAny_keeperOf_exc ((X.keeps dv.1).obj) ?_);rw[th];refine(?_:a3 _ _ (call (.ref K) vs []>>=λr=>do holding [r] point;pure r) _ _ _);exact aJ (cH dv.2 (λr s' aP=>aJ (ir (wpAny_point (bQ aP)))) λae az x=>x)
theorem Inv.newX{c:Str}{us:List Str}{K e:Addr}{bm:List aw}{f:kS}{dk:Str->Option aw}{h h':Heap}{rest:List aw}(B:gF tx mg mb aa.heap)(aW:Dc tx mg aa.heap c us K bm f dk)(i:Inv aa σ ρ h)(hm:Heap.MadeExcOf h h' e (.ref K) rest) :
  Inv aa (σ++[.exc c]) (ρ++[(e,0)]) h'/\Ext W ρ h (ρ++[(e,0)]) h':=by
 refine aE λkk=>?_;obtain⟨tt,h2,_⟩:=hm.there;refine kk ?_;exact i.new (W:=W) (o:=.exc c) (h':=h') hm.keeps hm.new λae=>⟨K,_,_,⟨mg,B.g,aW.at_⟩,h2,ab,ab,⟨by simp,.inl ab⟩,by
  induction q:aa.get? e with
  |none=>rfl
  |some ba=>have:=i.base _ _ q;rw[hm.new]at this;exact bh this⟩
theorem adH{α:Type}{l:List α}{a:α}:(l++[a])[l.length]? =I a:=by rw[mR (cI _),lN];rfl
theorem ah.XF{c:Str}{us:List Str}{K:Addr}{bm:List aw}{f:kS}{dk:Str->Option aw}{vals:List aw}(B:gF tx mg mb aa.heap)(aW:Dc tx mg aa.heap c us K bm f dk)(aj:vals.length<100)(i:Inv aa σ ρ s.heap) :
  ah aa [] ρ s A cM (call (.ref K) vals) (bP (.exc c) σ):=by
 have X:=aW.cls.keeps i.base;obtain⟨aU,n8,mu,t,os⟩:=s;refine wpAny_call_exc_subT Tl X.tail X.obj X.ns aW.AW (λh' e M=>?_) (pW (w1 aj (by decide)));obtain⟨bo,bO⟩:=Inv.newX (W:=[]) B aW i M;exact⟨_,h',t,ab,bo,bO,.ref (d:=0) (by rw[<-i.len];exact adH)⟩
theorem Wg{c:Str}{us:List Str}{K:Addr}{bm:List aw}{f:kS}{dk:Str->Option aw}{x:Expr}{pos:Pos}{m:M V}(B:gF tx mg mb aa.heap)(aW:Dc tx mg aa.heap c us K bm f dk)(aU:A.handled=U)(h:ah aa [] ρ s A cM (eval x env) (m σ)) :
  ah aa (dp env) ρ s A (fo aa env ns) (exec (.Raise (I x) U pos) env) ((m>>=uO c) σ):=by
 have kJ:∀{Q:Flow->bp->Prop}{E:aw->bp->Prop},a3 (bk aa.prog aa.w) A (eval x env) (λv s₁=>∃e o vs,v=.ref e/\(∀b o,aa.get? b=I o->s₁.heap.get? b=I o)/\s₁.heap.get? e=I o/\o.cls=.ref K/\o.data=.fields vs/\((vs[1]? =I .none/\E (.ref e) s₁)\/∃bb,vs[1]? =I (.ref bb)/\a3 (bk aa.prog aa.w) A (setField (.ref bb) 3 .none) (λae q8=>E (.ref e) q8) E s₁)) E s->a3 (bk aa.prog aa.w) A (exec (.Raise (I x) U pos) env) Q E s:=λaL=>by
  rw[arm_exec_Raise];refine aJ (oA ?_);refine(?_:a3 _ _ (raiseStmt env (I (eval x env>>=λv=>PySem.standAt _>>=λae=>cv v)) U) _ _ _);unfold raiseStmt;refine aJ (aJ (cH aL (λv s₁ dv=>aJ (oA (bQ ?_))) λae az x=>x));obtain⟨e,o,vs,rfl,al,he,ay,hd,f5⟩:=dv;have X:=aW.cls.keeps al;have dK:=X.obj;have aai:=X.has;obtain⟨hp,g,d,tk,os⟩:=s₁
  repeat (first|(with_reducible refine Dj he ?_;first|rw[ay]|rw[hd])|with_reducible refine Dj dK ?_|(with_reducible refine RE dK ?_;rw[aai])|wp_step)
  rw[hd];refine bQ ?_;refine aE λkk=>?_;rcases f5 with ⟨h1,f5⟩|⟨bb,h1,f5⟩
  ·refine kk ?_;rw[h1];refine bQ ?_;rw[bH (by decide)];exact bQ (aiZ aU f5)
  ·refine kk ?_;rw[h1];refine bQ ?_;rw[bj (show(Value.ref bb != Value.none)=ak from by simp)];exact cH f5 (λae az f5=>aiZ aU f5) λae az x=>x
 induction e:m σ with
 |bad=>rw[cS e];exact aS
 |exc v a0=>
  rw[e1 e];replace h:=(e ..) ▸ h;refine kJ (cH h (λae az f=>f.elim) λae az hp=>?_);obtain⟨aZ,H,tk,rfl,bo,bO,b3⟩:=hp;exact⟨aZ,H,tk,ab,bo,bO.weak λae hm=>absurd hm gH,b3⟩
 |ok v a0=>
  rw[aN e];replace h:=(e ..) ▸ h
  induction v using V.casesOn with
  |ref k=>
   rw[J1]
   induction h1:excAt a0 k with
   |none=>exact aS
   |some q=>
    dsimp only;by_cases ay:q=c
    case neg=>rw[bH ay];exact aS
    rw[bj ay];have b4:=abl h1;replace b4:=(ay ..) ▸ b4;refine(?_:ah aa (dp env) ρ s A (fo aa env ns) _ (.exc (.ref k) a0));refine kJ (cH h (λv s' hp=>?_) λae az x=>x.elim);obtain⟨aZ,H,tk,rfl,bo,bO,b3⟩:=hp
    cases b3 with
    |ref bK=>
     obtain⟨C2,o,ws,ao,g,c0,j6,i8,_⟩:=bo.objs k _ _ b4 bK;have e:=ao.at B.g;replace e:=(aW.at_ ..) ▸ e;cases e;have re:jc a0 (.ref k) (.ref _) aZ H:=⟨k,c,_,_,ab,b4,ab,bK⟩;have fin:∀h',Inv aa a0 aZ h'->Ext [] aZ H aZ h'->kd aa (dp env) ρ s a0 (jc a0 (.ref k) (.ref _)) (At h' tk s):=λh' dH dm=>⟨aZ,h',tk,ab,dH,(bO.trans dm).weak λae hm=>absurd hm gH,re⟩;refine⟨_,o,ws,ab,bo.base,g,c0,j6,?_⟩;refine aE λkk=>?_;rcases i8.2 with fb|⟨bb,gp,ax,_⟩
     ·refine kk ?_;exact .inl ⟨fb,fin H bo .refl⟩
     ·refine kk ?_;exact .inr ⟨bb,ax,Ej (s:=At H tk s) bo re ab g j6 ax λh' dH dm ae=>fin h' dH dm⟩
  |_=>exact aS
theorem Wf{c:Str}{as:List Expr}{p q pos:Pos}(B:gF tx mg mb aa.heap)(rE:C.ups=tx.ups)(has:nv aa C n as)(aQ:eh aa A n C.calm)(F:c9 aa env ns loc ρ s.heap)(i:Inv aa σ ρ s.heap) :
  ah aa (dp env) ρ s A (fo aa env ns) (exec (.Raise (I (.Call (.Name c p) as [] q)) U pos) env) (raiseOf C ns c as σ):=by
 unfold raiseOf
 induction vF:C.ups c with
 |none=>exact aS
 |some us=>
  refine ah.ite λay=>?_;rw[g5]at ay;obtain⟨aL,hg⟩:=ay;rw[rE]at vF;obtain⟨K,bm,f,dk,aW⟩:=B.exc c us vF
  induction h1:xW as with
  |none=>exact aS
  |some a=>
   obtain⟨a,rfl⟩:=a;dsimp only
   induction h2:textOf a with
   |none=>exact aS
   |some x=>
    obtain⟨x,k,pp,rfl⟩:=x;refine ah.ite λaI=>?_;refine Wg (m:=bP (.exc c)) B aW (aQ.handled aL) ?_;rw[IG];refine ah.head (v:=.ref K) (λQ E h=>z2 B F i hg aW.at_ h) ?_;have e:bP (.exc c)=(kL C [.Constant (.str x) k pp] ns loc>>=λl=>if l.length<100 then bP (.exc c) else M.bad):=by
     show _=(((if gW x then (cv (V.str x):M V) else M.bad)>>=λv=>(cv []:M (List V))>>=λvs=>cv (v::vs))>>=λl=>if l.length<100 then bP (.exc c) else M.bad);rw[bj aI];rfl
    rw[e];exact ah.args ab has aQ F i (λQ E cZ h=>acG aW.cls cZ h) λl a0 aZ H tk vs bo bO b3=>ah.ite λaj=>ah.XF B aW (by rw[I2,b3.length];exact aj) bo
theorem abq{e c:Option Expr}{pos:Pos}(B:gF tx mg mb aa.heap)(rE:C.ups=tx.ups)(pk:∀aT,nv aa C n aT):jG aa C n (.Raise e c pos):=λenv ns loc σ ρ s A aQ a8 F i=>by
 refine(?_:ah aa _ _ _ A _ _ (Oi C ns e c σ))
 induction e with
 |none=>exact aS
 |some e=>induction c with
  |some _=>exact aS
  |none=>
   refine(?_:ah aa (dp env) ρ s A (fo aa env ns) _ ((match Fx e with|some q=>raiseOf C ns q.1.1 q.1.2|none=>M.bad) σ))
   induction Fx e with
   |none=>exact aS
   |some q=>
    obtain⟨⟨x,a⟩,p,r,rfl⟩:=q;exact Wf B rE (pk _) aQ F i
theorem eh.mark{q:Bool}{v:aw}(h:eh aa A n q):eh aa (A.mark (I v)) n aH:=⟨nofun,h.depth,h.units,h.frames⟩
theorem TX{t:Str}{b:Stmt}{bs:List Stmt}{q dG:Pos}{e:V}{ev:aw}(B:gF tx mg mb aa.heap)(rE:C.ups=tx.ups){c:Bool}(aQ:eh aa A n c)(a8:∀b∈dp env,aa.get? b=U)(F:c9 aa env ns loc ρ s.heap)(i:Inv aa σ ρ s.heap)(re:jc σ e ev ρ s.heap)
  (al:ke aa C.l9 n (b::bs)) (hg:jZ ns t=ak) (rD:(C.ups t).isSome=ak) :
  ah aa (dp env) ρ s A (fo aa env ns) (handleBy ev env [.ExceptHandler (I (.Name t q)) U (b::bs) dG]) (clause C loc t (cm C.l9 (b::bs) ns) e σ):=by
 obtain⟨k,cl,a,bC,vs,K,dx,⟨oc,eH⟩,rfl,rfl,f3,oU,AE,_⟩:=re.at i;replace rD:=(rE ..) ▸ rD;obtain⟨ut,rD⟩:=Dp.mp rD;obtain⟨D,Pe,px,Mb,Y⟩:=B.exc t ut rD;have tN:=Y.at_;have ex:yO C t (.ref k) σ=Mine.Internal.bE ((tx.ups cl).map λus=>us.contains t) σ:=by
  show(Mine.Internal.hF k>>=λo=>match o with|.exc c=>Mine.Internal.bE ((C.ups c).map λus=>us.contains t)|_=>M.bad) σ=_;rw[rE];exact aN (m:=Mine.Internal.hF k) (a:=.exc cl) (af:=σ) (by rw[nh,dx])
 unfold clause
 induction vF:tx.ups cl with
 |none=>
  replace ex:=(vF ..) ▸ ex;rw[cS ex];exact aS
 |some us=>
  replace ex:=(vF ..) ▸ ex;obtain⟨C2,bm,alj,ak6,X⟩:=B.exc cl us vF;have fC:=X.at_;replace fC:=(AE.at B.g ..) ▸ fC;cases fC;have fw:=X.ups t ut D rD tN
  induction BI:us.contains t with
  |false=>rw[aN (a:=aH) (af:=σ) (by rw[ex,RP,BI];rfl)];exact aS
  |true=>
   replace fw:=(BI ..) ▸ fw;rw[aN (a:=ak) (af:=σ) (by rw[ex,RP,BI];rfl)];clear ex;have adT:=Y.cls.keeps i.base;refine(?_:ah aa (dp env) ρ s A (fo aa env ns) _ (M.safe (cm C.l9 (b::bs) ns loc) σ));rw[KH]
   induction aP:cm C.l9 (b::bs) ns loc σ with
   |bad=>exact aS
   |exc _ _=>exact aS
   |ok r a0=>
    refine wpAny_handleBy_cons (codeAny_handlers_test (z2 B F i hg tN ?_)) (by intro q;cases q);obtain⟨aU,n8,gR,tt,os⟩:=s;refine abk (X.cls.keeps i.base) f3 oU adT fw (codeAny_handlers_suite (xI i re λh' dH dm ae=>?_));have h1:=al env ns loc σ ρ ⟨h',n8,gR,tt,os⟩ (A.mark (I (.ref a))) (eh.mark aQ) a8 (F.eV dm) dH;replace h1:=(aP ..) ▸ h1;exact cH h1 (λf q8 hp=>kd.after (tk:=tt) (s:=⟨aU,n8,gR,tt,os⟩) (dm.weak λae hm=>absurd hm gH) hp) λae az f=>f.elim
structure HW(aa:dE)(C:Cfg)(n:Nat)(body:List Stmt)(f:r8):Prop where
 run:ke aa C n body
 same:∀ns loc,cm C body ns loc=(ev C f.expr ns loc>>=xp ns loc f)
 kJ:∀(env:Env) (s:bp) (A:Around) (E:aw->bp->Prop),env.scope.kind=.function->a3 (bk aa.prog aa.w) A (eval f.expr env) (λae az=>False) E s->a3 (bk aa.prog aa.w) A (execs body env) (λae az=>False) E s
theorem TZ{x:Str}{g:Expr}{as:List Expr}{r q p:Pos}(he:cg aa C n (.Call g as [] q)):HW aa C n [.Assign [.Name x r] (.Call g as [] q) p] (.asg x (.Call g as [] q)) where
 run:=Ha (Oh he λae az bS fc p2 sA e=>nomatch e) G9
 same:=λns loc=>ab
 kJ:=λenv s A E ao h=>by
  rw[RL,ajl _ _ _ _ _ (show swapsWith (.Call g as [] q) (I (.Name x r)) p.line env=cv aH from ab)];exact aJ (aJ (oA (aJ (cH h (λae az f=>f.elim) λae az x=>x))))
theorem TY{g:Expr}{as:List Expr}{q p:Pos}(he:cg aa C n (.Call g as [] q)):HW aa C n [.Expr (.Call g as [] q) p] (.run (.Call g as [] q)) where
 run:=Ha (Og he) G9
 same:=λns loc=>ab
 kJ:=λenv s A E ao h=>by
  rw[RL,arm_exec_Expr];have aR:interactive env=aH:=by unfold interactive;rw[ao];rfl
  rw[aR,(ab:swapsWith (.Call g as [] q) U p.line env=cv aH)];refine aJ (aJ (oA ?_));show a3 _ _ (eval (.Call g as [] q) env>>=λv=>PySem.dropValue (.Call g as [] q) p v) _ _ _;exact aJ (cH h (λae az f=>f.elim) λae az x=>x)
theorem T1{body:List Stmt}{f:r8}(h:xo body=I f)(he:cg aa C n f.expr):HW aa C n body f:=by
 induction body using List.casesOn with
 |nil=>cases h
 |cons st r=>induction r using List.casesOn with
  |cons _ _=>cases h
  |nil=>
   obtain⟨⟨g,k⟩,_,rfl⟩:=hr.mp (show(tryOne st).map (·.1)=I f from h)
   cases k with
   |run g as p q=>exact TY he
   |asg x g as p q r=>exact TZ he
structure ag9(C:Cfg)(aD:List ExceptHandler)(ns:ct)(loc:Loc)(e:V)(σ:aq)(t:Str)(q:Pos)(b:Stmt)(bs:List Stmt)(dG:Pos):Prop where
 eq:aD=[.ExceptHandler (I (.Name t q)) U (b::bs) dG]
 glob:jZ ns t=ak
 ups:(C.ups t).isSome=ak
 run:tK C aD ns loc e σ=clause C loc t (cm C.l9 (b::bs) ns) e σ
inductive Qy(C:Cfg)(aD:List ExceptHandler)(ns:ct)(loc:Loc)(e:V)(σ:aq):Prop
 |mk(t:Str)(q:Pos)(b:Stmt)(bs:List Stmt)(dG:Pos)(O:ag9 C aD ns loc e σ t q b bs dG):Qy C aD ns loc e σ
theorem abD{aD:List ExceptHandler}{e:V}(h:tK C aD ns loc e σ≠.bad):Qy C aD ns loc e σ:=by
 induction aD using List.casesOn with
 |nil=>exact absurd ab h
 |cons x r=>
  obtain⟨ty,nm,body,p⟩:=x
  induction r using List.casesOn with
  |cons _ _=>cases ty <;> cases nm <;> cases body <;> exact absurd ab h
  |nil=>induction ty with
   |none=>exact absurd ab h
   |some ty=>induction nm with
    |some _=>exact absurd ab h
    |none=>induction body using List.casesOn with
     |nil=>exact absurd ab h
     |cons b bs=>
      have fb:tK C [.ExceptHandler (I ty) U (b::bs) p] ns loc e=(match nameIn ty with
       |some t=>if (jZ ns t.1&&(C.ups t.1).isSome)=ak then clause C loc t.1 (cm C.l9 (b::bs) ns) e else M.bad
       |none=>M.bad):=rfl
      induction aM:nameIn ty with
      |none=>replace h:=(aM ..) ▸ (fb ..) ▸ h;exact absurd ab h
      |some t=>
       replace fb:=(aM ..) ▸ fb;replace h:=(fb ..) ▸ h;obtain⟨ay,ax⟩:=FW h;replace ay:=(g5 ..) ▸ ay;obtain⟨t,q,rfl⟩:=t;exact⟨t,q,b,bs,p,ab,ay.1,ay.2,by rw[fb];exact ax⟩
theorem TT{α β:Type}{m:M α}{f:α->M β}{g:V->M β}{a:α}{af:aq}(h:m σ=.ok a af):M.k3 m f g σ=f a af:=by rw[uK,h]
theorem TU{α β:Type}{m:M α}{f:α->M β}{g:V->M β}{e:V}{af:aq}(h:m σ=.exc e af):M.k3 m f g σ=g e af:=by rw[uK,h]
theorem TV{α β:Type}{m:M α}{f:α->M β}{g:V->M β}(h:m σ=.bad):M.k3 m f g σ=.bad:=by rw[uK,h]
theorem abn{body qx fin:List Stmt}{aD:List ExceptHandler}{pos:Pos}(B:gF tx mg mb aa.heap)(rE:C.ups=tx.ups)(pk:∀f,xo body=I f->cg aa C n f.expr)(aU:∀x∈aD,ke aa C.l9 n (match x with|.ExceptHandler _ _ b _=>b)) :
  jG aa C n (.Try body aD qx fin pos):=λenv ns loc σ ρ s A aQ a8 F i=>by
 refine(?_:ah aa (dp env) ρ s A (fo aa env ns) _ ((if (C.calm&&(qx.isEmpty&&(fin.isEmpty && !aD.isEmpty)))=ak then (match xo body with
  |some f=>M.k3 (ev C f.expr ns loc) (xp ns loc f) (tK C aD ns loc)
  |none=>M.bad) else M.bad) σ))
 refine ah.ite λay=>?_;simp only [g5,List.isEmpty_iff,Bool.not_eq_true']at ay;obtain⟨aL,rfl,rfl,dD⟩:=ay
 induction al:xo body with
 |none=>exact aS
 |some f=>
  have T:=T1 al (pk f al);have h1:=T.run env ns loc σ ρ s A aQ a8 F i;rw[T.same]at h1
  induction aD using List.casesOn with
  |nil=>cases dD
  |cons y uC=>
   refine(?_:ah aa (dp env) ρ s A (fo aa env ns) _ (M.k3 (ev C f.expr ns loc) (xp ns loc f) (tK C (y::uC) ns loc) σ))
   induction aP:ev C f.expr ns loc σ with
   |bad=>rw[TV aP];exact aS
   |ok v a0=>
    rw[aN aP]at h1;rw[TT aP]
    induction aP:xp ns loc f v a0 with
    |bad=>exact aS
    |exc e cE=>
     induction f with
     |run _=>exact sU aP
     |asg x _=>
      replace aP:(stLoc ns x v loc>>=λl=>(cv (a6.next,l):M (a6×Loc))) a0=.exc e cE:=aP
      induction h2:stLoc ns x v loc a0 with
      |bad=>exact mx ((cS h2).symm.trans aP)
      |ok _ _=>exact sU ((aN h2).symm.trans aP)
      |exc _ _=>exact absurd h2 ((sJ (aa:=aa) (env:=env) a8).quiet _ _ _ _ _ _)
    |ok r cE=>
     rw[aP]at h1;refine ai8 (cH h1 (λf s₁ hp=>?_) λae az f=>f.elim)
     induction f with
     |next=>exact RF hp
     |brk=>exact hp
     |cont=>exact hp
     |ret v=>exact hp
   |exc e a0=>
    have h1:=pk f al env ns loc σ ρ s A aQ F i;rw[aP]at h1;rw[TU aP];by_cases ts:tK C (y::uC) ns loc e a0=.bad
    ·rw[ts];exact aS
    ·obtain⟨t,q,b,bs,dG,O⟩:=abD ts;rw[O.run];have hg:=O.glob;have rD:=O.ups;have eq:=O.eq;clear O ts;have mj:=aU y (b8 ..);cases eq;have kJ:∀{Q:Flow->bp->Prop}{E:aw->bp->Prop},(∀ev aZ H tk,Ext (dp env) ρ s.heap aZ H->ah aa (dp env) aZ (At H tk s) A (fo aa env ns) (handleBy ev env [.ExceptHandler (I (.Name t q)) U (b::bs) dG]) (clause C loc t (cm C.l9 (b::bs) ns) e a0)->a3 (bk aa.prog aa.w) A (handleBy ev env [.ExceptHandler (I (.Name t q)) U (b::bs) dG]) Q E (At H tk s)) ->
       a3 (bk aa.prog aa.w) A (exec (.Try body [.ExceptHandler (I (.Name t q)) U (b::bs) dG] [] [] pos) env) Q E s:=λaL=>by
      refine ai8 (cH (T.kJ env s A _ F.kind h1) (λae az f=>f.elim) λev s₁ hp=>?_);obtain⟨aZ,H,tk,rfl,bo,bO,re⟩:=hp;refine x3 (s:=At H tk s) aQ F.top bo re λh' dH dm ae=>?_;refine xI (s:=At h' tk s) dH re λfH ql p4 ae=>?_;have ix:=dm.trans p4;have Jj:=bO.trans ix;exact aL ev aZ fH tk (Jj.weak λae hm=>absurd hm gH) (TX (s:=At fH tk s) B rE aQ a8 (F.eV Jj) ql re mj hg rD)
     induction h2:clause C loc t (cm C.l9 (b::bs) ns) e a0 with
     |bad=>exact aS
     |exc _ _=>exact kJ λev aZ H tk x aD=>by rw[h2]at aD;exact cH aD (λae az f=>f) λae az hp=>hp.after x
     |ok d cE=>exact kJ λev aZ H tk x aD=>by rw[h2]at aD;exact cH aD (λae az hp=>hp.after x) λae az f=>f
end
section
variable {mg mb:Str->Option aw}{n:Nat}
structure PN(aa:dE)(C:Cfg)(n:Nat)(e:Expr):Prop where
 attr:∀o m q,e=.Attribute o m q->cg aa C n o
 args:∀f p as q,e=.Call (.Name f p) as [] q->∀a∈as,cg aa C n a
structure qN(aa:dE)(C:Cfg)(n:Nat)(e:Expr):Prop where
 ev:cg aa C n e
 d4:hV aa C n e
 src:pL aa C n e
 comp:De aa C n e
 slice:∀lo aR q,e=.Slice lo aR U q->oz aa C n lo/\oz aa C n aR
 attr:PN aa C n e
structure Hyp(aa:dE)(tx:gU)(mg mb:Str->Option aw)(C:Cfg)(n:Nat):Prop where
 B:gF tx mg mb aa.heap
 fn:∀f,C.isFn f=(tx.fns f).isSome
 glob:C.glob=tx.glob
 ns:Ih tx
 call:zG aa tx C n
 cls:C.cls=tx.cls
 ups:C.ups=tx.ups
theorem Hyp.l9(H:Hyp aa tx mg mb C n):Hyp aa tx mg mb C.l9 n:=⟨H.B,H.fn,H.glob,H.ns,λae az bS fc p2 sA akI akH akG akF akE akD akC akB=>aS,H.cls,H.ups⟩
theorem v9:∀{aT:List Expr},(∀e∈aT,cg aa C n e)->nv aa C n aT
 |[],_=>Hc
 |e::r,h=>BZ (h e (b8 ..)) (v9 λe he=>h e (da _ he))
theorem Ot:∀{aT:List Expr},(∀e∈aT,cg aa C n e)->zE aa C n aT
 |[],_=>ab1
 |e::r,h=>ab2 (h e (b8 ..)) (Ot λe he=>h e (da _ he))
theorem JS:∀{aT:List Expr},(∀e∈aT,hV aa C n e)->zl aa C n aT
 |[],_=>TR
 |e::r,h=>TS (h e (b8 ..)) (JS λe he=>h e (da _ he))
theorem Um:∀{aT:List Expr},(∀e∈aT,hV aa C n e)->pK aa C n aT
 |[],_=>Uk
 |[e],h=>Uj (h e (b8 ..))
 |_::_::_,_=>Ul
theorem Yp(f:Expr)(as:List Expr)(k:Keyword)(ks:List Keyword)(p:Pos)(C:Cfg)(ns:ct)(loc:Loc):M.bad=ev C (.Call f as (k::ks) p) ns loc:=by cases f <;> rfl
theorem o3(h:aH=FZ e):De aa C n e:=λelt t it ifs sc p bg=>by rw[bg]at h;exact fU h
theorem o1(h:aH=FY e):∀lo aR q,e=.Slice lo aR U q->oz aa C n lo/\oz aa C n aR:=λlo aR q bg=>by rw[bg]at h;exact fU h
theorem noAttr(h:aH=F0 e):PN aa C n e:=⟨λo m q bg=>by rw[bg]at h;exact fU h,λf p as q bg=>by rw[bg]at h;exact fU h⟩
theorem qN.plain(he:cg aa C n e)(h1:∀(ns:ct) (loc:Loc) (whole:M V),(whole>>=λv=>truth v)=Mine.Internal.d4 C e ns loc whole)(h2:∀(env:Env) (whole:Sem aw),isTrue e env whole=(do let v <-whole;standAt e.pos;holding [v] (truthy v)))
  (h3:∀ns loc whole,(whole>>=el)=Mine.Internal.src C e ns loc whole) (bf:aH=FZ e) (cP:aH=FY e) (eS:aH=F0 e):qN aa C n e where
 ev:=he
 d4:=Ab he h1 h2
 src:=oQ he h3
 comp:=o3 bf
 slice:=o1 cP
 attr:=noAttr eS
theorem JR(h:∀ns loc,M.bad=Mine.Internal.ev C e ns loc)(h1:∀(ns:ct) (loc:Loc) (whole:M V),(whole>>=λv=>truth v)=Mine.Internal.d4 C e ns loc whole):hV aa C n e:=λenv ns loc σ ρ s A aQ F i=>by
 rw[<-h1,<-h];exact aS
theorem qN.nothing(h:∀ns loc,M.bad=Mine.Internal.ev C e ns loc)(h1:∀(ns:ct) (loc:Loc) (whole:M V),(whole>>=λv=>truth v)=Mine.Internal.d4 C e ns loc whole)
  (h3:∀ns loc whole,(whole>>=el)=Mine.Internal.src C e ns loc whole) (bf:aH=FZ e) (cP:aH=FY e) (eS:aH=F0 e):qN aa C n e where
 ev:=yR h
 d4:=JR h h1
 src:=oQ (yR h) h3
 comp:=o3 bf
 slice:=o1 cP
 attr:=noAttr eS
def aiX(e:Expr):Prop:=∀⦃aa:dE⦄ ⦃tx:gU⦄ ⦃mg mb:Str->Option aw⦄ ⦃C:Cfg⦄ ⦃n:Nat⦄,Hyp aa tx mg mb C n->qN aa C n e
def aiV(aT:List Expr):Prop:=∀⦃aa:dE⦄ ⦃tx:gU⦄ ⦃mg mb:Str->Option aw⦄ ⦃C:Cfg⦄ ⦃n:Nat⦄,Hyp aa tx mg mb C n->∀e∈aT,qN aa C n e
def aiU(o:Option Expr):Prop:=∀⦃aa:dE⦄ ⦃tx:gU⦄ ⦃mg mb:Str->Option aw⦄ ⦃C:Cfg⦄ ⦃n:Nat⦄,Hyp aa tx mg mb C n->oz aa C n o
def aiW(gs:List Comprehension):Prop:=∀⦃aa:dE⦄ ⦃tx:gU⦄ ⦃mg mb:Str->Option aw⦄ ⦃C:Cfg⦄ ⦃n:Nat⦄,Hyp aa tx mg mb C n->∀g∈gs,pL aa C n g.iter/\pK aa C n g.ifs
mutual
theorem j7:∀e:Expr,aiX e
 |.Constant c k p=>λaa tx mg mb C n H=>.plain abR (λae az bS=>ab) (λae az=>ab) (λae az bS=>ab) ab ab ab
 |.Name x p=>λaa tx mg mb C n H=>.plain (λenv ns loc σ ρ s A aQ F i=>ah.name H.B H.glob F i) (λae az bS=>ab) (λae az=>ab) (λae az bS=>ab) ab ab ab
 |.BinOp l op r p=>λaa tx mg mb C n H=>.plain (abX (j7 l H).ev (j7 r H).ev) (λae az bS=>ab) (λae az=>ab) (λae az bS=>ab) ab ab ab
 |.UnaryOp op x p=>λaa tx mg mb C n H=>by
  have aI:=j7 x H
  cases op with
  |Not=>exact⟨Oq aI.ev,TM aI.d4,oQ (Oq aI.ev) (λae az bS=>ab),o3 ab,o1 ab,noAttr ab⟩
  |USub=>
   induction h:F1 x with
   |some i=>obtain⟨i,c,q,rfl⟩:=i;exact .plain abJ (λae az bS=>ab) (λae az=>ab) (λae az bS=>ab) ab ab ab
   |none=>exact .nothing (λae az=>by show M.bad=(match F1 x with|some i=>(cv (V.int (-i.1)):M V)|none=>M.bad);rw[h]at ⊢) (λae az bS=>ab) (λae az bS=>ab) ab ab ab
  |_=>exact .nothing (λae az=>ab) (λae az bS=>ab) (λae az bS=>ab) ab ab ab
 |.BoolOp op vs p=>λaa tx mg mb C n H=>by
  have aK:=tT vs H;have he:cg aa C n (.BoolOp op vs p):=abW (Ot λe he=>(aK e he).ev);exact⟨he,TQ (JS λe he=>(aK e he).d4),oQ he (λae az bS=>ab),o3 ab,o1 ab,noAttr ab⟩
 |.Compare l ops rs p=>λaa tx mg mb C n H=>by
  have aj:=j7 l H;have aP:=tT rs H
  match ops,rs with
  |[op],[r]=>
   have he:cg aa C n (.Compare l [op] [r] p):=abS aj.ev (aP r (b8 ..)).ev;exact⟨he,TO aj.ev (aP r (b8 ..)).ev,oQ he (λae az bS=>ab),o3 ab,o1 ab,noAttr ab⟩
  |[],_=>exact .nothing (λae az=>ab) (λae az bS=>ab) (λae az bS=>ab) ab ab ab
  |[op,kz],[m,r]=>
   have h1:=(aP m (b8 ..)).ev;have h2:=(aP r (da _ (b8 ..))).ev;have he:cg aa C n (.Compare l [op,kz] [m,r] p):=abT aj.ev h1 h2;exact⟨he,TP aj.ev h1 h2,oQ he (λae az bS=>ab),o3 ab,o1 ab,noAttr ab⟩
  |[_],[]|[_],_::_::_|[_,_],[]|[_,_],[_]|[_,_],_::_::_::_|_::_::_::_,_=>exact .nothing (λae az=>ab) (λae az bS=>ab) (λae az bS=>ab) ab ab ab
 |.IfExp t a b p=>λaa tx mg mb C n H=>by
  have aY:=j7 t H;have bu:=j7 a H;have al:=j7 b H;have he:cg aa C n (.IfExp t a b p):=abP aY.d4 bu.ev al.ev;exact⟨he,TN aY.d4 bu.d4 al.d4,oQ he (λae az bS=>ab),o3 ab,o1 ab,noAttr ab⟩
 |.Slice lo aR st p=>λaa tx mg mb C n H=>⟨yR λae az=>ab,JR (λae az=>ab) (λae az bS=>ab),oQ (yR λae az=>ab) (λae az bS=>ab),o3 ab,by
   have hlo:=Ly lo H;have yy:=Ly aR H;intro ak7 Gz q e;cases e;exact⟨hlo,yy⟩,noAttr ab⟩
 |.Subscript o i p=>λaa tx mg mb C n H=>by
  have ho:=j7 o H;have aR:=j7 i H;have he:cg aa C n (.Subscript o i p):=by
   induction i using Expr.casesOn with
   |Slice lo Gz st q=>
    induction st using Option.casesOn with
    |none=>obtain⟨h1,h2⟩:=aR.slice lo Gz q ab;exact abM ho.ev h1 h2
    |some st=>exact Oo ho.ev aR.ev (λae az=>ab)
   |_=>exact Oo ho.ev aR.ev (λae az=>ab)
  exact .plain he (λae az bS=>ab) (λae az=>ab) (λae az bS=>ab) ab ab ab
 |.List aT p=>λaa tx mg mb C n H=>.plain (abO (v9 λe he=>(tT aT H e he).ev)) (λae az bS=>ab) (λae az=>ab) (λae az bS=>ab) ab ab ab
 |.Tuple aT k p=>λaa tx mg mb C n H=>.plain (abK (v9 λe he=>(tT aT H e he).ev)) (λae az bS=>ab) (λae az=>ab) (λae az bS=>ab) ab ab ab
 |.Attribute o m p=>λaa tx mg mb C n H=>by
  have ho:=j7 o H;have he:cg aa C n (.Attribute o m p):=abY H.B H.cls ho.ev;exact⟨he,Ab he (λae az bS=>ab) (λae az=>ab),oQ he (λae az bS=>ab),o3 ab,o1 ab,⟨λo' ej q e=>(by cases e;exact ho.ev),λae az bS fc e=>nomatch e⟩⟩
 |.Call f as ks p=>λaa tx mg mb C n H=>by
  have a8:=j7 f H;have has:=tT as H
  induction ks using List.casesOn with
  |cons k ks=>
   have Zw:∀ns loc whole,(whole>>=el)=Mine.Internal.src C (.Call f as (k::ks) p) ns loc whole:=λns loc whole=>by cases f <;> rfl
   exact .nothing (Yp f as k ks p C) (λae az bS=>ab) Zw ab ab ab
  |nil=>
   induction f using Expr.casesOn with
   |Name x q=>
    have he:cg aa C n (.Call (.Name x q) as [] p):=abU H.B H.fn H.cls H.call (v9 λe he=>(has e he).ev);exact⟨he,Ab he (λae az bS=>ab) (λae az=>ab),Vq H.B H.fn he (λe he=>(has e he).ev),o3 ab,o1 ab,⟨λae az bS e=>(nomatch e),λae az bS fc e=>by cases e;exact λa bu=>(has a bu).ev⟩⟩
   |Attribute o m q=>
    have he:cg aa C n (.Call (.Attribute o m q) as [] p):=abV H.B H.fn H.cls H.call (a8.attr.attr o m q ab) (v9 λe he=>(has e he).ev);exact .plain he (λae az bS=>ab) (λae az=>ab) (λae az bS=>ab) ab ab ab
   |_=>exact .nothing (λae az=>ab) (λae az bS=>ab) (λae az bS=>ab) ab ab ab
 |.ListComp elt gens scope p=>λaa tx mg mb C n H=>by
  have he:=j7 elt H;have hg:=N4 gens H;have ay:De aa C n (.ListComp elt gens scope p):=λalk bX ak8 ak9 akY va e=>by
   cases e;obtain⟨h1,h2⟩:=hg _ (b8 ..);exact⟨h1,h2,he.ev⟩
  have pk:cg aa C n (.ListComp elt gens scope p):=by
   rcases OT gens with ⟨t,it,ifs,rfl⟩|ts
   ·obtain⟨h1,h2⟩:=hg _ (b8 ..);exact abN h1 h2 he.ev
   ·exact yR λns loc=>(ts C elt scope p ns loc).symm
  exact⟨pk,Ab pk (λae az bS=>ab) (λae az=>ab),oQ pk (λae az bS=>ab),ay,o1 ab,noAttr ab⟩
 |.NamedExpr _ _ _|.Lambda _ _ _ _=>λaa tx mg mb C n H=>.nothing (λae az=>ab) (λae az bS=>ab) (λae az bS=>ab) ab ab ab
 |.Dict ks vs p=>λaa tx mg mb C n H=>by
  match ks,vs with
  |[],[]=>exact .plain (abQ H.B.nolimit) (λae az bS=>ab) (λae az=>ab) (λae az bS=>ab) ab ab ab
  |[],_::_|_::_,_=>exact .nothing (λae az=>ab) (λae az bS=>ab) (λae az bS=>ab) ab ab ab
 |.Set _ _ _|.SetComp _ _ _ _|.DictComp _ _ _ _ _|.GeneratorExp _ _ _ _|.Await _ _|.Yield _ _|.YieldFrom _ _|.FormattedValue _ _ _ _|.JoinedStr _ _|.Starred _ _=>λaa tx mg mb C n H=>.nothing (λae az=>ab) (λae az bS=>ab) (λae az bS=>ab) ab ab ab
theorem tT:∀aT:List Expr,aiV aT
 |[]=>λaa tx mg mb C n H=>λae hm=>absurd hm gH
 |e::r=>λaa tx mg mb C n H=>λbg hm=>by
  have h1:=j7 e H;rcases cY.mp hm with rfl|hm
  ·exact h1
  ·exact(tT r H) bg hm
theorem Ly:∀o:Option Expr,aiU o
 |none=>λaa tx mg mb C n H=>ab0
 |some e=>λaa tx mg mb C n H=>abZ (j7 e H).ev
theorem N4:∀gs:List Comprehension,aiW gs
 |[]=>λaa tx mg mb C n H=>λae hm=>absurd hm gH
 |⟨t,it,ifs,k⟩::r=>λaa tx mg mb C n H=>λg hm=>by
  rcases cY.mp hm with rfl|hm
  ·exact⟨(j7 it H).src,Um λe he=>((tT ifs H) e he).d4⟩
  ·exact(N4 r H) g hm
end
theorem qD(H:Hyp aa tx mg mb C n)(e:Expr):qN aa C n e:=j7 e H
theorem abB(H:Hyp aa tx mg mb C n)(aK:qN aa C n v)(aU:∀e,qN aa C n e):jG aa C n (.Assign eB v p):=by
 induction h:xW eB with
 |none=>
  intro env ns loc σ ρ s A aQ a8 F i;refine(?_:ah aa (dp env) ρ s A (fo aa env ns) _ ((match xW eB with|some t=>yP C t.1 v ns loc|none=>M.bad) σ));rw[h];exact aS
 |some t=>
  obtain⟨t,rfl⟩:=t
  induction h1:nameIn t with
  |some x=>obtain⟨x,q,rfl⟩:=x;exact Oh aK.ev aK.comp
  |none=>
   induction h2:subIn t with
   |some q=>obtain⟨⟨o,i,q⟩,rfl⟩:=q;exact abx aK.ev (aU o).ev (aU i).ev
   |none=>
    induction h3:HJ t with
    |some q=>obtain⟨⟨o,m,q⟩,rfl⟩:=q;exact abA H.B H.cls aK.ev (aU o).ev
    |none=>
     induction bf:xn t with
     |some q=>obtain⟨⟨eB,k,q⟩,rfl⟩:=q;exact abw aK.ev
     |none=>
      intro env ns loc σ ρ s A aQ a8 F i;refine(?_:ah aa (dp env) ρ s A (fo aa env ns) _ (yP C t v ns loc σ));rw[abE h1 h2 h3 bf];exact aS
def aiO(st:Stmt):Prop:=∀⦃aa:dE⦄ ⦃tx:gU⦄ ⦃mg mb:Str->Option aw⦄ ⦃C:Cfg⦄ ⦃n:Nat⦄,Hyp aa tx mg mb C n->jG aa C n st
def aiM(nG:List Stmt):Prop:=∀⦃aa:dE⦄ ⦃tx:gU⦄ ⦃mg mb:Str->Option aw⦄ ⦃C:Cfg⦄ ⦃n:Nat⦄,Hyp aa tx mg mb C n->ke aa C n nG
def aiN(aD:List ExceptHandler):Prop:=∀⦃aa:dE⦄ ⦃tx:gU⦄ ⦃mg mb:Str->Option aw⦄ ⦃C:Cfg⦄ ⦃n:Nat⦄,Hyp aa tx mg mb C n->∀x∈aD,ke aa C n (match x with|.ExceptHandler _ _ b _=>b)
mutual
theorem abC:∀st:Stmt,aiO st
 |.Expr e p=>λaa tx mg mb C n H=>abv (qD H e).ev
 |.Pass p=>λaa tx mg mb C n H=>abr
 |.Return none p=>λaa tx mg mb C n H=>abo
 |.Return (some e) p=>λaa tx mg mb C n H=>abp (qD H e).ev
 |.Assign eB v p=>λaa tx mg mb C n H=>abB H (qD H v) (qD H)
 |.If t a b p=>λaa tx mg mb C n H=>abt (qD H t).d4 (tJ a H) (tJ b H)
 |.For t it body qx p=>λaa tx mg mb C n H=>by
  have h2:=tJ body H
  induction qx with
  |nil=>exact abu (qD H it).src h2
  |cons _ _=>exact λenv ns loc σ ρ s A aQ a8 F i=>aS
 |.FunctionDef ..|.AsyncFunctionDef ..|.ClassDef ..|.Delete ..|.TypeAlias ..|.AugAssign ..|.AnnAssign ..|.AsyncFor ..=>λaa tx mg mb C n H=>λenv ns loc σ ρ s A aQ a8 F i=>aS
 |.While t body qx p=>λaa tx mg mb C n H=>by
  have h2:=tJ body H
  induction qx with
  |nil=>exact abm (qD H t).d4 h2
  |cons _ _=>exact λenv ns loc σ ρ s A aQ a8 F i=>aS
 |.Raise ..=>λaa tx mg mb C n H=>abq H.B H.ups λaT=>v9 λe ae=>(qD H e).ev
 |.With ..|.AsyncWith ..|.Match ..=>λaa tx mg mb C n H=>λenv ns loc σ ρ s A aQ a8 F i=>aS
 |.Try body aD qx fin p=>λaa tx mg mb C n H=>abn H.B H.ups (λf ae=>(qD H f.expr).ev) (NM aD H.l9)
 |.TryStar ..|.Assert ..|.Import ..|.ImportFrom ..|.Global ..|.Nonlocal ..|.Break ..|.Continue ..=>λaa tx mg mb C n H=>λenv ns loc σ ρ s A aQ a8 F i=>aS
theorem tJ:∀nG:List Stmt,aiM nG
 |[]=>λaa tx mg mb C n H=>G9
 |st::r=>λaa tx mg mb C n H=>Ha (abC st H) (tJ r H)
theorem NM:∀aD:List ExceptHandler,aiN aD
 |[]=>λaa tx mg mb C n H=>λae hm=>absurd hm gH
 |.ExceptHandler t nm b p::r=>λaa tx mg mb C n H=>λx hm=>by
  have h1:=tJ b H;rcases cY.mp hm with rfl|hm
  ·exact h1
  ·exact(NM r H) x hm
end
theorem abi(nG:List Stmt)(H:Hyp aa tx mg mb C n):ke aa C n nG:=tJ nG H
end
theorem cellsFrom_some:∀(names:ct) (n:Nat) (acc:List (Str×Addr)),names.lookup x=I .cell\/(acc.lookup x).isSome=ak->((cellsFrom n names acc).lookup x).isSome=ak:=by
 intro ey
 induction ey with
 |nil=>
  intro _ _ h;rcases h with h|h
  ·exact bh h
  ·exact h
 |cons pr r cellsFrom_some=>
  obtain⟨y,k⟩:=pr;intro n acc h;unfold cellsFrom;by_cases ao:(k==NameKind.cell)=ak
  ·rw[bj ao];refine cellsFrom_some (n+1) _ ?_
   induction m7:x==y with
   |true=>right;rw[gI,m7];rfl
   |false=>
    rcases h with h|h
    ·left;rw[gI,m7]at h;exact h
    ·right;rw[gI,m7];exact h
  ·rw[bH ao];refine cellsFrom_some n acc ?_;rcases h with h|h
   ·induction m7:x==y with
    |true=>rw[gI,m7]at h;cases h;exact absurd ab ao
    |false=>left;rw[gI,m7]at h;exact h
   ·exact .inr h
theorem F3:∀{names:ct}{i j:Nat}{k:NameKind},mV names x i=I (j,k)->i<=j/\(te params args names)[j-i]? =I ((params.zip args).lookup x)
 |[],_,_,_,h=>by exact bh h
 |(y,c6)::r,i,j,k,h=>by
  rw[uS]at h
  split at h
  ·rename_i e
   cases h;rw[beq_iff_eq.mp e];exact⟨cI _,by rw[lN];rfl⟩
  ·obtain⟨h1,h2⟩:=F3 (params:=params) (args:=args) h;refine⟨IY h1,?_⟩;rw[Kd h1];exact h2
section
variable {h:Heap}
theorem Jh{x:Str}{params:List Str}{vals:List aw}{args:List V}{a:V}(r:b9 ρ h vals args):(params.zip args).lookup x=I a->∃v,(params.zip vals).lookup x=I v/\Rel ρ h v a:=by
 induction r using b9.ind generalizing params with
 |aV=>intro e;replace e:=ajP ▸ e;exact bh e
 |h1 r rs au=>
  intro e
  induction params using List.casesOn with
  |nil=>exact bh e
  |cons p ps=>
   rw[qU,gI]at e ⊢
   induction aI:x==p with
   |true=>replace e:=aI ▸ e;cases e;exact⟨_,ab,r⟩
   |false=>replace e:=aI ▸ e;exact au e
end
theorem Hy{kindOf:Str->Option NameKind}{x:Str}:∀{binds:List (Str×aw)}{m:Str->Option aw},(∀p∈binds,p.1≠x)->bindL kindOf binds m x=m x:=by
 intro ey
 induction ey with
 |nil=>intro _ _;exact ab
 |cons pr r Hy=>
  obtain⟨y,v⟩:=pr;intro m h;unfold bindL;rw[Hy λp hp=>h p (da _ hp)]
  split
  ·exact bH λe=>h (y,v) (b8 ..) e.symm
  ·rfl
theorem Pg{kindOf:Str->Option NameKind}{x:Str}{v:aw}(ao:kindOf x=I .local):∀{binds:List (Str×aw)}{m:Str->Option aw},(binds.map (·.1)).Nodup->binds.lookup x=I v->bindL kindOf binds m x=I v
 |[],_,_,h=>by exact bh h
 |(y,u)::r,m,aM,h=>by
  unfold bindL;rw[gI]at h;rw[eE,zP]at aM
  induction aI:x==y with
  |true=>
   rw[aI]at h;cases h;have e:=beq_iff_eq.mp aI;subst e;rw[Hy λp hp e=>aM.1 (iK.mpr ⟨p,hp,e⟩),bj ao];exact bj ab
  |false=>rw[aI]at h;exact Pg ao aM.2 h
theorem Hz{kindOf:Str->Option NameKind}{x:Str}:∀{binds:List (Str×aw)}{m:Str->Option aw},(∀p∈binds,p.1≠x)->bindC kindOf binds m x=m x:=by
 intro ey
 induction ey with
 |nil=>intro _ _;exact ab
 |cons pr r Hz=>
  obtain⟨y,v⟩:=pr;intro m h;unfold bindC;rw[Hz λp hp=>h p (da _ hp)]
  split
  ·rfl
  ·exact bH λe=>h (y,v) (b8 ..) e.symm
theorem Ph{kindOf:Str->Option NameKind}{x:Str}{v:aw}(ao:kindOf x=I .cell):∀{binds:List (Str×aw)}{m:Str->Option aw},(binds.map (·.1)).Nodup->binds.lookup x=I v->bindC kindOf binds m x=I v
 |[],_,_,h=>by exact bh h
 |(y,u)::r,m,aM,h=>by
  unfold bindC;rw[gI]at h;rw[eE,zP]at aM
  induction aI:x==y with
  |true=>
   rw[aI]at h;cases h;have e:=beq_iff_eq.mp aI;subst e;rw[Hz λp hp e=>aM.1 (iK.mpr ⟨p,hp,e⟩),bH (by rw[ao];decide)];exact bj ab
  |false=>rw[aI]at h;exact Ph ao aM.2 h
theorem DK:∀{params:List Str}{vals:List aw},x∈(params.zip vals).map (·.1)->x∈params
 |[],_,h=>by cases h
 |_::_,[],h=>by cases h
 |p::ps,v::vs,h=>by
  rw[qU,eE]at h;rcases cY.mp h with h|h
  ·exact h ▸ b8 ..
  ·exact da _ (DK h)
theorem DJ:∀{params:List Str}{vals:List aw},params.Nodup->((params.zip vals).map (·.1)).Nodup
 |[],_,_=>R2
 |_::_,[],_=>R2
 |p::ps,v::vs,aM=>by
  rw[qU,eE,zP];rw[zP]at aM;exact⟨λhm=>aM.1 (DK hm),DJ aM.2⟩
section
variable {prog:Program}{w:World}{aU:Heap}{eI BV:List Env}{mg mb:Str->Option aw}
theorem ip.base(r:ip ⟨prog,w,aU,eI⟩ ρ h p o):ip ⟨prog,w,aU,BV⟩ ρ h p o:=by
 induction o with
 |list l=>exact r
 |dict v l=>obtain⟨a,b,c,d,e,f⟩:=r;exact⟨a,b,c,d,e,f⟩
 |inst _ _=>obtain⟨a,b,c,d,e,f,g,h,i,j,k⟩:=r;exact⟨a,b,c,d,e,f,g,h,i,j,k⟩
 |bI _=>exact r
 |et v l=>obtain⟨a,b,c,d,e,f⟩:=r;exact⟨a,b,c,d,e,f⟩
 |cache=>exact r
 |exc c=>obtain⟨a,b,c,d,e,f,g,h,i⟩:=r;exact⟨a,b,c,d,e,f,g,h,i⟩
theorem Inv.Pr(i:Inv ⟨prog,w,aU,eI⟩ σ ρ h)(cF:∀e∈BV,zB ⟨prog,w,aU,BV⟩ ρ h e):Inv ⟨prog,w,aU,BV⟩ σ ρ h where
 base:=i.base
 len:=i.len
 objs:=λn o p ax aO=>(i.objs n o p ax aO).base
 fresh:=i.fresh
 apart:=i.apart
 up:=cF
theorem Inv.pop{e:Env}(i:Inv ⟨prog,w,aU,e::eI⟩ σ ρ h):Inv ⟨prog,w,aU,eI⟩ σ ρ h:=i.Pr λf a8=>i.up f (da _ a8)
theorem wC.deeper{q:Bool}{env:Env}(h:wC ⟨prog,w,aU,eI⟩ A (n+1) q):eh ⟨prog,w,aU,env::eI⟩ (A.deeper env) n q where
 frames:=by show A.frames.map _=_;rw[h.frames];rfl
 handled:=h.handled
 depth:=by exact show A.depth+1+2*n<recursionLimit from gq 0x6084A21042400001018212804220021 ab h.depth
 units:=by exact show A.units+3+16*n+300<cLine from gq 0xC10A59E0960218480000010182148BC1084A08088000021 ab h.units
theorem ac8(ok:Iz fd f)(i:Inv ⟨prog,w,aU,eI⟩ σ ρ s.heap)(r:b9 ρ s.heap vals args)
  (x:InCallC s (gY fd s.heap.objs.size a).locals (bindL (gY fd s.heap.objs.size a).kindOf (f.params.zip vals) λae=>U) (gY fd s.heap.objs.size a).cells (bindC (gY fd s.heap.objs.size a).kindOf (f.params.zip vals) λae=>U) s₁) :
  c9 ⟨prog,w,aU,gY fd s.heap.objs.size a::eI⟩ (gY fd s.heap.objs.size a) f.names (te f.params args f.names) ρ s₁.heap:=by
 have ao:∀b o,s.heap.get? b=I o->s₁.heap.get? b=I o:=x.toInCall.keep;have qp:(gY fd s.heap.objs.size a).scope.names=f.names:=ok.names;have vO:∀y i k,slot f.names y=I (i,k)->(gY fd s.heap.objs.size a).kindOf y=I k:=λy i k h=>by
  refine(?_:(gY fd s.heap.objs.size a).scope.names.lookup y=_);rw[qp];exact xG h
 have Nm:∀y c,(gY fd s.heap.objs.size a).cells.lookup y=I c->s.heap.objs.size<c:=λy c ay=>x.above y c (mem_of_lookup ay);have off:∀b:Addr,s.heap.objs.size<=b->cT ρ b:=λb al p hp=>by
  obtain⟨cj,ax⟩:=i.alive hp;exact λe=>absurd (Heap.lt_size ax) (qT.mpr (e ▸ al))
 exact {
  names:=qp
  kind:=ok.kind
  globals:=ok.globals
  kO:=ok.kO
  vars:=⟨_,x.toInCall.ns,λy j v h1 h2=>by
   refine aE λkk=>?_;obtain⟨_,h3⟩:=F3 (params:=f.params) (args:=args) h1;rw[Dq,h2]at h3;obtain⟨val,aK,e4⟩:=Jh r (mQ h3).symm;refine kk ?_;exact⟨val,Pg (vO y j _ h1) (DJ ok.nodup) aK,e4.sub (Sub.keeps ao)⟩⟩
  cell:=λy j h1=>by
   obtain⟨c,ay⟩:=Dp.mp (cellsFrom_some f.names (s.heap.objs.size+1) [] (.inl (xG h1)));have pn:(gY fd s.heap.objs.size a).cells.lookup y=I c:=by
    refine(?_:(cellsFrom (s.heap.objs.size+1) fd.scope.names []).lookup y=I c);rw[ok.names];exact ay
   refine⟨c,_,pn,x.cell y c pn,λv h2=>?_⟩;refine aE λkk=>?_;obtain⟨_,h3⟩:=F3 (params:=f.params) (args:=args) h1;rw[Dq,h2]at h3;obtain⟨val,aK,e4⟩:=Jh r (mQ h3).symm;refine kk ?_;exact⟨val,Ph (vO y j _ h1) (DJ ok.nodup) aK,e4.sub (Sub.keeps ao)⟩
  live:=λy c ay=>⟨_,x.cell y c ay⟩
  jq:=off _ (cI _)
  h8:=λy c ay=>⟨Nat.ne_of_gt (Nm y c ay),off _ (pW (Nm y c ay))⟩
  apart:=λy z c h1 h2=>name_of_addr x.apart (mem_of_lookup h1) (mem_of_lookup h2)
  top:=⟨_,b8 ..,ab⟩ }
set_option backward.match.sparseCases true in
theorem ac9(H:∀eI,Hyp ⟨prog,w,aU,eI⟩ tx mg mb C n)(hm:zC aU fn a)(aQ:wC ⟨prog,w,aU,eI⟩ A (n+1) C.calm)(r:b9 ρ s.heap vals args)(i:Inv ⟨prog,w,aU,eI⟩ σ ρ s.heap) :
  ah ⟨prog,w,aU,eI⟩ [] ρ s A cM (call (.ref a) vals) (y7 C fn args σ):=by
 obtain⟨o,fd,ho,hd,ok,hcd⟩:=hm;unfold y7;refine ah.ite λhlen=>?_;have go:∀{Q:aw->bp->Prop}{E:aw->bp->Prop},(∀dQ d9,(∀b∈dp (gY fd s.heap.objs.size a),s.heap.get? b=U)->(∀b o,s.heap.get? b=I o->dQ.get? b=I o) ->
   ah ⟨prog,w,aU,gY fd s.heap.objs.size a::eI⟩ (dp (gY fd s.heap.objs.size a)) ρ (At dQ d9 s) (A.deeper (gY fd s.heap.objs.size a)) (fo ⟨prog,w,aU,gY fd s.heap.objs.size a::eI⟩ (gY fd s.heap.objs.size a) fn.names) (execs fn.body (gY fd s.heap.objs.size a)) (cm C fn.body fn.names (te fn.params args fn.names) σ) ->
   a3 (bk prog w) (A.deeper (gY fd s.heap.objs.size a)) (execs fn.body (gY fd s.heap.objs.size a)) (λf s'=>Q (match f with|.ret v=>v|_=>.none) s')
    (λe s'=>a3 (bk prog w) (A.deeper (gY fd s.heap.objs.size a)) (leaving (gY fd s.heap.objs.size a) e) (λae xK=>E e xK) (λbg xK=>E bg xK) s') (At dQ d9 s)) ->
   a3 (bk prog w) A (call (.ref a) vals) Q E s:=λaL=>by
  refine wpAny_call (codeAny_call_cells (binds:=fn.params.zip vals) (by have:=aQ.depth;exact gq 0xC109001018212804220021 ab this) (i.base _ _ ho) hd ((H eI).B.nolimit.keeps i.base) (hcd.keeps i.base) ok.body (ok.binds vals (by rw[r.length,hlen]:vals.length=fn.params.length)) ok.OY (λy bL=>?_) (λs₁ x=>?_) ok.co ok.gen ok.kind)
  ·have hp:y.1∈fn.params:=DK (iK.mpr ⟨y,bL,ab⟩);rw[ok.names];rcases ok.Lv y.1 hp with h|h
   ·exact .inl h
   ·exact .inr ⟨h,cellsFrom_some _ _ _ (.inl h)⟩
  ·have F:=ac8 ok i r x;obtain⟨dQ,d9,rfl⟩:=x.toInCall.same;have ao:∀b o,s.heap.get? b=I o->dQ.get? b=I o:=x.toInCall.keep;have dead:∀b∈dp (gY fd s.heap.objs.size a),s.heap.get? b=U:=λb al=>by
    have yz:s.heap.objs.size<=b:=by
     rcases cY.mp al with rfl|al
     ·exact cI _
     ·obtain⟨⟨y,k⟩,_,ay⟩:=R4.mp al;exact pW (x.above y b (mem_of_lookup ay))
    induction e:s.heap.get? b with
    |none=>rfl
    |some o=>exact absurd (Heap.lt_size e) (qT.mpr yz)
   have y1:∀b∈dp (gY fd s.heap.objs.size a),aU.get? b=U:=λb al=>by
    induction e:aU.get? b with
    |none=>rfl
    |some o=>have:=i.base _ _ e;replace this:=dead b al ▸ this;exact bh this
   have bo:Inv ⟨prog,w,aU,gY fd s.heap.objs.size a::eI⟩ σ ρ dQ:=(i.keeps ao).Pr λe he=>by
    rcases cY.mp he with rfl|he
    ·obtain⟨ba,ax,aO⟩:=rp x.toInCall.ns;exact⟨by show fd.scope.kind≠_;rw[ok.kind];decide,_,ba,ab,ax,aO,F.jq,y1 _ (b8 ..)⟩
    ·exact(i.keeps ao).up e he
   exact aL dQ d9 dead ao (abi fn.body (H _) (gY fd s.heap.objs.size a) fn.names (te fn.params args fn.names) σ ρ (At dQ d9 s) (A.deeper (gY fd s.heap.objs.size a)) aQ.deeper y1 F bo)
 induction h1:cm C fn.body fn.names (te fn.params args fn.names) σ with
 |bad=>rw[cS h1];exact aS
 |exc e af=>
  rw[e1 h1];refine go λdQ d9 dead ao aD=>?_;replace aD:=h1 ▸ aD;refine cH aD (λae az f=>f.elim) λev s' hp=>?_;obtain⟨aA,eD,ei,rfl,dH,dm,re⟩:=hp;have aI:Ext [] ρ s.heap aA eD:=((Ext.of_keeps ao).trans dm).weak λb al=>.inr (dead b al);refine aJ (x3 (s:=At eD ei s) aQ.deeper ⟨_,b8 ..,ab⟩ dH re λfl dz d8 ae=>?_);exact xI (s:=At fl ei s) dz re λeM l5 nA ae=>⟨aA,eM,ei,ab,l5.pop,(aI.trans d8).trans nA,re⟩
 |ok res af=>
  rw[aN h1];refine go λdQ d9 dead ao aD=>?_;replace aD:=h1 ▸ aD;refine cH aD (λeU s' hp=>?_) λae az f=>f.elim;obtain⟨aA,eD,ei,rfl,dH,dm,hx,alC⟩:=hp;have aI:Ext [] ρ s.heap aA eD:=((Ext.of_keeps ao).trans dm).weak λb al=>.inr (dead b al);obtain⟨aa6,bJ⟩:=res
  induction aa6 with
  |next=>cases hx;exact⟨aA,eD,ei,ab,dH.pop,aI,.none⟩
  |brk=>cases hx;exact⟨aA,eD,ei,ab,dH.pop,aI,.none⟩
  |cont=>cases hx;exact⟨aA,eD,ei,ab,dH.pop,aI,.none⟩
  |ret v=>
   obtain⟨val,rfl,e4⟩:=hx;exact⟨aA,eD,ei,ab,dH.pop,aI,e4⟩
theorem O8(B:gF tx mg mb aU)(vJ:Ih tx):∀(d:Nat) (eI:List Env),zG ⟨prog,w,aU,eI⟩ tx (Cm tx d) d
 |0,_=>λf fn a args vals σ ρ s A aQ a8 hm r i=>aS
 |d+1,eI=>λf fn a args vals σ ρ s A aQ a8 hm r i=>by
  refine(?_:ah ⟨prog,w,aU,eI⟩ [] ρ s A cM _ (rX tx (d+1) f args σ));rw[O7,a8];exact ac9 (C:=Cm tx d) (λeI=>⟨B,λae=>ab,ab,vJ,O8 B vJ d eI,ab,ab⟩) hm aQ r i
end
end Mine.Internal
namespace Mine.Internal
open PySem PySem.W PyProof.Rows
theorem Su:∀{ps:List Str}{vals:List aw},ps.Nodup->vals.length=ps.length->(ps.filterMap λn=>((ps.zip vals).lookup n).map (n,·))=ps.zip vals:=by
 intro ps vals aM aj;have key:∀(pre:List (Str×aw)) (ps:List Str) (vals:List aw),ps.Nodup->vals.length=ps.length->(∀x∈ps,pre.lookup x=U)->(ps.filterMap λn=>((pre++ps.zip vals).lookup n).map (n,·))=ps.zip vals:=by
  intro pre ps
  induction ps generalizing pre with
  |nil=>intro vals _ _ _;rfl
  |cons p ps au=>
   intro vals aM aj hp
   induction vals using List.casesOn with
   |nil=>cases aj
   |cons v vs=>
    rw[zP]at aM;have ax:(pre++(p::ps).zip (v::vs)).lookup p=I v:=by
     rw[R5,hp p (b8 ..),qU,gI,jJ];rfl
    rw[List.filterMap_cons,ax];dsimp only [Option.map];rw[qU];congr 1;have:=au (pre++[(p,v)]) vs aM.2 (by simpa using aj) (λx aI=>by
     rw[R5,hp x (da _ aI),gI];have:(x==p)=aH:=by
      induction e:x==p with
      |false=>rfl
      |true=>rw[beq_iff_eq.mp e]at aI;exact absurd aI aM.1
     rw[this];rfl)
    rw[jM]at this;exact this
 exact key [] ps vals aM aj (λae az=>ab)
theorem Cq{α β:Type}{x:α}{m:Sem α}{f:α->Sem β}{r:Sem β}(hm:m=pure x)(h:f x=r):(m>>=f)=r:=by rw[hm,pure_bind];exact h
theorem Hu{β:Type}{c:Prop}[Decidable c] {a b r:Sem β}(ay:¬c) (h:b=r):(if c then a else b)=r:=by rw[bH ay];exact h
theorem adk{name qual:Str}{as:List Arg}{body:List Stmt}{scope:Scope}{pm code doc:aw}{vals:List aw}(aM:(as.map (·.arg)).Nodup)(aj:vals.length=(as.map (·.arg)).length) :
  bindArgs (methDef name qual ⟨[],as,U,[],[],U,[]⟩ body scope pm code doc) ⟨vals,[]⟩=pure ((as.map (·.arg)).zip vals):=by
 have hm:((as.map (·.arg)).filter λn=>(((as.map (·.arg)).zip vals).lookup n).isNone)=[]:=by
  rw[List.filter_eq_nil_iff];intro n mh;have:∀(ps:List Str) (vals:List aw),n∈ps->vals.length=ps.length->((ps.zip vals).lookup n).isNone=aH:=by
   intro ps
   induction ps with
   |nil=>intro _ h;cases h
   |cons p ps au=>
    intro vals h aj
    induction vals using List.casesOn with
    |nil=>cases aj
    |cons v vs=>
     rw[qU,gI]
     induction e:n==p with
     |true=>rfl
     |false=>
      rcases cY.mp h with h|h
      ·rw[h,jJ]at e;exact nE e
      ·exact au vs h (by simpa using aj)
  rw[this _ _ mh aj];decide
 have aD:seqItems? .none=(cv U:Sem (Option (Array aw))):=by kernel_rfl
 have hd:∀k,(([]:List aw).drop k)=[]:=λk=>List.drop_nil;refine Cq (x:=((as.map (·.arg)).zip vals,[])) ab (Cq aD (Hu ?_ (Hu ?_ (Cq (x:=(as.map (·.arg)).zip vals) ?_ (Cq (x:=((as.map (·.arg)).zip vals,[])) ab (Hu ?_ ?_))))))
 ·refine(?_:¬((decide (vals.length > (as.map (·.arg)).length)&&ak)=ak));rw[aj];simp
 ·refine(?_:¬((!(((as.map λx:Arg=>x.arg).take ((as.map λx:Arg=>x.arg).length-(([]:List aw).drop (0-(as.map λx:Arg=>x.arg).length)).length)).filter λn=>(((as.map λx:Arg=>x.arg).zip vals).lookup n).isNone).isEmpty)=ak));rw[hd,List.length_nil,Dq,I1,hm];simp
 ·refine(?_:(forIn (List.zip _ (([]:List aw).drop _)) _ _:Sem (List (Str×aw)))=_);rw[hd,ajP];rfl
 ·exact nofun
 ·show pure (((as.map λx:Arg=>x.arg)++[]).filterMap λn=>(((as.map λx:Arg=>x.arg).zip vals).lookup n).map (n,·))=_;rw[lP,Su aM aj]
noncomputable def Am(params:Arguments)(scope:Scope):Bool:=
 (params.posonlyargs.isEmpty&&params.vararg.isNone&&params.kwonlyargs.isEmpty&&params.kw_defaults.isEmpty&&params.kwarg.isNone&&params.defaults.isEmpty)&&(match scope.kind with|.function=>ak|_=>aH) && !scope.isCoroutine && !scope.isGenerator &&
 decide (params.args.map (·.arg)).Nodup&&(params.args.map (·.arg)).all λx=>match scope.names.lookup x with|some .local=>ak|some .cell=>ak|_=>aH
def recOk(d:DefRec):Bool:=Am d.params d.scope
theorem Kv{name qual:Str}{params:Arguments}{body:List Stmt}{scope:Scope}{pm code doc:aw}(h:Am params scope=ak):Iz (methDef name qual params body scope pm code doc) ⟨params.args.map (·.arg),scope.names,body⟩:=by
 unfold Am at h;simp only [g5]at h;obtain⟨⟨⟨⟨⟨h1,h2⟩,h3⟩,bf⟩,cP⟩,eS⟩:=h;obtain⟨po,as,ag,dd,MB,kw,alo⟩:=params;simp only [g5,List.isEmpty_iff,Option.isNone_iff_eq_none]at h1;obtain⟨⟨⟨⟨⟨rfl,rfl⟩,rfl⟩,rfl⟩,rfl⟩,rfl⟩:=h1;have aM:(as.map (·.arg)).Nodup:=qS cP;exact {
  body:=rfl
  names:=rfl
  kind:=by
   refine(?_:scope.kind=.function)
   split at h2
   ·assumption
   ·exact fU h2
  co:=by refine(?_:scope.isCoroutine=aH);simpa using h3
  gen:=by refine(?_:scope.isGenerator=aH);simpa using bf
  OY:=rfl
  globals:=rfl
  kO:=rfl
  binds:=λvals aj=>adk aM aj
  Lv:=λx aI=>by
   have:=ec.mp eS x aI;refine(?_:scope.names.lookup x=I .local\/scope.names.lookup x=I .cell)
   split at this
   ·left;assumption
   ·right;assumption
   ·exact fU this
  nodup:=aM }
noncomputable def adj(q:Program)(loose:List Str):Bool:=pF.all λx=>!startupNames.contains x && !loose.contains x && !((recsOf q).map (·.name)).contains x && !((litsOf q).map (·.1)).contains x && !((clssOf q loose).map (·.name)).contains x
theorem Mi:∀{ds:List DefRec},(ds.map defOf).lookup x=I fn->∃d∈ds,d.name=x/\(defOf d).2=fn
 |[],h=>by exact bh h
 |d::ds,h=>by
  rw[eE]at h;unfold defOf at h;rw[gI]at h
  split at h
  ·rename_i e
   cases h;exact⟨d,b8 ..,(beq_iff_eq.mp e).symm,ab⟩
  ·obtain⟨eb,hd,r⟩:=Mi (ds:=ds) h;exact⟨eb,da _ hd,r⟩
theorem MN(h:intOf v=I a):v=.int a:=by
 induction v using V.casesOn with
 |int _=>cases h;rfl
 |_=>exact bh h
theorem Kh(h:strOf v=I a):v=.str a:=by
 induction v using V.casesOn with
 |str _=>cases h;rfl
 |_=>exact bh h
theorem VI(h:EK o v=ak):o=I v:=by
 unfold EK at h;rw[Bool.or_eq_true,g5,g5,beq_iff_eq,beq_iff_eq]at h;rcases h with ⟨h1,h2⟩|⟨h1,h2⟩
 ·obtain⟨a,bu⟩:=Dp.mp h1;rw[bu]at h2;obtain⟨u,rfl,cF⟩:=RQ.mp h2;rw[MN bu,MN cF]
 ·obtain⟨a,bu⟩:=Dp.mp h1;rw[bu]at h2;obtain⟨u,rfl,cF⟩:=RQ.mp h2;rw[Kh bu,Kh cF]
noncomputable def noObj(f:Str):Bool:=match fastLookup "object" f with
 |some none=>ak
 |_=>aH
def Xa(q:Program)(loose:List Str)(cs:List (Str×List Str×List Str)):Bool:=cs.all λp=>(plainsOf q loose).any λr=>((r.name==p.1&&p.2.1.contains "__init__")&&r.cmpNames==(["__eq__", "__ne__"]:List Str))&&(p.2.1.all λm=>r.meths.any λqg=>qg.name==m&&Am qg.params qg.scope)&&p.2.2.all λf=>r.statics.contains f&&noObj f
theorem JN(h:D4 (xj xt) c=I us):∃r∈xt,r.c=c/\us=r.ups:=by
 obtain⟨r,aP,e⟩:=iK.mp (mem_of_lookup h);cases e;exact⟨r,aP,ab,ab⟩
theorem Xp{h:Heap}{a:Addr}{m ej:Str->Option aw}(x:h.Ns a m)(y:h.Ns a ej):m=ej:=by
 refine aE λkk=>?_;obtain⟨o,aT,cU,h1,h2,_,h3⟩:=x;obtain⟨o',ab4,acd,mn,qt,_,GR⟩:=y;refine kk ?_;replace mn:=(h1 ..) ▸ mn;cases mn;replace qt:=(h2 ..) ▸ qt;cases qt
 funext z
 rw[<-h3,GR]
theorem abj{tx:gU}(Y:tY xt h)(hg:h.Ns mainGlobals mg)(cF:tx.ups=D4 (xj xt))(h1:tx.ups c=I us):IB tx mg h c us:=by
 refine aE λkk=>?_;obtain⟨ak4,aM,X⟩:=Y;obtain rfl:=Xp hg aM;replace h1:=(cF ..) ▸ h1;obtain⟨r,aP,rfl,rfl⟩:=JN h1;obtain⟨C,bm,f,dk,x⟩:=X r aP;refine kk ⟨C,bm,f,dk,x.at_,x.cls,λt ut D aY hD=>?_,x.AW⟩;replace aY:=(cF ..) ▸ aY;obtain⟨dn,kF,rfl,_⟩:=JN aY;exact x.ups dn kF D hD
theorem base_of(Y:tY xt h)(T:Top q loose ak5 mg mb h)(TE:TopE q loose mg h)(Z0:aaF q gs=ak)(he:OI q=tab)(aP:(recsOf q).all recOk=ak)(al:adj q loose=ak)
  (ay:Xa q loose cs=ak) (hm:(E9 q loose).map (λp=>(Ek tab mtab gs (xj xt) cs).at (jr p.1.name p.2.name))=(E9 q loose).map λp=>I (Ft p.2)) :
  gF (Ek tab mtab gs (xj xt) cs) mg mb h where
 exc:=λc us h1=>abj Y T.g ab h1
 own:=λc ms ZM=>by
  have ay:=ec.mp ay (c,ms) (mem_of_lookup ZM);refine aE λkk=>?_;obtain⟨r,kF,ay⟩:=I7.mp ay;simp only [g5]at ay;obtain⟨⟨⟨⟨h1,h2⟩,aV⟩,h3⟩,bf⟩:=ay;have aV:r.cmpNames=(["__eq__", "__ne__"]:List Str):=eq_of_beq aV;have h1:r.name=c:=eq_of_beq h1;subst h1;obtain⟨C,N,dk,hg,wK⟩:=TE r kF;have P:=wK.ofCmp;refine kk ⟨C,N,dk,hg,P.cls,P.quiet _ (oB _ (by decide)),P.quiet _ (oB _ (by decide)),P.quiet _ (oB _ (by decide)),⟨wK.quiet _ (ur _ (ur _ (by rw[aV];exact .head _))),wK.quiet _ (ur _ (ur _ (by rw[aV];exact .tail _ (.head _))))⟩,λf a8=>?_,w7.mp h2,λm m9=>?_⟩
  ·have:=ec.mp bf f a8;rw[g5]at this;refine⟨P.quiet f (ur _ (w7.mp this.1)),?_⟩;rw[qR,sm];have:=this.2;unfold noObj at this
   induction e:fastLookup "object" f with
   |none=>rw[e]at this;exact fU this
   |some y=>induction y using Option.casesOn with
    |none=>rfl
    |some _=>rw[e]at this;exact fU this
  ·refine aE λkk=>?_;obtain⟨qg,Nh,cP⟩:=I7.mp (ec.mp h3 m m9);rw[g5]at cP;have eS:qg.name=m:=eq_of_beq cP.1;subst eS;obtain⟨f,o,pm,cd,doc,dx,eH,oV,lX,f3⟩:=P.meths qg Nh;refine kk ⟨f,Ft qg,o,dx,?_,⟨o,_,eH,lX,Kv cP.2,f3⟩,eH,oV⟩;exact List.map_inj_left.mp hm (r,qg) (I3.mpr ⟨r,kF,iK.mpr ⟨qg,Nh,ab⟩⟩)
 g:=T.g
 b:=T.b
 nolimit:=T.nolimit
 fn:=λf fn a8=>by
  subst he;refine aE λkk=>?_;obtain⟨d,hd,rfl,rfl⟩:=Mi a8;obtain⟨a,o,pm,code,doc,h1,h2,h3,bf⟩:=T.fn d hd;exact kk ⟨a,h1,o,_,h2,h3,Kv (ec.mp aP d hd),bf⟩
 blt:=λf a8 aM=>by
  have:=ec.mp al f a8;simp only [g5,Bool.not_eq_true']at this;refine aE λkk=>?_;obtain⟨⟨⟨⟨h1,h2⟩,h3⟩,bf⟩,cP⟩:=this;have s4:∀{l:List Str},l.contains f=aH->f∉l:=λh hm=>by
   rw[w7.mpr hm]at h;exact nE h
  refine kk ?_;exact⟨T.free f (s4 h1) (s4 h2) (s4 h3) (s4 bf) (s4 cP),T.builtins f (by
   intro e;subst e;exact absurd h1 (by decide +kernel))⟩
 const:=λx v aI=>by
  refine aE λkk=>?_;refine bind_some (VI (ec.mp Z0 _ (mem_of_lookup (show gs.lookup x=I v from aI))):N2 q x=I v) λd h1 h2=>?_;obtain⟨val,hm,aP⟩:=T.const x d h1;refine kk ⟨val,hm,λρ h'=>?_⟩;have aP:=aP h'
  cases d with
  |none=>cases h2;cases aP;exact .none
  |bool b=>cases h2;cases aP;exact .bool b
  |int i=>cases h2;cases aP;exact .int i _
  |str s=>
   have h2:(if gW s then I (V.str s) else U)=I v:=h2
   split at h2
   ·rename_i aD;cases h2;cases aP;exact .str s _ aD
   ·exact bh h2
  |_=>exact bh h2
theorem Y0(q:IntsAre vs zs):b9 ρ h vs (zs.map .int):=by
 induction q with
 |nil=>exact .nil
 |cons i t _ au=>exact .cons (.int i t) au
theorem law_run(B:gF tx mg mb s₁.heap)(vJ:pF.all (λx=>(tx.fns x).isNone)=ak)(hm:mg "law" = I (.ref fa))
  (a8:(tx.fns "law").isSome=ak) (aj:s₁.heap.get? la=I (er vs n)) (hI:IntsAre vs zs) (hlen:zs.length<=63) (ok:QF tx d) (aQ:eh ⟨prog,w,s₁.heap,[]⟩ A d ak) :
  a3 (bk prog w) A (call (.ref fa) [.ref la]) (λv s'=>v=.bool ak/\(∀b o,s₁.heap.get? b=I o->s'.heap.get? b=I o)/\s'.os=s₁.os/\s'.gens=s₁.gens) (λae az=>False) s₁:=by
 obtain⟨af,fD⟩:=ok zs hlen;have Gm:Ih tx:=λf a8=>by
  have:=ec.mp vJ f a8
  induction e:tx.fns f with
  |none=>rfl
  |some _=>rw[e]at this;exact fU this
 have Zp:vs.length<=bz:=by
  have h1:∀{vs:List aw}{zs:List Int},IntsAre vs zs->vs.length=zs.length:=by
   intro vs zs h
   induction h with
   |nil=>rfl
   |cons _ _ _ au=>simp [au]
  rw[h1 hI];exact b7 hlen (by decide)
 have hinv:Inv ⟨prog,w,s₁.heap,[]⟩ [.list (zs.map .int)] [(la,0)] s₁.heap:=
  {base:=λae az e=>e
   len:=rfl
   objs:=λk o p ax aO=>by
    induction k with
    |zero=>cases ax;cases aO;exact⟨vs,n,aj,Zp,Y0 hI⟩
    |succ k=>exact bh aO
   fresh:=λk p e ao=>by
    induction k with
    |zero=>cases ao
    |succ k=>exact bh e
   apart:=λi j p q ax aO fE=>by
    induction i with
    |zero=>
     induction j with
     |zero=>exact absurd ab fE
     |succ j=>exact bh aO
    |succ i=>exact bh ax
   up:=λe he=>absurd he gH }
 obtain⟨fn,mi⟩:=Dp.mp a8;obtain⟨ali,m9,AQ⟩:=B.fn _ fn mi;rw[hm]at m9;cases m9;have:=O8 (prog:=prog) (w:=w) B Gm d [] "law" fn fa [.ref 0] [.ref la] _ _ s₁ A aQ.weak (by unfold gU.at;rw[mi];rfl) AQ (.cons (.ref (d:=0) ab) .nil) hinv;rw[show(Cm tx d).call "law" [.ref 0] [.list (zs.map .int)]=.ok (.bool ak) af from fD]at this;refine cH this (λv s' hp=>?_) λae az f=>f;obtain⟨aA,h',tk,rfl,i,x,r⟩:=hp;cases r;exact⟨ab,i.base,ab,ab⟩
theorem list_at(hL:h.IsList la vs.toArray)(hw:Well P h (.ref la) (.list xs)):h.get? la=I (er vs 0):=by
 cases hw with
 |list Nx _=>
  obtain⟨ba,iT,_,nn,tq⟩:=hL;replace iT:=Nx ▸ iT;cases iT;rw[Nx,((Data.seq.inj tq).1:_=vs.toArray)];rfl
theorem room_caller{prog:Program}{w:World}{aU:Heap}(h:d<=200):eh ⟨prog,w,aU,[]⟩ callerA d ak where
 handled:=λae=>ab
 frames:=rfl
 depth:=by
  refine(?_:1+claimMargin+2*d<recursionLimit);have:1+claimMargin+2*200<recursionLimit:=by decide
  exact gq 0xC1090422842000020304264782211421000010991E09041 ab h this
 units:=by
  refine(?_:4+16*d+300<cLine);have:(4:Nat)+16*200+300<cLine:=by decide
  exact fk 0x28429678248088100001014214B3C1323C180881000010991E09201 ab h this
end Mine.Internal
end
namespace Mine.Internal
open PySem
inductive Wp{α:Type}(σ:aq)(m:M α)(Q:α->aq->Prop):Prop
 |mk(a:α)(af:aq)(h:m σ=.ok a af)(q:Q a af):Wp σ m Q
section
variable {α β:Type}{σ af:aq}{m n:M α}{f:α->M β}{a:α}
theorem PH(h:m σ=.ok a af)(q:Q a af):Wp σ m Q:=⟨a,af,h,q⟩
theorem aG{Q:β->aq->Prop}(h:m σ=.ok a af)(k:Wp af (f a) Q):Wp σ (m>>=f) Q:=
 by obtain⟨b,aC,e,q⟩:=k;exact⟨b,aC,(aN h).trans e,q⟩
theorem Wp.step{P:α->aq->Prop}{Q:β->aq->Prop}(h:Wp σ m P)(k:∀a af,P a af->Wp af (f a) Q):Wp σ (m>>=f) Q:=
 by obtain⟨a,a0,e,p⟩:=h;exact aG e (k a a0 p)
inductive fy{α:Type}(u:α)(P:aq->Prop):α->aq->Prop
 |mk{σ:aq}(p:P σ):fy u P u σ
theorem Wp.iO{u:α}{P:aq->Prop}{Q:β->aq->Prop}(h:Wp σ m (fy u P))(k:∀af,P af->Wp af (f u) Q):Wp σ (m>>=f) Q:=h.step λa af q=>by
 induction q with
 |mk p=>exact k _ p
inductive PQ{α:Type}(σ:aq)(m:M α)(u:α)(P:aq->Prop):Prop
 |mk(af:aq)(e:m σ=.ok u af)(p:P af):PQ σ m u P
theorem Wp.v{u:α}{P:aq->Prop}(h:Wp σ m (fy u P)):PQ σ m u P:=by
 obtain⟨a,af,e,q⟩:=h
 induction q with
 |mk p=>exact⟨_,e,p⟩
theorem Wp.mono(h:Wp σ m Q)(aL:∀a af,Q a af->jd a af):Wp σ m jd:=by obtain⟨a,af,e,q⟩:=h;exact⟨a,af,e,aL a af q⟩
theorem cD(h:Q a σ):Wp σ (cv a:M α) Q:=⟨a,σ,ab,h⟩
theorem hM(h:b=ak)(k:Wp σ m Q):Wp σ (M.cond b m n) Q:=by subst h;exact k
theorem hN(h:b=aH)(k:Wp σ n Q):Wp σ (M.cond b m n) Q:=by subst h;exact k
inductive cf(E:V->aq->Prop)(σ:aq)(m:M α)(Q:α->aq->Prop):Prop
 |ok(a:α)(af:aq)(h:m σ=.ok a af)(q:Q a af):cf E σ m Q
 |exc(e:V)(af:aq)(h:m σ=.exc e af)(q:E e af):cf E σ m Q
def AV:V->aq->Prop:=λae az=>False
theorem pI{E:V->aq->Prop}(h:m σ=.ok a af)(q:Q a af):cf E σ m Q:=.ok a af h q
theorem nj{E:V->aq->Prop}{e:V}(h:m σ=.exc e af)(q:E e af):cf E σ m Q:=.exc e af h q
theorem Wp.oH{E:V->aq->Prop}(h:Wp σ m Q):cf E σ m Q:=by obtain⟨a,af,e,q⟩:=h;exact .ok a af e q
theorem cf.wp(h:cf AV σ m Q):Wp σ m Q:=by
 induction h with
 |ok a af e q=>exact⟨a,af,e,q⟩
 |exc _ _ _ q=>exact q.elim
theorem cQ{E:V->aq->Prop}{Q:β->aq->Prop}(h:m σ=.ok a af)(k:cf E af (f a) Q):cf E σ (m>>=f) Q:=by
 induction k with
 |ok b aC e q=>exact .ok b aC ((aN h).trans e) q
 |exc v aC e q=>exact .exc v aC ((aN h).trans e) q
theorem cf.step{E:V->aq->Prop}{P:α->aq->Prop}{Q:β->aq->Prop}(h:cf E σ m P)(k:∀a af,P a af->cf E af (f a) Q):cf E σ (m>>=f) Q:=by
 induction h with
 |ok a af e q=>exact cQ e (k a af q)
 |exc v af e q=>exact .exc v af (e1 e) q
theorem cf.mono{E jf:V->aq->Prop}(h:cf E σ m Q)(aL:∀a af,Q a af->jd a af)(he:∀e af,E e af->jf e af):cf jf σ m jd:=by
 induction h with
 |ok a af e q=>exact .ok a af e (aL a af q)
 |exc v af e q=>exact .exc v af e (he v af q)
theorem ja{E:V->aq->Prop}(h:Q a σ):cf E σ (cv a:M α) Q:=.ok a σ ab h
theorem PI{E:V->aq->Prop}(h:b=ak)(k:cf E σ m Q):cf E σ (M.cond b m n) Q:=by subst h;exact k
theorem zj{E:V->aq->Prop}(h:b=aH)(k:cf E σ n Q):cf E σ (M.cond b m n) Q:=by subst h;exact k
theorem Lh(h:m σ=.ok a af):M.safe m σ=.ok a af:=by rw[KH,h]
theorem Ll{a b:Int}(h:Small a\/Small b):binop .Mult (.int a) (.int b) σ=.ok (.int (a*b)) σ:=by show(if Small a\/Small b then pure (V.int (a*b)) else M.bad:M V) σ=_;rw[bj h];rfl
theorem Lj{a b:Int}(h:Small b):binop .Mult (.int a) (.int b) σ=.ok (.int (a*b)) σ:=Ll (.inr h)
theorem Lk{a b:Int}(h:Small a):binop .Mult (.int a) (.int b) σ=.ok (.int (a*b)) σ:=Ll (.inl h)
def Lit(b:Int):Prop:=0<b/\b<18446744073709551616
noncomputable instance (b:Int):Decidable (Lit b):=inferInstanceAs (Decidable (_/\_))
theorem mZ{a b:Int}(h:Lit b):binop .FloorDiv (.int a) (.int b) σ=.ok (.int (a / b)) σ:=by
 show(if b≠0/\Small b then pure (V.int (a.fdiv b)) else M.bad:M V) σ=_;have h1:=h.1;rw[bj ⟨I8 h1,DD (by decide) h1,h.2⟩,Int.fdiv_eq_ediv_of_nonneg a (by exact w8 ‹_›)];rfl
theorem jR{a b:Int}(h:Lit b):binop .Mod (.int a) (.int b) σ=.ok (.int (a % b)) σ:=by
 show(if b≠0/\Small b then pure (V.int (a.fmod b)) else M.bad:M V) σ=_;have h1:=h.1;rw[bj ⟨I8 h1,DD (by decide) h1,h.2⟩,Int.fmod_eq_emod_of_nonneg a (by exact w8 ‹_›)];rfl
variable {k:Nat}{l:List V}{v x:V}{i:Int}
theorem jT(h:σ[k]? =I o):hF k σ=.ok o σ:=by rw[nh,h]
theorem i2(h:σ[k]? =I (.list l)):e8 k σ=.ok l σ:=by rw[iD,h]
theorem Lu{m:Nat}(aV:0<=i)(h1:i<m):place i m=I i.toNat:=by unfold place;rw[bj aV,bj h1]
theorem adI(aV:0<=i)(aI:l[i.toNat]? =I x):i<l.length:=by have:=dy aI;exact XZ ‹_› ‹_›
theorem xR(aV:0<=i)(aI:l[i.toNat]? =I x):item (.tup l) (.int i) σ=.ok x σ:=by
 refine(?_:bE ((place i l.length).bind λj=>l[j]?) σ=_);rw[Lu aV (adI aV aI)];refine(?_:bE (l[i.toNat]?) σ=_);rw[aI];rfl
theorem jS(h:σ[k]? =I (.list l))(aV:0<=i)(aI:l[i.toNat]? =I x):item (.ref k) (.int i) σ=.ok x σ:=
 (aN (jT h)).trans (xR (σ:=σ) aV aI)
theorem gn:item (.tup (x::r)) (.int 0) σ=.ok x σ:=xR (by decide) ab
theorem jl:item (.tup (y::x::r)) (.int 1) σ=.ok x σ:=xR (by decide) ab
theorem qa:item (.tup (z::y::x::r)) (.int 2) σ=.ok x σ:=xR (by decide) ab
theorem oT(h:σ[k]? =I (.list l)):jx (.ref k) σ=.ok (.int l.length) σ:=aN (i2 h)
theorem Lg(h:σ[k]? =I (.list l))(ao:0<k)(aV:0<=i)(h1:i<l.length):setItem (.ref k) (.int i) v σ=.ok () (σ.set k (.list (l.set i.toNat v))):=by
 refine(aN (jT h)).trans ?_;refine(?_:(if 0<=i/\i<l.length then nH k (.list (l.set i.toNat v)) else M.bad) σ=_);rw[bj ⟨aV,h1⟩,ra ao (dy h)]
theorem kx(h:σ[k]? =I (.list l)):el (.ref k) σ=.ok (.lst k) σ:=aN (jT h)
theorem nK(h:-1000000<=i/\i<=1000000):k6 (.int i) σ=.ok (.vals (lW 0 i)) σ:=by
 show(if -1000000<=i/\i<=1000000 then pure (Src.vals (lW 0 i)) else M.bad:M Src) σ=_;rw[bj h];rfl
theorem oS(h:σ[k]? =I (.list l)):ly (.ref k) σ=.ok (.tup l) σ:=aN (i2 h)
theorem jk(h:σ[k]? =I (.list l))(e:Ba t=I g):c1 (dP C (.ref k) t) σ=.ok g σ:=by
 rw[hU];have aj:l6 σ k=ak:=by unfold l6;rw[h]
 have:dP C (.ref k) t σ=I g:=by
  show(if l6 σ k=ak then _ else _)=_;rw[bj aj];exact e
 rw[this]
theorem k8(h:σ[k]? =I (.list l))(ao:0<k)(aj:l.length<bz):runM C nm .append (.ref k) [v] σ=.ok .none (σ.set k (.list (l++[v]))):=by
 refine(aN (i2 h)).trans ?_;show(if l.length+1<=bz then (nH k (.list (l++[v]))>>=λae=>pure V.none) else M.bad) σ=_;rw[bj (show l.length+1<=bz from aj),aN (ra ao (dy h))];rfl
theorem u5{j:Nat}{m:List V}(h:σ[k]? =I (.list l))(h':σ[j]? =I (.list m))(aj:l.length+m.length<=bz):binop .Add (.ref k) (.ref j) σ=.ok (.ref σ.length) (σ++[O.list (l++m)]):=by
 refine(aN (i2 h)).trans ((aN (i2 h')).trans ?_);show(if l.length+m.length<=bz then bP (.list (l++m)) else M.bad) σ=_;rw[bj aj];rfl
theorem Ay(h:σ[k]? =I (.list l)):iP lo aR (.ref k) σ=.ok (.ref σ.length) (σ++[O.list (cut l lo aR)]):=aN (i2 h)
theorem Ww(h:σ[k]? =I (.list l))(aK:iM σ x l=I b):cmp .In x (.ref k) σ=.ok (.bool b) σ:=by
 show(among x k>>=λb=>pure (V.bool b)) σ=_;unfold among;rw[M.assoc];refine(aN (jT h)).trans (aN (a:=b) (af:=σ) (by rw[hU,aK]))
theorem EY(h:σ[k]? =I (.list l))(aK:iM σ x l=I b):cmp .NotIn x (.ref k) σ=.ok (.bool (!b)) σ:=by
 show(among x k>>=λb=>pure (V.bool (!b))) σ=_;unfold among;rw[M.assoc];refine(aN (jT h)).trans (aN (a:=b) (af:=σ) (by rw[hU,aK]))
theorem u3(h:eG σ x y=I b):cmp .Eq x y σ=.ok (.bool b) σ:=by show c1 (λσ=>((eG σ x y).or (yT σ x y)).map V.bool) σ=_;rw[hU,h];rfl
theorem AB(h:eG σ x y=I b):cmp .NotEq x y σ=.ok (.bool (!b)) σ:=by show c1 (λσ=>(eG σ x y).map λe=>V.bool (!e)) σ=_;rw[hU,h];rfl
theorem Wu(h:σ[k]? =I (.list l))(aK:iM σ x l=I ak)(bw:sD σ x l 0=I j):runM C nm .index (.ref k) [x] σ=.ok (.int j) σ:=by
 refine(aN (i2 h)).trans ?_;rw[hU,aK,bw];rfl
theorem uZ(h:σ[k]? =I (.list l))(GQ:l.length<64)(aD:xE l=I o):my (.ref k) σ=.ok (.ref σ.length) (σ++[O.list o]):=by
 refine(aN (i2 h)).trans ?_;rw[bj GQ];exact aN (a:=o) (af:=σ) (by rw[aD];rfl)
variable {d:Nat}{t:Tab}{key:Key}
theorem u1(h:σ[k]? =I (.dict d t))(al:keyOf v=I key)(aI:ez t key=I x):item (.ref k) v σ=.ok x σ:=by
 have e:item (.ref k) v=(hF k>>=λo=>match o with|.list l=>Bj l v|.dict _ l=>bE ((keyOf v).bind (ez l))|.et _ l=>bE ((lT v).bind (gL l))|_=>M.bad):=by cases v <;> rfl
 rw[e];refine(aN (jT h)).trans ?_;refine(?_:bE ((keyOf v).bind (ez t)) σ=_);rw[al];refine(?_:bE (ez t key) σ=_);rw[aI];rfl
theorem EX(h:σ[k]? =I (.dict d t))(ao:0<k)(al:keyOf v=I key)(aj:t.length<bz):setItem (.ref k) v x σ=.ok () (σ.set k (.dict (d+1) (lx t key x))):=by
 refine(aN (jT h)).trans ?_;refine(?_:sL k t v x σ=_);unfold sL;rw[al];refine(?_:(if t.length+1<=bz then putD k (lx t key x) else M.bad) σ=_);rw[bj (show t.length+1<=bz from aj),AH ao h]
theorem Wv(h:σ[k]? =I (.dict d t))(al:keyOf v=I key):cmp .In v (.ref k) σ=.ok (.bool (ez t key).isSome) σ:=by
 refine(?_:(among v k>>=λb=>pure (V.bool b)) σ=_);unfold among;rw[M.assoc];refine(aN (jT h)).trans ?_;refine(?_:(bE ((keyOf v).map λk=>(ez t k).isSome)>>=λb=>(pure (V.bool b):M V)) σ=_);rw[al];rfl
theorem Wn(h:σ[k]? =I (.dict d t))(al:keyOf v=I key):cmp .NotIn v (.ref k) σ=.ok (.bool (!(ez t key).isSome)) σ:=by
 refine(?_:(among v k>>=λb=>pure (V.bool (!b))) σ=_);unfold among;rw[M.assoc];refine(aN (jT h)).trans ?_;refine(?_:(bE ((keyOf v).map λk=>(ez t k).isSome)>>=λb=>(pure (V.bool (!b)):M V)) σ=_);rw[al];rfl
theorem Wo(h:σ[k]? =I (.dict d t)):oe (.ref k) σ=.ok (.ref σ.length) (σ++[O.list (t.map λp=>l3 p.1)]):=aN (jT h)
theorem Le(h:σ[k]? =I (.dict d t)):el (.ref k) σ=.ok (.keys k d (t.map λp=>l3 p.1)) σ:=aN (jT h)
theorem Ld(h:σ[k]? =I (.dict d t)):c1 (dP C (.ref k) "setdefault") σ=.ok .iz σ:=by
 rw[hU];have aj:¬l6 σ k=ak:=by unfold l6;rw[h];exact uy
 have hd:pd σ k=ak:=by unfold pd;rw[h]
 have:dP C (.ref k) "setdefault" σ=I .iz:=by
  show(if l6 σ k=ak then _ else if pd σ k=ak then _ else _)=_;rw[bH aj,bj hd];rfl
 rw[this]
theorem Lm(h:σ[k]? =I (.dict d t)):N3 k σ=.ok t σ:=by
 have e:dictAt σ k=I t:=by unfold dictAt;rw[h]
 refine(?_:c1 _ σ=_);rw[hU,e]
theorem Wz(h:σ[k]? =I (.dict d t))(al:keyOf v=I key)(aI:ez t key=I y):runM C nm .iz (.ref k) [v,x] σ=.ok y σ:=by
 refine(aN (Lm h)).trans ?_;rw[al];dsimp only;rw[aI];rfl
theorem Wy(h:σ[k]? =I (.dict d t))(ao:0<k)(al:keyOf v=I key)(aI:ez t key=U)(aj:t.length<bz):runM C nm .iz (.ref k) [v,x] σ=.ok x (σ.set k (.dict (d+1) (lx t key x))):=by
 refine(aN (Lm h)).trans ?_;rw[al];dsimp only;rw[aI];dsimp only;rw[bj (show t.length+1<=bz from aj),aN (AH ao h)];rfl
theorem Ws(h:σ[k]? =I (.et d w))(al:lT v=I q)(aI:gL w q=I x):item (.ref k) v σ=.ok x σ:=by
 have e:item (.ref k) v=(hF k>>=λo=>match o with|.list l=>Bj l v|.dict _ l=>bE ((keyOf v).bind (ez l))|.et _ l=>bE ((lT v).bind (gL l))|_=>M.bad):=by cases v <;> rfl
 rw[e];refine(aN (jT h)).trans ?_;refine(?_:bE ((lT v).bind (gL w)) σ=_);rw[al];refine(?_:bE (gL w q) σ=_);rw[aI];rfl
theorem Ky(h:σ[k]? =I o)(aK:nC o=I d)(ao:0<k)(al:lT v=I q)(aj:w.length<bz):p9 k w v x σ=.ok () (σ.set k (.et (d+1) (ku w q x))):=by
 unfold p9;rw[al];refine(?_:(if w.length+1<=bz then AG k (ku w q x) else M.bad) σ=_);rw[bj (show w.length+1<=bz from aj)];refine(?_:(match σ[k]?.bind nC with|some v=>if 0<k then Res.ok () (σ.set k (.et (v+1) (ku w q x))) else .bad|none=>.bad)=_);rw[h];refine(?_:(match nC o with|some v=>if 0<k then Res.ok () (σ.set k (.et (v+1) (ku w q x))) else .bad|none=>.bad)=_);rw[aK];exact bj ao
theorem Wk(h:σ[k]? =I (.et d w))(ao:0<k)(al:lT v=I q)(aj:w.length<bz):setItem (.ref k) v x σ=.ok () (σ.set k (.et (d+1) (ku w q x))):=
 (aN (jT h)).trans (Ky h ab ao al aj)
theorem Wj(h:σ[k]? =I (.dict d []))(ao:0<k)(al:lT (.tup l)=I q):setItem (.ref k) (.tup l) x σ=.ok () (σ.set k (.et (d+1) [(q,x)])):=
 (aN (jT h)).trans (Ky (w:=[]) h ab ao al (by decide))
theorem Wm(h:σ[k]? =I (.list (l++[v])))(ao:0<k):runM C nm .pop (.ref k) [] σ=.ok v (σ.set k (.list l)):=by
 refine(aN (i2 h)).trans ?_;rw[List.getLast?_concat];show(nH k (.list (l++[v]).dropLast)>>=λae=>pure v) σ=_;rw[aN (ra ao (dy h)),List.dropLast_concat];rfl
theorem Wx{C:Cfg}{nm:Str}{j:Nat}{m:List V}(h:σ[k]? =I (.list l))(h':σ[j]? =I (.list m))(ao:0<k)(dD:k≠j)(aj:l.length+m.length<=bz):runM C nm .extend (.ref k) [.ref j] σ=.ok .none (σ.set k (.list (l++m))):=by
 refine(aN (i2 h)).trans ((aN (i2 h')).trans ?_);rw[bj ⟨dD,aj⟩,aN (ra ao (dy h))];rfl
theorem Ln(h:σ[k]? =I (.list l)):yU (.ref k) σ=.ok (.enum k) σ:=aN (i2 h)
theorem Wl(h:σ[k]? =I (.list l)):uY (.ref k) σ=.ok (.rev k l.length) σ:=aN (i2 h)
theorem AA:cmp .IsNot x .none σ=.ok (.bool (!isNone x)) σ:=rfl
theorem k7{a b:Str}:cmp .Eq (.str a) (.str b) σ=.ok (.bool (a==b)) σ:=rfl
theorem PG{s s':Str}{m n:M α}{Q:α->aq->Prop}(h:(s==s')=ak)(k:Wp σ m Q):Wp σ (cmp .Eq (.str s) (.str s')>>=λt=>truth t>>=λb=>M.cond b m n) Q:=aG k7 (aG (m:=truth _) ab (hM h k))
theorem adU{s s':Str}{m n:M α}{Q:α->aq->Prop}(h:(s==s')=aH)(k:Wp σ n Q):Wp σ (cmp .Eq (.str s) (.str s')>>=λt=>truth t>>=λb=>M.cond b m n) Q:=aG k7 (aG (m:=truth _) ab (hN h k))
theorem EZ{a b:Str}:cmp .NotEq (.str a) (.str b) σ=.ok (.bool (!(a==b))) σ:=rfl
theorem u2{a b:Int}:cmp .Eq (.int a) (.int b) σ=.ok (.bool (a==b)) σ:=rfl
theorem z8{a b:Nat}{c mv:Str}{j FT:Nat}(bu:σ[a]? =I (.inst c j))(al:σ[b]? =I (.inst mv FT)):eG σ (.ref a) (.ref b)=I (a==b):=by
 have ax:hh σ a=I c:=by unfold hh;rw[bu]
 have aO:hh σ b=I mv:=by unfold hh;rw[al]
 have c7:toPy σ (.ref a)=U:=by refine(?_:i1 σ 4 a=U);rw[Uc,bu]
 unfold eG;rw[c7];refine(?_:yS σ a (.ref b)=_);unfold yS;dsimp only;rw[ax,aO]
variable {C:Cfg}{c nm:Str}{j:Nat}{fs:List (Str×V)}{ms:List Str×List Str}
theorem nL(h:σ[k]? =I (.inst c j))(h':σ[j]? =I (.bI fs))(ay:C.cls c=I ms)(hm:ms.2.contains nm=ak)(aK:fs.lookup nm=I v):cc C nm (.ref k) σ=.ok v σ:=by
 have ax:hh σ k=I c:=by unfold hh;rw[h]
 have aO:qu σ k=I fs:=by unfold qu;rw[h];dsimp only;rw[h']
 have e:((hh σ k).bind λc=>(C.cls c).bind λms=>if ms.2.contains nm then (qu σ k).bind λl=>l.lookup nm else U)=I v:=by
  rw[ax,aO];dsimp only [Option.bind];rw[ay];dsimp only;rw[bj hm,aK]
 refine(hU _).trans ?_;rw[e]
theorem Az(h:σ[k]? =I (.inst c j))(h':σ[j]? =I (.bI fs))(bw:0<j)(ay:C.cls c=I ms)(hm:ms.2.contains nm=ak)(aj:fs.length<bz):d5 C nm v (.ref k) σ=.ok () (σ.set j (.bI (hH fs nm v))):=by
 have ax:hh σ k=I c:=by unfold hh;rw[h]
 refine(aN (a:=()) (af:=σ) ?_).trans ?_
 ·rw[hU];have e:BW C nm σ k=I ():=by
   unfold BW;rw[ax];dsimp only [Option.bind];rw[ay];dsimp only;rw[bj hm]
  rw[e]
 ·refine(?_:(match σ[k]? with|some (.inst _ j)=>(match σ[j]? with|some (.bI l)=>if 0<j/\l.length+1<=bz then Res.ok () (σ.set j (.bI (hH l nm v))) else .bad|_=>.bad)|_=>.bad)=_);rw[h];refine(?_:(match σ[j]? with|some (.bI l)=>if 0<j/\l.length+1<=bz then Res.ok () (σ.set j (.bI (hH l nm v))) else .bad|_=>.bad)=_);rw[h'];exact bj ⟨bw,aj⟩
theorem Lc(h:σ[k]? =I (.inst c j))(h':σ[j]? =I (.bI fs))(ay:C.cls c=I ms)(hm:(ms.1.contains nm&&(fs.lookup nm).isNone)=ak):c1 (dP C (.ref k) nm) σ=.ok (.own c) σ:=by
 have ax:hh σ k=I c:=by unfold hh;rw[h]
 have aO:qu σ k=I fs:=by unfold qu;rw[h];dsimp only;rw[h']
 have c7:¬l6 σ k=ak:=by unfold l6;rw[h];exact uy
 have eN:vb C nm σ k=I c:=by
  unfold vb;rw[ax,aO];dsimp only [Option.bind];rw[ay];dsimp only;rw[bj hm]
 have:dP C (.ref k) nm σ=I (.own c):=by
  show(if l6 σ k=ak then _ else if pd σ k=ak then _ else (vb C nm σ k).map qJ.own)=_;have eX:¬pd σ k=ak:=by unfold pd;rw[h];exact uy
  rw[bH c7,bH eX,eN];rfl
 rw[hU,this]
end
section
variable {C:Cfg}{target elt:Expr}{body:List Stmt}{ifs:List Expr}{scope:Scope}{ns:ct}{σ:aq}
def Walks(bA:Src)(l:List V)(J:aq->Prop):Prop:=∀σ,J σ->(∀i,bA.at σ i=I l[i]?)/\bA.size σ=I l.length
theorem jO:Walks (.vals l) l J:=λσ ae=>⟨λae=>ab,ab⟩
theorem kq(h:∀σ,J σ->σ[n]? =I (.list l)):Walks (.lst n) l J:=λσ bw=>by
 have e:listAt σ n=I l:=by unfold listAt;rw[h σ bw]
 exact⟨λi=>by refine(?_:(listAt σ n).map _=_);rw[e];rfl,by refine(?_:(listAt σ n).map _=_);rw[e];rfl⟩
theorem Jr(h:∀σ,J σ->nD σ n=I v):Walks (.keys n v l) l J:=λσ bw=>by
 exact⟨λi=>by refine(?_:(if nD σ n=I v then _ else _)=_);rw[bj (h σ bw)],by refine(?_:(if nD σ n=I v then _ else _)=_);rw[bj (h σ bw)]⟩
theorem Js(h:∀σ,J σ->σ[n]? =I (.list l)):Walks (.enum n) (l.mapIdx λ(i:Nat) x=>V.tup [.int i,x]) J:=λσ bw=>by
 have e:listAt σ n=I l:=by unfold listAt;rw[h σ bw]
 exact⟨λi=>by refine(?_:(listAt σ n).map _=_);rw[e,R8];rfl,by refine(?_:(listAt σ n).map _=_);rw[e,R6];rfl⟩
theorem SM(h:∀σ,J σ->σ[n]? =I (.list l))(ao:l.length=k):Walks (.rev n k) l.reverse J:=λσ bw=>by
 have e:listAt σ n=I l:=by unfold listAt;rw[h σ bw]
 refine⟨λi=>?_,?_⟩
 ·refine(?_:(listAt σ n).bind (λl=>if l.length=k then I l.reverse[i]? else U)=_);rw[e];exact bj ao
 ·refine(?_:(listAt σ n).bind (λl=>if l.length=k then I k else U)=_);rw[e,Dy,ao];exact bj ao
def Cy(J:aq->Prop)(z:j8)(l:List V):Prop:=∀σ,J σ->z.all σ=I l
theorem Sn:Cy J (.tup l) l:=λae az=>ab
theorem DH(h:∀σ,J σ->σ[n]? =I (.list l)):Cy J (.lst n) l:=λσ bw=>by
 refine(?_:listAt σ n=_);unfold listAt;rw[h σ bw]
theorem Jq(bu:Cy J a l)(al:Cy J b m):Walks (.zip a b c) ((l.zip m).map λp=>V.tup [p.1,p.2]) J:=λσ bw=>by
 refine⟨λi=>?_,?_⟩
 ·refine(?_:(a.all σ).bind (λl=>(b.all σ).map λm=>pairUp l[i]? m[i]?)=_);rw[bu σ bw,al σ bw,ki,List.zip_eq_zipWith,List.getElem?_zipWith];refine(?_:I (pairUp l[i]? m[i]?)=_)
  induction l[i]? with
  |none=>rfl
  |some x=>cases m[i]? <;> rfl
 ·refine(?_:(a.all σ).bind (λl=>(b.all σ).map λm=>min l.length m.length)=_);rw[bu σ bw,al σ bw,c3,aj3];rfl
def Turn(P:Nat->Loc->aq->Prop)(Q:a6×Loc->aq->Prop)(i:Nat)(r:a6×Loc)(σ:aq):Prop:=match r.1 with
 |.next=>P (i+1) r.2 σ
 |.ret _=>Q r σ
 |_=>False
theorem aaX{E:V->aq->Prop}{bA:Src}{l:List V}{bt:V->Loc->M Loc}{bd:Loc->M (a6×Loc)}{J:aq->Prop}(hw:Walks bA l J)(P:Nat->Loc->aq->Prop)(e7:∀i loc σ,P i loc σ->J σ){Q:a6×Loc->aq->Prop}
  (step:∀i v loc σ,l[i]? =I v->P i loc σ->cf E σ (bt v loc>>=bd) (Turn P Q i))
  (fin:∀loc σ,P l.length loc σ->Q (.next,loc) σ):∀(k i:Nat) (loc:Loc) (σ:aq),l.length+1<=i+k->i<=l.length->P i loc σ->cf E σ (forLoop bA bt bd k i loc) Q:=by
 intro k
 induction k with
 |zero=>
  intro i loc σ h1 h2 _;exact sZ (fk 0x42108085084012802120021 ab h1 h2)
 |succ k au=>
  intro i loc σ h1 h2 p;obtain⟨fm,_⟩:=hw σ (e7 i loc σ p);have aO:=N7 (bt:=bt) (body:=bd) (k:=k) (loc:=loc) (fm i);rcases kh i l.length with aj|aj
  ·have aK:l[i]? =I l[i]:=iw aj;rw[aK]at aO;rcases(step i l[i] loc σ aK p) with ⟨⟨eU,bJ⟩,af,e,aP⟩|⟨v,af,e,aP⟩
   ·replace aO:=aO.trans (aN (m:=bt l[i] loc>>=bd) e)
    induction eU with
    |next=>
     rcases(au (i+1) bJ af (by exact gq 0x304250002120020084C02802120021 rfl h1) (by exact aj) aP) with ⟨a,aC,c7,q⟩|⟨a,aC,c7,q⟩
     ·exact pI (aO.trans c7) q
     ·exact nj (aO.trans c7) q
    |ret u=>exact pI aO aP
    |brk=>exact aP.elim
    |cont=>exact aP.elim
   ·exact nj (aO.trans (e1 (m:=bt l[i] loc>>=bd) e)) aP
  ·have:i=l.length:=by exact lO (fk 0x2902029021 ab h2) (fk 0x2902029021 ab aj)
   subst this;rw[iL (cI _)]at aO;exact pI aO (fin loc σ p)
theorem G5{α:Type}{K:a6×Loc->M α}{fu:Loc->M α}{loc:Loc}:dA K fu (.next,loc)=fu loc:=rfl
theorem PJ{E:V->aq->Prop}{α:Type}{bA:Src}{l:List V}{J:aq->Prop}{K:a6×Loc->M α}{fu:Loc->M α}(dK:(C.calm&&gz bA target)=ak)(hw:Walks bA l J)(P:Nat->Loc->aq->Prop)(e7:∀i loc σ,P i loc σ->J σ){Q:α->aq->Prop}{loc:Loc}(aV:P 0 loc σ)
  (step:∀i v loc σ,l[i]? =I v->P i loc σ->cf E σ (bindTo (stLoc ns) target v loc>>=cm C body ns) (Turn P (λr af=>cf E af (K r) Q) i))
  (fin:∀loc σ,P l.length loc σ->cf E σ (fu loc) Q):cf E σ (eT C target body bA ns loc>>=dA K fu) Q:=by
 obtain⟨_,gf⟩:=hw σ (e7 0 loc σ aV);refine cf.step (P:=λr af=>cf E af (dA K fu r) Q) ?_ λae az q=>q;unfold eT;rw[bj dK];refine cQ (a:=l.length) (af:=σ) (by unfold Src.count;rw[hU,gf]) (aaX hw P e7 (λi v loc σ aK hp=>(step i v loc σ aK hp).mono (λr af aY=>?_) λae az h=>h) (λloc σ hp=>by rw[G5];exact fin loc σ hp) (l.length+1) 0 loc σ (by exact jW 0x1090000802120020 ab) (by exact jW 0x400420 ab) aV);obtain⟨eU,bJ⟩:=r
 induction eU with
 |next=>exact aY
 |ret u=>exact aY
 |brk=>exact aY
 |cont=>exact aY
theorem Cz{α:Type}{bA:Src}{l:List V}{J:aq->Prop}{K:a6×Loc->M α}{fu:Loc->M α}(dK:(C.calm&&gz bA target)=ak)(hw:Walks bA l J)(P:Nat->Loc->aq->Prop)(e7:∀i loc σ,P i loc σ->J σ){Q:α->aq->Prop}{loc:Loc}(aV:P 0 loc σ)
  (step:∀i v loc σ,l[i]? =I v->P i loc σ->Wp σ (bindTo (stLoc ns) target v loc>>=cm C body ns) (Turn P (λr af=>Wp af (K r) Q) i))
  (fin:∀loc σ,P l.length loc σ->Wp σ (fu loc) Q):Wp σ (eT C target body bA ns loc>>=dA K fu) Q:=
 (PJ dK hw P e7 aV (λi v loc σ aK hp=>((step i v loc σ aK hp).mono λr af aY=>by
  obtain⟨eU,bJ⟩:=r
  induction eU with
  |next=>exact aY
  |ret u=>exact Wp.oH aY
  |brk=>exact aY
  |cont=>exact aY).oH) λloc σ hp=>(fin loc σ hp).oH).wp
theorem wd{α:Type}{l:List α}{i:Nat}{x:α}(h:l[i]? =I x):l.drop i=x::l.drop (i+1):=by
 rw[akf (dy h)];congr 1;exact mQ ((iw (dy h)).symm.trans h)
inductive oh{X S:Type}(L:S->Loc)(P:List X->S->aq->Prop)(R:a6×Loc->aq->Prop)(r:List X):a6×Loc->aq->Prop
 |next(s:S){σ:aq}(p:P r s σ):oh L P R r (.next,L s) σ
 |ret{u:V}{loc:Loc}{σ:aq}(p:R (.ret u,loc) σ):oh L P R r (.ret u,loc) σ
theorem CA{E:V->aq->Prop}{α X S:Type}{xs:List X}{g:X->V}{L:S->Loc}{bA:Src}{J:aq->Prop}{K:a6×Loc->M α}{fu:Loc->M α}{Q:α->aq->Prop}(dK:(C.calm&&gz bA target)=ak)(hw:Walks bA (xs.map g) J)(P:List X->S->aq->Prop)(e7:∀{r s σ},P r s σ->J σ)(s0:S)(aV:P xs s0 σ)
  (step:∀x r s σ,x∈xs->P (x::r) s σ->cf E σ (bindTo (stLoc ns) target (g x) (L s)>>=cm C body ns) (oh L P (λr af=>cf E af (K r) Q) r))
  (fin:∀s σ,P [] s σ->cf E σ (fu (L s)) Q):cf E σ (eT C target body bA ns (L s0)>>=dA K fu) Q:=by
 refine PJ dK hw (λi loc σ=>∃s,loc=L s/\P (xs.drop i) s σ) (λi loc σ h=>by obtain⟨s,_,h⟩:=h;exact e7 h) ⟨s0,ab,aV⟩ (λi v loc σ aK h=>?_) λloc σ h=>?_
 ·refine aE λkk=>?_;obtain⟨s,rfl,h⟩:=h;obtain⟨x,aI,rfl⟩:=hr.mp ((ki ..).symm.trans aK);rw[wd aI]at h;refine kk ((step x _ s σ (g4 aI) h).mono (λr af hp=>?_) λae az h=>h)
  induction hp with
  |next s p=>exact⟨s,ab,p⟩
  |ret p=>exact p
 ·obtain⟨s,rfl,h⟩:=h;rw[c3,Dz]at h;exact fin s σ h
theorem mB{α X S:Type}{xs:List X}{g:X->V}{L:S->Loc}{bA:Src}{J:aq->Prop}{K:a6×Loc->M α}{fu:Loc->M α}{Q:α->aq->Prop}(dK:(C.calm&&gz bA target)=ak)(hw:Walks bA (xs.map g) J)(P:List X->S->aq->Prop)(e7:∀{r s σ},P r s σ->J σ)(s0:S)(aV:P xs s0 σ)
  (step:∀x r s σ,x∈xs->P (x::r) s σ->Wp σ (bindTo (stLoc ns) target (g x) (L s)>>=cm C body ns) (oh L P (λr af=>Wp af (K r) Q) r))
  (fin:∀s σ,P [] s σ->Wp σ (fu (L s)) Q):Wp σ (eT C target body bA ns (L s0)>>=dA K fu) Q:=
 (CA dK hw P e7 s0 aV (λx r s σ aI h=>((step x r s σ aI h).mono λr af hp=>(by
  induction hp with
  |next s p=>exact .next s p
  |ret p=>exact .ret (Wp.oH p):oh L P (λr af=>cf AV af (K r) Q) _ r af)).oH) λs σ h=>(fin s σ h).oH).wp
def HV(P:Nat->Loc->aq->Prop)(Q:a6×Loc->aq->Prop)(k:Nat)(r:a6×Loc)(σ:aq):Prop:=match r.1 with
 |.next=>∃j,j<k/\P j r.2 σ
 |.ret _=>Q r σ
 |_=>False
theorem Jo:∀(k j:Nat) (loc:Loc) (σ:aq),k<=j->hP tt bd k loc σ≠.bad->hP tt bd j loc σ=hP tt bd k loc σ:=by
 intro k
 induction k with
 |zero=>intro j loc σ _ h;exact absurd ab h
 |succ k au=>
  intro j loc σ bw h;refine aE λkk=>?_;obtain⟨j,rfl⟩:∃i,j=i+1:=⟨j-1,by exact Vi (b7 (RY _ _) ‹_›)⟩;rcases y9 h with ⟨c,a0,ax,aO⟩|⟨c,a0,ax,aO⟩
  case inr=>exact kk ((e1 (f:=λc=>M.cond c _ _) ax).trans aO.symm)
  refine kk ((aN (f:=λc=>M.cond c _ _) ax).trans (.trans ?_ aO.symm));replace h:=λal=>h (aO.trans al)
  induction c with
  |false=>rfl
  |true=>
   refine aE λkk=>?_;rcases y9 (show(bd loc>>=λr=>_) a0≠.bad from h) with ⟨r,cE,c7,eN⟩|⟨r,cE,c7,eN⟩
   case inr=>exact kk ((e1 (m:=bd loc) c7).trans eN.symm)
   refine kk ((aN (m:=bd loc) c7).trans (.trans ?_ eN.symm));replace h:=λal=>h (eN.trans al);obtain⟨eU,bJ⟩:=r
   induction eU with
   |next=>exact au j bJ cE (by exact RX bw) h
   |cont=>exact au j bJ cE (by exact RX bw) h
   |brk=>rfl
   |ret v=>rfl
theorem Jk(h:hP tt bd k loc σ=r)(al:r≠.bad):sC tt bd loc σ=r:=by
 rw[<-h]at al;have e:sC tt bd loc σ=oF tt bd loc σ:=by
  show(oF tt bd loc σ).bind Res.ok=_;cases oF tt bd loc σ <;> rfl
 have hex:∃n,hP tt bd n loc σ≠.bad:=⟨k,al⟩;rw[e];unfold oF;rw[dif_pos hex,<-h];rcases RW k (Classical.choose hex) with aj|aj
 ·exact Jo _ _ _ _ aj al
 ·exact(Jo _ _ _ _ aj (Classical.choose_spec hex)).symm
theorem z3(h:hP tt bd k loc σ=.ok r af):sC tt bd loc σ=.ok r af:=Jk h nofun
theorem adV{E:V->aq->Prop}{α:Type}{t:Expr}{K:a6×Loc->M α}{fu:Loc->M α}(P:Nat->Loc->aq->Prop){Q:α->aq->Prop}{loc:Loc}{k:Nat}(aV:P k loc σ)
  (step:∀k loc σ,P k loc σ->cf E σ (d4 C t ns loc (ev C t ns loc)) λb a0=>if b=ak then cf E a0 (cm C body ns loc) (HV P (λr af=>cf E af (K r) Q) k) else cf E a0 (fu loc) Q) :
  cf E σ (oG C t body ns loc>>=dA K fu) Q:=by
 have key:∀(k:Nat) (loc:Loc) (σ:aq),P k loc σ->∃n,cf E σ (hP (λl=>d4 C t ns l (ev C t ns l)) (cm C body ns) n loc) λr af=>cf E af (dA K fu r) Q:=by
  intro k
  induction k using Nat.strongRecOn with
  |_ k au=>
   intro loc σ hp;rcases(step k loc σ hp) with ⟨b,a0,ax,al⟩|⟨v,a0,ax,al⟩
   case exc=>exact⟨1,nj (e1 (m:=d4 C t ns loc (ev C t ns loc)) ax) al⟩
   induction b with
   |false=>exact⟨1,cQ (a:=aH) ax (ja (α:=a6×Loc) (a:=(.next,loc)) (Q:=λr af=>cf E af (dA K fu r) Q) al)⟩
   |true=>
    rcases(show cf E a0 (cm C body ns loc) (HV P (λr af=>cf E af (K r) Q) k) from al) with ⟨⟨eU,bJ⟩,cE,aO,aP⟩|⟨v,cE,aO,aP⟩
    case exc=>exact⟨1,cQ (a:=ak) ax (nj (e1 (m:=cm C body ns loc) aO) aP)⟩
    induction eU with
    |next=>
     obtain⟨j,bw,Bx⟩:=aP;obtain⟨n,aM⟩:=au j bw bJ cE Bx;exact⟨n+1,cQ (a:=ak) ax (cQ (m:=cm C body ns loc) aO aM)⟩
    |ret u=>exact⟨1,cQ (a:=ak) ax (cQ (m:=cm C body ns loc) aO (ja (α:=a6×Loc) (a:=(.ret u,bJ)) (Q:=λr af=>cf E af (dA K fu r) Q) aP))⟩
    |brk=>exact aP.elim
    |cont=>exact aP.elim
 obtain⟨n,h⟩:=key k loc σ aV;rcases h with ⟨r,af,e,q⟩|⟨v,af,e,q⟩
 ·exact cQ (m:=oG C t body ns loc) (z3 e) q
 ·exact nj (e1 (m:=oG C t body ns loc) (Jk e nofun)) q
theorem acM{E:V->aq->Prop}(hw:Walks bA l J)(P:Nat->List V->Loc->aq->Prop)(e7:∀i acc loc σ,P i acc loc σ->J σ)
  (step:∀i v acc loc σ,l[i]? =I v->P i acc loc σ->Wp σ (bt v loc) λbJ a0=>Wp a0 (tt bJ) λb cE=>if b=ak then cf E cE (cu bJ) (λy hu=>P (i+1) (acc++[y]) bJ hu) else P (i+1) acc bJ cE) :
  ∀(k i:Nat) (acc:List V) (loc:Loc) (σ:aq),l.length+1<=i+k->i<=l.length->P i acc loc σ->cf E σ (compLoop bA bt tt cu k i loc) (λout af=>∃bJ,P l.length (acc++out) bJ af):=by
 intro k
 induction k with
 |zero=>
  intro i acc loc σ h1 h2 _;exact sZ (fk 0x42108085084012802120021 ab h1 h2)
 |succ k au=>
  intro i acc loc σ h1 h2 p;obtain⟨fm,_⟩:=hw σ (e7 i acc loc σ p);rcases kh i l.length with aj|aj
  ·have aK:l[i]? =I l[i]:=iw aj;have ax:compLoop bA bt tt cu (k+1) i loc σ=(bt l[i] loc>>=λbJ=>tt bJ>>=λc=>if c=ak then (cu bJ>>=λx=>compLoop bA bt tt cu k (i+1) bJ>>=λr=>pure (x::r)) else compLoop bA bt tt cu k (i+1) bJ) σ:=by
    rw[Ci (fm i),aK]
   refine aE λkk=>?_;obtain⟨bJ,a0,aO,b,cE,c7,al⟩:=step i l[i] acc loc σ aK p;rw[aN aO,aN c7]at ax;refine kk ?_
   induction b with
   |false=>
    rcases(au (i+1) acc bJ cE (by exact gq 0x304250002120020084C02802120021 rfl h1) (by exact aj) al) with ⟨a,aC,eN,q⟩|⟨a,aC,eN,q⟩
    ·exact pI (ax.trans eN) q
    ·exact nj (ax.trans eN) q
   |true=>
    have ax:compLoop bA bt tt cu (k+1) i loc σ=(cu bJ>>=λx=>compLoop bA bt tt cu k (i+1) bJ>>=λr=>pure (x::r)) cE:=ax;rcases al with ⟨y,hu,eN,va⟩|⟨a,aC,eN,q⟩
    ·rw[aN eN]at ax;rcases(au (i+1) (acc++[y]) bJ hu (by exact gq 0x304250002120020084C02802120021 rfl h1) (by exact aj) va) with ⟨a,aC,eX,X7,q⟩|⟨a,aC,eX,q⟩
     ·exact pI (a:=y::a) (by rw[ax,aN eX];rfl) ⟨X7,by rw[jM]at q;exact q⟩
     ·exact nj (by rw[ax,e1 eX]) q
    ·exact nj (ax.trans (e1 eN)) q
  ·have:i=l.length:=by exact lO (fk 0x2902029021 ab h2) (fk 0x2902029021 ab aj)
   subst this;exact pI (a:=[]) (by rw[Ci (fm l.length),(iL (cI _):l[l.length]? =U)];rfl) ⟨loc,by rw[lP];exact p⟩
theorem adX{E:V->aq->Prop}(dK:(C.calm&&gz bA target)=ak)(hw:Walks bA l J)(fD:gS scope.kind scope.names=ak)(fw:eL ns loc scope.names=pure Mk)(aj:l.length<=bz)(P:Nat->List V->Loc->aq->Prop)
  (e7:∀i acc loc σ,P i acc loc σ->J σ) (aV:P 0 [] Mk σ)
  (step:∀i v acc loc σ,l[i]? =I v->P i acc loc σ->Wp σ (bindTo (ff (ca ns scope.names)) target v loc) λbJ a0=>Wp a0 (tests C ifs (ca ns scope.names) bJ) λb cE=>if b=ak then cf E cE (ev C elt (ca ns scope.names) bJ) λy hu=>P (i+1) (acc++[y]) bJ hu else P (i+1) acc bJ cE)
  {α:Type}{K:V->M α}{Q:α->aq->Prop}(fin:∀out loc af,P l.length out loc af->cf E (af++[O.list out]) (K (.ref af.length)) Q):cf E σ (gw C elt target ifs scope bA ns loc>>=K) Q:=by
 obtain⟨_,gf⟩:=hw σ (e7 0 [] _ σ aV);refine cf.step (P:=λr af=>cf E af (K r) Q) ?_ λae az q=>q;unfold gw;rw[bj (by rw[<-Bool.and_assoc,dK,fD];rfl)];refine cQ (af:=σ) (a:=l.length) (by unfold Src.count;rw[hU,gf]) ?_;rw[bj aj,fw];refine cQ ab ((acM hw P e7 step (l.length+1) 0 [] Mk σ (by exact jW 0x1090000802120020 ab) (by exact jW 0x400420 ab) aV).step λout af aU=>?_);obtain⟨bJ,p⟩:=aU;rw[I2]at p;exact pI ab (fin out bJ af p)
theorem PK{E:V->aq->Prop}{X:Type}{xs:List X}{g:X->V}{L:Option X->Loc}{q:X->Bool}{P:List X->List V->aq->Prop}(dK:(C.calm&&gz bA target)=ak)(hw:Walks bA (xs.map g) J)(fD:gS scope.kind scope.names=ak)(fw:eL ns loc scope.names=pure (L U))(aj:xs.length<=bz)
  (al:∀o x,bindTo (ff (ca ns scope.names)) target (g x) (L o)=pure (L (I x))) (e7:∀{r acc σ},P r acc σ->J σ) (aV:P xs [] σ) (aY:∀x r acc σ,x∈xs->P (x::r) acc σ->tests C ifs (ca ns scope.names) (L (I x)) σ=.ok (q x) σ) (skip:∀x r acc σ,q x=aH->P (x::r) acc σ->P r acc σ)
  (step:∀x r acc σ,x∈xs->q x=ak->P (x::r) acc σ->cf E σ (ev C elt (ca ns scope.names) (L (I x))) λy af=>P r (acc++[y]) af)
  {α:Type}{K:V->M α}{Q:α->aq->Prop}(fin:∀out af,P [] out af->cf E (af++[O.list out]) (K (.ref af.length)) Q):cf E σ (gw C elt target ifs scope bA ns loc>>=K) Q:=by
 refine adX (l:=xs.map g) dK hw fD fw (by rw[c3];exact aj) (λi acc loc σ=>(∃o,loc=L o)/\P (xs.drop i) acc σ) (λae az bS fc h=>e7 h.2) ⟨⟨U,ab⟩,aV⟩ (λi v acc loc σ aK h=>?_) λout loc af h=>?_
 ·refine aE λkk=>?_;obtain⟨⟨o,rfl⟩,h⟩:=h;obtain⟨x,aI,rfl⟩:=hr.mp ((ki ..).symm.trans aK);rw[wd aI]at h;have hm:=g4 aI;refine kk ?_;rw[al];refine PH ab (PH (aY x _ acc σ hm h) ?_)
  induction aL:q x with
  |true=>rw[bj ab];exact(step x _ acc σ hm aL h).mono (λy af hp=>⟨⟨_,ab⟩,hp⟩) λae az h=>h
  |false=>rw[bH nofun];exact⟨⟨_,ab⟩,skip x _ acc σ aL h⟩
 ·have h:=h.2;rw[c3,Dz]at h;exact fin out af h
theorem HU{E:V->aq->Prop}{X:Type}{xs:List X}{g:X->V}{L:Option X->Loc}(dK:(C.calm&&gz bA target)=ak)(hw:Walks bA (xs.map g) J)(fD:gS scope.kind scope.names=ak)(fw:eL ns loc scope.names=pure (L U))(aj:xs.length<=bz)
  (al:∀o x,bindTo (ff (ca ns scope.names)) target (g x) (L o)=pure (L (I x))) (aY:∀loc,tests C ifs (ca ns scope.names) loc=pure ak) (P:List X->List V->aq->Prop) (e7:∀{r acc σ},P r acc σ->J σ) (aV:P xs [] σ)
  (step:∀x r acc σ,x∈xs->P (x::r) acc σ->cf E σ (ev C elt (ca ns scope.names) (L (I x))) λy af=>P r (acc++[y]) af)
  {α:Type}{K:V->M α}{Q:α->aq->Prop}(fin:∀out af,P [] out af->cf E (af++[O.list out]) (K (.ref af.length)) Q):cf E σ (gw C elt target ifs scope bA ns loc>>=K) Q:=
 PK (q:=λae=>ak) (P:=P) dK hw fD fw aj al e7 aV (λx r acc σ ae az=>by rw[aY];rfl) (λx r acc σ h ae=>by cases h) (λx r acc σ hm ae h=>step x r acc σ hm h) fin
theorem HS{X:Type}{xs:List X}{g:X->V}{L:Option X->Loc}(dK:(C.calm&&gz bA target)=ak)(hw:Walks bA (xs.map g) J)(fD:gS scope.kind scope.names=ak)(fw:eL ns loc scope.names=pure (L U))(aj:xs.length<=bz)
  (al:∀o x,bindTo (ff (ca ns scope.names)) target (g x) (L o)=pure (L (I x))) (aY:∀loc,tests C ifs (ca ns scope.names) loc=pure ak) (P:List X->List V->aq->Prop) (e7:∀{r acc σ},P r acc σ->J σ) (aV:P xs [] σ)
  (step:∀x r acc σ,x∈xs->P (x::r) acc σ->Wp σ (ev C elt (ca ns scope.names) (L (I x))) λy af=>P r (acc++[y]) af)
  {α:Type}{K:V->M α}{Q:α->aq->Prop}(fin:∀out af,P [] out af->Wp (af++[O.list out]) (K (.ref af.length)) Q):Wp σ (gw C elt target ifs scope bA ns loc>>=K) Q:=
 (HU dK hw fD fw aj al aY P e7 aV (λx r acc σ hm h=>(step x r acc σ hm h).oH) λout af h=>(fin out af h).oH).wp
theorem KY{α:Type}{m:M α}{a:α}{aC:aq}(e:(m>>=λv=>cv v) σ=.ok a aC):m σ=.ok a aC:=by
 induction h:m σ with
 |ok a aC=>exact(aN h).symm.trans e
 |exc a aC=>exact(e1 h).symm.trans e
 |bad=>exact(cS h).symm.trans e
inductive Ro{X:Type}(σ:aq)(p:X->Bool)(f:X->V)(all:List V)(r:List X)(acc:List V):aq->Prop
 |mk(h:acc++(r.filter p).map f=all):Ro σ p f all r acc σ
theorem xS{X:Type}{xs:List X}{g:X->V}{L:Option X->Loc}{p:X->Bool}{f:X->V}(dK:(C.calm&&gz bA target)=ak)(hw:Walks bA (xs.map g) λaC=>aC=σ)(fD:gS scope.kind scope.names=ak)(fw:eL ns loc scope.names=pure (L U))(aj:xs.length<=bz)
  (al:∀o x,bindTo (ff (ca ns scope.names)) target (g x) (L o)=pure (L (I x))) (aY:∀x∈xs,tests C ifs (ca ns scope.names) (L (I x)) σ=.ok (p x) σ) (he:∀x∈xs,p x=ak->ev C elt (ca ns scope.names) (L (I x)) σ=.ok (f x) σ):gw C elt target ifs scope bA ns loc σ=.ok (.ref σ.length) (σ++[O.list ((xs.filter p).map f)]):=by
 obtain⟨_,_,e,h⟩:=cf.wp (PK (E:=AV) (K:=λv=>cv v) (Q:=λv aC=>v=.ref σ.length/\aC=σ++[O.list ((xs.filter p).map f)]) (q:=p) (P:=Ro σ p f ((xs.filter p).map f)) dK hw fD fw aj al (λh=>by induction h with|mk _=>rfl) (.mk ab) (λx r acc aC aI h=>by induction h with|mk _=>exact aY x aI)
  (λx r acc aC hp h=>by
   induction h with
   |mk h=>rw[List.filter_cons_of_neg (by rw[hp];exact nofun)]at h;exact .mk h)
  (λx r acc aC aI hp h=>by
   induction h with
   |mk h=>rw[List.filter_cons_of_pos hp]at h;exact pI (he x aI hp) (.mk (by rw[jM];exact h)))
  λout aC h=>by
   induction h with
   |mk h=>exact ja ⟨ab,dR (λl=>σ++[O.list l]) ((lP _).symm.trans h)⟩)
 rw[h.1,h.2]at e;exact KY e
theorem u4{X:Type}{xs:List X}{g:X->V}{L:Option X->Loc}{f:X->V}(dK:(C.calm&&gz bA target)=ak)(hw:Walks bA (xs.map g) λaC=>aC=σ)(fD:gS scope.kind scope.names=ak)(fw:eL ns loc scope.names=pure (L U))(aj:xs.length<=bz)
  (al:∀o x,bindTo (ff (ca ns scope.names)) target (g x) (L o)=pure (L (I x))) (aY:∀loc,tests C ifs (ca ns scope.names) loc=pure ak) (he:∀x∈xs,ev C elt (ca ns scope.names) (L (I x)) σ=.ok (f x) σ):gw C elt target ifs scope bA ns loc σ=.ok (.ref σ.length) (σ++[O.list (xs.map f)]):=by
 have h:=xS (p:=λae=>ak) dK hw fD fw aj al (λx ae=>by rw[aY];rfl) λx aI ae=>he x aI;rw[List.filter_eq_self.mpr λae az=>ab]at h;exact h
end
def bZ(X:List Nat)(σ af:aq):Prop:=∀(n:Nat) (o:O),n∉X->σ[n]? =I o->af[n]? =I o
noncomputable abbrev dC(σ af:aq):Prop:=bZ [] σ af
section
variable {X Y:List Nat}{σ af eF aC:aq}
theorem bZ.refl:bZ X σ σ:=λae az bS h=>h
theorem bZ.trans(h:bZ X σ af)(h':bZ X af eF):bZ X σ eF:=λn o aM e=>h' n o aM (h n o aM e)
theorem bZ.at(h:dC σ af){n:Nat}{o:O}(e:σ[n]? =I o):af[n]? =I o:=h n o gH e
theorem bZ.push:bZ X σ (σ++[o]):=λn o' ae e=>by rw[qW (dy e)];exact e
theorem bZ.new(h:bZ X σ aC):bZ X σ (aC++[o]):=h.trans .push
theorem bZ.set(ao:k∈X)(h:bZ X σ aC):bZ X σ (aC.set k o):=λn o' aM e=>by
 rw[oC (λeq:k=n=>aM (by rw[<-eq];exact ao))];exact h n o' aM e
theorem bZ.hQ(h:bZ X σ aC)(ao:σ.length<=k):bZ X σ (aC.set k o):=λn o' aM e=>by
 rw[oC (λeq=>by have:=dy e;exact sZ (gq 0x842101021300213142229021 ab ao eq this))];exact h n o' aM e
theorem bZ.after(h:bZ Y σ af)(h':bZ X af eF)(tw:∀n∈X,n∈Y\/σ.length<=n):bZ Y σ eF:=λn o aM e=>
 h' n o (λhm=>(tw n hm).elim aM λaj=>absurd (dy e) (qT.mpr aj)) (h n o aM e)
theorem b2:(σ++[o])[σ.length]? =I o:=by rw[mR (cI _),lN];rfl
theorem fg(h:σ[n]? =I o):(σ.set n o')[n]? =I o':=zT (dy h)
theorem ea(ao:k≠n)(h:σ[n]? =I o):(σ.set k o')[n]? =I o:=by rw[oC ao];exact h
theorem cK{n:Nat}{o o':O}(h:σ[n]? =I o):(σ++[o'])[n]? =I o:=by rw[qW (dy h)];exact h
theorem kB:(σ.set k o).length=σ.length:=List.length_set ..
end
theorem fJ{α:Type}{m ej:M α}{σ:aq}{Q:α->aq->Prop}(h:m=ej)(w:Wp σ ej Q):Wp σ m Q:=h ▸ w
theorem vn{z m:Int}(hm:0<m):(z % m).toNat<m.toNat:=(Int.toNat_lt_toNat hm).mpr (zW _ hm)
theorem vo{z m:Int}(hm:0<m):z % m=(((z % m).toNat:Nat):Int):=(Sd (sx _ (I8 hm))).symm
end Mine.Internal
namespace Mine.Internal
open PySem PyProof.Rows
def tab10:List (Str×cX):=OI PySem.Challenge.pw_uf010004_10
def mt10:List (Str×cX):=XJ PySem.Challenge.pw_uf010004_10 []
noncomputable def gs10:List (Str×V):=[(aB "MOST_KNOTS",(V.int 200)),(aB "MOST_DEEP",(V.int 12))]
noncomputable def cs10:List (Str×List Str×List Str):=[("Spot",["__init__"],["word", "use", "rest", "became"]),("Tail",["__init__"],["word", "use", "rest", "label", "kind", "became"]),("Found",["__init__", "result", "go", "taken", "asked", "called"],["known", "body", "order", "inputs", "at"]),("Teller",["__init__", "number", "told"],["met", "knots"])]
def tx10:gU:=Ek tab10 mt10 gs10 (xj xt10) cs10
noncomputable def fnAt(l:List (Str×cX))(k:Nat):cX:=(l.drop k).head?.elim ⟨[],[],[]⟩ (·.2)
def aX(d:Nat)(f:Str)(as:List V):M V:=rX tx10 d f as
def av(d:Nat):Cfg:=Cm tx10 d
theorem d7{f:Str}{fn:cX}(h:tx10.at f=I fn)(d:Nat)(as:List V):aX (d+1) f as=y7 (av d) fn as:=by
 show rX _ (d+1) f as=_;rw[O7,h];rfl
section
local macro_rules |`(tactic| rfl)=>`(tactic| kernel_rfl)
def t7:cX:=fnAt tab10 0
theorem aeE:tx10.at "parts_of" = I t7:=by rfl
def aet(d:Nat)(ag ai:V):M V:=(bP (.list [])>>=λt0=>(pure t0:M V))
def aeu(d:Nat)(ag ai:V):M V:=(cmp .Eq ai (V.str "call")>>=λt0=>truth t0>>=λfI=>M.cond fI (item ag (V.int 2)>>=λbc=>oe bc>>=λt3=>(pure t3:M V)) (aet d ag ai))
def aev(d:Nat)(ag ai:V):M V:=((cmp .Eq ai (V.str "sum")>>=λt0=>truth t0>>=λfI=>M.cond fI (pure ak:M Bool) (cmp .Eq ai (V.str "if")>>=λbc=>truth bc>>=λgh=>M.cond gh (pure ak:M Bool) (pure aH:M Bool)))>>=λha=>M.cond ha (bound (V.int 1)>>=λnY=>bound V.none>>=λnX=>iP nY nX ag>>=λdt=>oe dt>>=λdj=>(pure dj:M V)) (aeu d ag ai))
def aew(d:Nat)(ag ai:V):M V:=(cmp .Eq ai (V.str "put")>>=λt0=>truth t0>>=λfI=>M.cond fI (item ag (V.int 1)>>=λbc=>item ag (V.int 3)>>=λt3=>bP (.list [bc,t3])>>=λb1=>(pure b1:M V)) (aev d ag ai))
def aex(d:Nat)(ag ai:V):M V:=(cmp .Eq ai (V.str "get")>>=λt0=>truth t0>>=λfI=>M.cond fI (item ag (V.int 1)>>=λbc=>bP (.list [bc])>>=λt3=>(pure t3:M V)) (aew d ag ai))
def mE:Expr:=(fh (cO (bU (cO t7.body 1)) 0))
theorem aeB(ag ai:V):eL t7.names [I ag,I ai,U] (bM mE).names=pure [U,U,U]:=by rfl
theorem aeD(ft ba:Option V)(ar aF:V):bindTo (ff (ca t7.names (bM mE).names)) (eO mE) (.tup [ar,aF]) [U,ft,ba]=pure [U,I ar,I aF]:=by rfl
theorem aeC(d:Nat)(ag ai:V):ev (av d) (e0 mE) (ca t7.names (bM mE).names) [U,I ag,I ai]=(pure ai:M V):=by rfl
theorem aez(d:Nat)(loc:Loc):tests (av d) (eZ mE) (ca t7.names (bM mE).names) loc=(pure ak:M Bool):=by rfl
theorem aeA:gS (bM mE).kind (bM mE).names=ak:=by rfl
theorem aey(d:Nat)(ag:V):aX (d+1) "parts_of" [ag]=(item ag (V.int 0)>>=λt0=>cmp .Eq t0 (V.str "make")>>=λt1=>truth t1>>=λdq=>M.cond dq (item ag (V.int 1)>>=λt3=>el t3>>=λnI=>gw (av d) (e0 mE) (eO mE) (eZ mE) (bM mE) nI t7.names [I ag,I t0,U]>>=λcA=>(pure cA:M V)) (aex d ag t0)):=
 (d7 aeE d _).trans (by rfl)
def nq:cX:=fnAt tab10 1
theorem aes:tx10.at "places_of" = I nq:=by rfl
def wH:Stmt:=(cO nq.body 1)
def mD:Expr:=(jw (fh (cO (bU wH) 0)) 1)
theorem aeo(ag ai ar aF:V):eL nq.names [I ag,I ai,I ar,I aF,U,U,U] (bM mD).names=pure [U,U,I ar]:=by rfl
theorem aeq(ag:V)(ba:Option V)(ar:V):bindTo (ff (ca nq.names (bM mD).names)) (eO mD) ar [U,ba,I ag]=pure [U,I ar,I ag]:=by rfl
theorem aep(d:Nat)(ag ai:V):ev (av d) (e0 mD) (ca nq.names (bM mD).names) [U,I ai,I ag]=(binop .Add (V.tup [ag]) ai>>=λt0=>(pure t0:M V)):=by rfl
theorem aem(d:Nat)(loc:Loc):tests (av d) (eZ mD) (ca nq.names (bM mD).names) loc=(pure ak:M Bool):=by rfl
theorem aen:gS (bM mD).kind (bM mD).names=ak:=by rfl
theorem ael(d:Nat)(ag ai ar aF:V)(bC of:Option V):(bindTo (stLoc nq.names) (cy wH) (.tup [ag,ai]) [I ar,I aF,of,bC,U,U,U]>>=cm (av d) (bU wH) nq.names)=(aX d "places_of" [ai]>>=λt0=>el t0>>=λs1=>gw (av d) (e0 mD) (eO mD) (eZ mD) (bM mD) s1 nq.names [I ar,I aF,I ag,I ai,U,U,U]>>=λbc=>binop .Add aF bc>>=λt3=>(pure (a6.next,[I ar,I t3,I ag,I ai,U,U,U]):M (a6×Loc))):=by rfl
def P8(d:Nat)(loc:Loc):M V:=en (av d) (es 2 nq.body) nq.names loc cN
theorem aer(d:Nat)(ag ai:V)(gN c5:Option V):P8 d [I ag,I ai,c5,gN,U,U,U]=(bP (.list [(V.tup [])])>>=λt0=>binop .Add ai t0>>=λt1=>(pure t1:M V)):=by rfl
theorem aek(d:Nat)(ag:V):aX (d+1) "places_of" [ag]=(bP (.list [])>>=λt0=>aX d "parts_of" [ag]>>=λt1=>yU t1>>=λs2=>eT (av d) (cy wH) (bU wH) s2 nq.names [I ag,I t0,U,U,U,U,U]>>=dA cN (P8 d)):=
 (d7 aes d _).trans (by rfl)
def ub:cX:=fnAt tab10 2
theorem af3:tx10.at "at_place" = I ub:=by rfl
def CP:Stmt:=(cO ub.body 0)
theorem af1(d:Nat)(ag ai ar:V)(c5:Option V):(bindTo (stLoc ub.names) (cy CP) ag [I ai,I ar,c5,U]>>=cm (av d) (bU CP) ub.names)=(aX d "parts_of" [ai]>>=λt0=>item t0 ag>>=λt1=>(pure (a6.next,[I t1,I ar,I ag,U]):M (a6×Loc))):=by rfl
def Qp(d:Nat)(loc:Loc):M V:=en (av d) (es 1 ub.body) ub.names loc cN
theorem af2(d:Nat)(ag ai:V)(gN:Option V):Qp d [I ag,I ai,gN,U]=(pure ag:M V):=by rfl
theorem af0(d:Nat)(ag ai:V):aX (d+1) "at_place" [ag,ai]=(el ai>>=λs0=>eT (av d) (cy CP) (bU CP) s0 ub.names [I ag,I ai,U,U]>>=dA cN (Qp d)):=
 (d7 af3 d _).trans (by rfl)
def aea:cX:=fnAt tab10 3
theorem ad9:tx10.at "unknown_kind" = I aea:=by rfl
theorem ad8(d:Nat):aX (d+1) "unknown_kind" []=(fv (av d) "Spot" [(V.str "unknown"),(V.int 0),V.none]>>=λt0=>(pure t0:M V)):=
 (d7 ad9 d _).trans (by rfl)
def ad7:cX:=fnAt tab10 4
theorem ad6:tx10.at "unknown_rest" = I ad7:=by rfl
theorem ad5(d:Nat):aX (d+1) "unknown_rest" []=(fv (av d) "Tail" [(V.str "unknown"),(V.int 0),V.none]>>=λt0=>(pure t0:M V)):=
 (d7 ad6 d _).trans (by rfl)
def afQ:cX:=fnAt tab10 5
theorem afP:tx10.at "field" = I afQ:=by rfl
theorem afO(d:Nat)(ag ai ar aF:V):aX (d+1) "field" [ag,ai,ar,aF]=(fv (av d) "Tail" [(V.str "label"),ar,aF]>>=λt0=>d5 (av d) "label" ag t0>>=λae=>d5 (av d) "kind" ai t0>>=λae=>(pure t0:M V)):=
 (d7 afP d _).trans (by rfl)
def oq:cX:=fnAt tab10 6
theorem aee:tx10.at "top" = I oq:=by rfl
def se:Stmt:=(cO oq.body 0)
theorem P4(d:Nat)(ag:V):d4 (av d) (fh se) oq.names [I ag] (ev (av d) (fh se) oq.names [I ag])=(cc (av d) "became" ag>>=λt0=>cmp .IsNot t0 V.none>>=λt1=>truth t1>>=λdq=>(pure dq:M Bool)):=by rfl
theorem aeb(d:Nat)(ag:V):cm (av d) (bU se) oq.names [I ag]=(cc (av d) "became" ag>>=λt0=>(pure (a6.next,[I t0]):M (a6×Loc))):=by rfl
def P5(d:Nat)(loc:Loc):M V:=en (av d) (es 1 oq.body) oq.names loc cN
theorem aed(d:Nat)(ag:V):P5 d [I ag]=(pure ag:M V):=by rfl
theorem aec(d:Nat)(ag:V):aX (d+1) "top" [ag]=(oG (av d) (fh se) (bU se) oq.names [I ag]>>=dA cN (P5 d)):=
 (d7 aee d _).trans (by rfl)
def ot:cX:=fnAt tab10 7
theorem aei:tx10.at "row_of" = I ot:=by rfl
def sf:Stmt:=(cO ot.body 2)
theorem P6(d:Nat)(ag ai ar:V):d4 (av d) (fh sf) ot.names [I ag,I ai,I ar,U] (ev (av d) (fh sf) ot.names [I ag,I ai,I ar,U])=(cc (av d) "word" ar>>=λt0=>cmp .Eq t0 (V.str "label")>>=λt1=>truth t1>>=λdq=>(pure dq:M Bool)):=by rfl
theorem aef(d:Nat)(ag ai ar:V):cm (av d) (bU sf) ot.names [I ag,I ai,I ar,U]=(cc (av d) "label" ar>>=λt0=>setItem ai t0 ar>>=λae=>cc (av d) "rest" ar>>=λt1=>aX d "top" [t1]>>=λbc=>(pure (a6.next,[I ag,I ai,I bc,U]):M (a6×Loc))):=by rfl
def P7(d:Nat)(loc:Loc):M V:=en (av d) (es 3 ot.body) ot.names loc cN
theorem aeh(d:Nat)(ag ai ar:V):P7 d [I ag,I ai,I ar,U]=(pure (V.tup [ai,ar]):M V):=by rfl
theorem aeg(d:Nat)(ag:V):aX (d+1) "row_of" [ag]=(bP (.dict 0 [])>>=λt0=>aX d "top" [ag]>>=λt1=>cc (av d) "rest" t1>>=λbc=>aX d "top" [bc]>>=λt3=>oG (av d) (fh sf) (bU sf) ot.names [I ag,I t0,I t3,U]>>=dA cN (P7 d)):=
 (d7 aei d _).trans (by rfl)
def i0:cX:=fnAt tab10 8
theorem afH:tx10.at "holds" = I i0:=by rfl
def nt:Stmt:=(cO i0.body 2)
theorem afw(d:Nat)(ag ai ar aF:V)(bC of cb:Option V):d4 (av d) (fh nt) i0.names [I ag,I ai,I ar,I aF,cb,of,bC,U,U] (ev (av d) (fh nt) i0.names [I ag,I ai,I ar,I aF,cb,of,bC,U,U])=(bP (.list [])>>=λt0=>cmp .NotEq ar t0>>=λt1=>truth t1>>=λdq=>(pure dq:M Bool)):=by rfl
def CL(d:Nat)(loc:Loc):M (a6×Loc):=en (av d) (es 2 (bU (cO (bU nt) 2))) i0.names loc (dA (λx=>pure x) (λbJ=>en (av d) (es 3 (bU nt)) i0.names bJ (λx=>pure x)))
def mH:Expr:=(jw (fh (cO (bU (cO (bU nt) 2)) 3)) 1)
theorem afB(ag ai ar aF a5:V)(of cb:Option V):eL i0.names [I ag,I ai,I ar,I aF,I a5,of,cb,U,U] (bM mH).names=pure [U,U,of]:=by rfl
theorem afD(ft ba:Option V)(ar:V):bindTo (ff (ca i0.names (bM mH).names)) (eO mH) ar [U,ba,ft]=pure [U,I ar,ft]:=by rfl
theorem afC(d:Nat)(ft:Option V)(ai:V):ev (av d) (e0 mH) (ca i0.names (bM mH).names) [U,I ai,ft]=(bE ft>>=λt0=>item t0 ai>>=λt1=>cc (av d) "kind" t1>>=λbc=>(pure bc:M V)):=by rfl
theorem afz(d:Nat)(loc:Loc):tests (av d) (eZ mH) (ca i0.names (bM mH).names) loc=(pure ak:M Bool):=by rfl
theorem afA:gS (bM mH).kind (bM mH).names=ak:=by rfl
def Qi(d:Nat)(ag ai ar aF a5:V)(of cb:Option V):M (a6×Loc):=(c1 (dP (av d) ar "extend")>>=λmq=>bE of>>=λt1=>el t1>>=λs2=>gw (av d) (e0 mH) (eO mH) (eZ mH) (bM mH) s2 i0.names [I ag,I ai,I ar,I aF,I a5,of,cb,U,U]>>=λt3=>runM (av d) "extend" mq ar [t3]>>=λb1=>(pure (a6.next,[I ag,I ai,I ar,I aF,I a5,of,cb,U,U]):M (a6×Loc)))
theorem afG(d:Nat)(ag ai ar aF a5:V)(of cb:Option V):CL d [I ag,I ai,I ar,I aF,I a5,of,cb,U,U]=(bE cb>>=λt0=>cmp .Eq t0 ai>>=λt1=>truth t1>>=λdq=>M.cond dq (pure (a6.ret (V.bool ak),[I ag,I ai,I ar,I aF,I a5,of,cb,U,U]):M (a6×Loc)) (Qi d ag ai ar aF a5 of cb)):=by rfl
def Qj(d:Nat)(ag ai ar aF a5:V)(of cb:Option V):M (a6×Loc):=((cc (av d) "word" a5>>=λt0=>cmp .Eq t0 (V.str "record")>>=λt1=>truth t1>>=λdq=>M.cond dq (cmp .NotIn a5 aF>>=λt3=>truth t3>>=λha=>M.cond ha (pure ak:M Bool) (pure aH:M Bool)) (pure aH:M Bool))>>=λog=>M.cond og (c1 (dP (av d) aF "append")>>=λlr=>runM (av d) "append" lr aF [a5]>>=λdt=>aX d "row_of" [a5]>>=λdj=>bindTo (stLoc i0.names) (cy (cO (bU (cO (bU nt) 2)) 1)) dj [I ag,I ai,I ar,I aF,I a5,of,cb,U,U]>>=CL d) (pure (a6.next,[I ag,I ai,I ar,I aF,I a5,of,cb,U,U]):M (a6×Loc)))
theorem afx(d:Nat)(ag ai ar aF:V)(bC of cb:Option V):cm (av d) (bU nt) i0.names [I ag,I ai,I ar,I aF,cb,of,bC,U,U]=(c1 (dP (av d) ar "pop")>>=λmq=>runM (av d) "pop" mq ar []>>=λt1=>aX d "top" [t1]>>=λbc=>cmp .Eq bc ai>>=λt3=>truth t3>>=λha=>M.cond ha (pure (a6.ret (V.bool ak),[I ag,I ai,I ar,I aF,I bc,of,bC,U,U]):M (a6×Loc)) (Qj d ag ai ar aF bc of bC)):=by rfl
def Qk(d:Nat)(loc:Loc):M V:=en (av d) (es 3 i0.body) i0.names loc cN
theorem afF(d:Nat)(ag ai ar aF:V)(bC of cb:Option V):Qk d [I ag,I ai,I ar,I aF,cb,of,bC,U,U]=(pure (V.bool aH):M V):=by rfl
theorem afy(d:Nat)(ag ai:V):aX (d+1) "holds" [ag,ai]=(bP (.list [ag])>>=λt0=>bP (.list [])>>=λt1=>oG (av d) (fh nt) (bU nt) i0.names [I ag,I ai,I t0,I t1,U,U,U,U,U]>>=dA cN (Qk d)):=
 (d7 afH d _).trans (by rfl)
def afZ:cX:=fnAt tab10 9
theorem afY:tx10.at "become" = I afZ:=by rfl
def Qm(d:Nat)(ag ai ar:V):M V:=(d5 (av d) "became" ai ag>>=λae=>(pure V.none:M V))
theorem afR(d:Nat)(ag ai ar:V):aX (d+1) "become" [ag,ai,ar]=((cc (av d) "word" ai>>=λt0=>cmp .Eq t0 (V.str "record")>>=λt1=>truth t1>>=λdq=>M.cond dq (aX d "holds" [ai,ag]>>=λt3=>truth t3>>=λha=>M.cond ha (pure ak:M Bool) (pure aH:M Bool)) (pure aH:M Bool))>>=λog=>M.cond og (M.bad:M V) (Qm d ag ai ar)):=
 (d7 afY d _).trans (by rfl)
def lG:cX:=fnAt tab10 10
theorem afX:tx10.at "become_row" = I lG:=by rfl
def wJ:Stmt:=(cO lG.body 0)
theorem afU(d:Nat)(ag ai ar aF a5 bR:V)(cb:Option V):(bindTo (stLoc lG.names) (cy wJ) ag [I ai,I ar,I aF,I a5,I bR,cb,U,U,U,U,U]>>=cm (av d) (bU wJ) lG.names)=(item ar ag>>=λt0=>cc (av d) "kind" t0>>=λt1=>aX d "holds" [t1,ai]>>=λbc=>truth bc>>=λgh=>M.cond gh (M.bad:M (a6×Loc)) (pure (a6.next,[I ai,I ar,I aF,I a5,I bR,I ag,U,U,U,U,U]):M (a6×Loc))):=by rfl
def Qo(d:Nat)(loc:Loc):M V:=en (av d) (es 1 lG.body) lG.names loc cN
def CO:Stmt:=(cO lG.body 2)
theorem afT(d:Nat)(ag ai ar aF a5 bR:V)(cb:Option V)(b0:V):(bindTo (stLoc lG.names) (cy CO) ag [I ai,I ar,I aF,I a5,I bR,cb,I b0,U,U,U,U]>>=cm (av d) (bU CO) lG.names)=(item ar ag>>=λt0=>cc (av d) "kind" t0>>=λt1=>item ar ag>>=λbc=>cc (av d) "use" bc>>=λt3=>aX d "field" [ag,t1,t3,b0]>>=λb1=>(pure (a6.next,[I ai,I ar,I aF,I a5,I bR,I ag,I b1,U,U,U,U]):M (a6×Loc))):=by rfl
def Qn(d:Nat)(loc:Loc):M V:=en (av d) (es 3 lG.body) lG.names loc cN
theorem afV(d:Nat)(ag ai ar aF a5:V)(of:Option V)(cp:V):Qn d [I ag,I ai,I ar,I aF,I a5,of,I cp,U,U,U,U]=(d5 (av d) "became" cp ag>>=λae=>(pure V.none:M V)):=by rfl
theorem afW(d:Nat)(ag ai ar aF a5:V)(of:Option V):Qo d [I ag,I ai,I ar,I aF,I a5,of,U,U,U,U,U]=(uY ar>>=λs0=>eT (av d) (cy CO) (bU CO) s0 lG.names [I ag,I ai,I ar,I aF,I a5,of,I aF,U,U,U,U]>>=dA cN (Qn d)):=by rfl
theorem afS(d:Nat)(ag ai ar aF a5:V):aX (d+1) "become_row" [ag,ai,ar,aF,a5]=(el ar>>=λs0=>eT (av d) (cy wJ) (bU wJ) s0 lG.names (I ag::I ai::I ar::I aF::I a5::n_6)>>=dA cN (Qo d)):=
 (d7 afX d _).trans (by rfl)
def iH:cX:=fnAt tab10 11
theorem afc:tx10.at "join_shared" = I iH:=by rfl
def nr:Stmt:=(cO iH.body 1)
theorem ae4(d:Nat)(ag ai ar aF:V)(bC of cb gA eR:Option V):d4 (av d) (fh nr) iH.names [I ag,I ai,I ar,I aF,of,eR,cb,gA,bC,U,U,U,U] (ev (av d) (fh nr) iH.names [I ag,I ai,I ar,I aF,of,eR,cb,gA,bC,U,U,U,U])=(truth (V.bool ak)>>=λwm=>(pure wm:M Bool)):=by rfl
def iZ:Expr:=(jw (fh (cO (bU nr) 2)) 1)
theorem ae9(ag ai ar aF a5 bR:V)(cb gA eR:Option V):eL iH.names [I ag,I ai,I ar,I aF,I a5,I bR,cb,gA,eR,U,U,U,U] (bM iZ).names=pure [U,U,I aF,I bR]:=by rfl
theorem afb(ag ai:V)(gN:Option V)(aF:V):bindTo (ff (ca iH.names (bM iZ).names)) (eO iZ) aF [U,gN,I ag,I ai]=pure [U,I aF,I ag,I ai]:=by rfl
theorem afa(d:Nat)(ag ai ar:V):ev (av d) (e0 iZ) (ca iH.names (bM iZ).names) [U,I ar,I ag,I ai]=(pure ar:M V):=by rfl
theorem ae7(d:Nat)(ag ai ar:V):tests (av d) (eZ iZ) (ca iH.names (bM iZ).names) [U,I ar,I ag,I ai]=(cmp .In ar ai>>=λt0=>truth t0>>=λfI=>M.cond fI (cmp .NotIn ar ag>>=λbc=>truth bc>>=λgh=>M.cond gh (pure ak:M Bool) (pure aH:M Bool)) (pure aH:M Bool)):=by rfl
theorem ae8:gS (bM iZ).kind (bM iZ).names=ak:=by rfl
def Qc(d:Nat)(ag ai ar aF a5 bR:V)(cb:Option V)(b0:V)(eR:Option V):M (a6×Loc):=(item b0 (V.int 0)>>=λt0=>c1 (dP (av d) aF "append")>>=λg1=>runM (av d) "append" g1 aF [t0]>>=λbc=>item a5 t0>>=λt3=>cc (av d) "kind" t3>>=λb1=>item bR t0>>=λcA=>cc (av d) "kind" cA>>=λdh=>aX d "join" [b1,dh,ar]>>=λdt=>item a5 t0>>=λdj=>cc (av d) "use" dj>>=λfq=>item bR t0>>=λgm=>cc (av d) "use" gm>>=λjQ=>lz fq jQ>>=λh5=>item a5 t0>>=λjP=>d5 (av d) "use" h5 jP>>=λae=>item bR t0>>=λoP=>d5 (av d) "use" h5 oP>>=λae=>(pure (a6.next,[I ag,I ai,I ar,I aF,I a5,I bR,I t0,I b0,I h5,U,U,U,U]):M (a6×Loc)))
theorem ae5(d:Nat)(ag ai ar aF:V)(bC of cb gA eR:Option V):cm (av d) (bU nr) iH.names [I ag,I ai,I ar,I aF,of,eR,cb,gA,bC,U,U,U,U]=(aX d "row_of" [ag]>>=λt0=>item t0 (V.int 0)>>=λt1=>aX d "row_of" [ai]>>=λbc=>item bc (V.int 0)>>=λt3=>el t1>>=λnI=>gw (av d) (e0 iZ) (eO iZ) (eZ iZ) (bM iZ) nI iH.names [I ag,I ai,I ar,I aF,I t1,I t3,cb,gA,bC,U,U,U,U]>>=λcA=>my cA>>=λdh=>bP (.list [])>>=λdt=>cmp .Eq dh dt>>=λdj=>truth dj>>=λmA=>M.cond mA (pure (a6.ret V.none,[I ag,I ai,I ar,I aF,I t1,I t3,cb,I dh,bC,U,U,U,U]):M (a6×Loc)) (Qc d ag ai ar aF t1 t3 cb dh bC)):=by rfl
def Qd(d:Nat)(loc:Loc):M V:=en (av d) (es 2 iH.body) iH.names loc cN
theorem ae6(d:Nat)(ag ai ar:V):aX (d+1) "join_shared" [ag,ai,ar]=(bP (.list [])>>=λt0=>oG (av d) (fh nr) (bU nr) iH.names (I ag::I ai::I ar::I t0::n_9)>>=dA cN (Qd d)):=
 (d7 afc d _).trans (by rfl)
def t8:cX:=fnAt tab10 12
theorem aeJ:tx10.at "need_room" = I t8:=by rfl
def CI:Stmt:=(cO t8.body 0)
def aeF(d:Nat)(ag ai ar aF a5:V):M (a6×Loc):=((cmp .NotIn a5 ag>>=λt0=>truth t0>>=λfI=>M.cond fI (cc (av d) "word" ai>>=λbc=>cmp .Eq bc (V.str "end")>>=λt3=>truth t3>>=λha=>M.cond ha (pure ak:M Bool) (pure aH:M Bool)) (pure aH:M Bool))>>=λog=>M.cond og (M.bad:M (a6×Loc)) (pure (a6.next,[I ag,I ai,I ar,I aF,I a5,U,U,U]):M (a6×Loc)))
theorem aeH(d:Nat)(ag ai ar aF a5:V)(of:Option V):(bindTo (stLoc t8.names) (cy CI) ag [I ai,I ar,I aF,I a5,of,U,U,U]>>=cm (av d) (bU CI) t8.names)=((cmp .NotIn ag aF>>=λt0=>truth t0>>=λfI=>M.cond fI (cc (av d) "word" a5>>=λbc=>cmp .Eq bc (V.str "end")>>=λt3=>truth t3>>=λha=>M.cond ha (pure ak:M Bool) (pure aH:M Bool)) (pure aH:M Bool))>>=λog=>M.cond og (M.bad:M (a6×Loc)) (aeF d ai ar aF a5 ag)):=by rfl
def P9(d:Nat)(loc:Loc):M V:=en (av d) (es 1 t8.body) t8.names loc cN
theorem aeI(d:Nat)(ag ai ar aF:V)(bC:Option V):P9 d [I ag,I ai,I ar,I aF,bC,U,U,U]=(pure V.none:M V):=by rfl
theorem aeG(d:Nat)(ag ai ar aF:V):aX (d+1) "need_room" [ag,ai,ar,aF]=(oe ag>>=λt0=>oe ar>>=λt1=>binop .Add t0 t1>>=λbc=>my bc>>=λt3=>el t3>>=λnI=>eT (av d) (cy CI) (bU CI) nI t8.names [I ag,I ai,I ar,I aF,U,U,U,U]>>=dA cN (P9 d)):=
 (d7 aeJ d _).trans (by rfl)
def hb:cX:=fnAt tab10 13
theorem aft:tx10.at "join_rests" = I hb:=by rfl
def Qh(d:Nat)(loc:Loc):M V:=en (av d) (es 1 hb.body) hb.names loc cN
def Qg(d:Nat)(loc:Loc):M V:=en (av d) (es 2 hb.body) hb.names loc cN
def mG:Expr:=(jw (jw (fh (cO (bU (cO hb.body 9)) 0)) 3) 1)
theorem afm(ag ai ar:V)(c5 bC of cb:Option V)(b0:V):eL hb.names (I ag::I ai::I ar::c5::bC::of::cb::I b0::n_6) (bM mG).names=pure [U,U,c5]:=by rfl
theorem afo(ft ba:Option V)(ar:V):bindTo (ff (ca hb.names (bM mG).names)) (eO mG) ar [U,ba,ft]=pure [U,I ar,ft]:=by rfl
theorem afn(d:Nat)(ft:Option V)(ai:V):ev (av d) (e0 mG) (ca hb.names (bM mG).names) [U,I ai,ft]=(pure ai:M V):=by rfl
theorem afk(d:Nat)(ft:Option V)(ai:V):tests (av d) (eZ mG) (ca hb.names (bM mG).names) [U,I ai,ft]=(bE ft>>=λt0=>cmp .NotIn ai t0>>=λt1=>truth t1>>=λdq=>(pure dq:M Bool)):=by rfl
theorem afl:gS (bM mG).kind (bM mG).names=ak:=by rfl
def H8(d:Nat)(ag ai ar:V)(c5 bC of cb:Option V)(b0:V):M V:=(bE bC>>=λt0=>cc (av d) "word" t0>>=λt1=>cmp .Eq t1 (V.str "unknown")>>=λbc=>truth bc>>=λgh=>M.cond gh (bE bC>>=λb1=>bE of>>=λcA=>bE of>>=λdh=>el dh>>=λxJ=>gw (av d) (e0 mG) (eO mG) (eZ mG) (bM mG) xJ hb.names (I ag::I ai::I ar::c5::bC::of::cb::I b0::n_6)>>=λdj=>my dj>>=λfq=>aX d "become_row" [b1,cA,fq,b0,ar]>>=λgm=>(pure V.none:M V)) (pure V.none:M V))
def mF:Expr:=(jw (jw (fh (cO (bU (cO hb.body 8)) 0)) 3) 1)
theorem afh(ag ai ar:V)(c5 bC of cb:Option V)(b0:V):eL hb.names (I ag::I ai::I ar::c5::bC::of::cb::I b0::n_6) (bM mF).names=pure [U,U,of]:=by rfl
theorem afj(ft ba:Option V)(ar:V):bindTo (ff (ca hb.names (bM mF).names)) (eO mF) ar [U,ba,ft]=pure [U,I ar,ft]:=by rfl
theorem afi(d:Nat)(ft:Option V)(ai:V):ev (av d) (e0 mF) (ca hb.names (bM mF).names) [U,I ai,ft]=(pure ai:M V):=by rfl
theorem aff(d:Nat)(ft:Option V)(ai:V):tests (av d) (eZ mF) (ca hb.names (bM mF).names) [U,I ai,ft]=(bE ft>>=λt0=>cmp .NotIn ai t0>>=λt1=>truth t1>>=λdq=>(pure dq:M Bool)):=by rfl
theorem afg:gS (bM mF).kind (bM mF).names=ak:=by rfl
def H9(d:Nat)(ag ai ar:V)(c5 bC of cb:Option V)(b0:V):M V:=(bE cb>>=λt0=>cc (av d) "word" t0>>=λt1=>cmp .Eq t1 (V.str "unknown")>>=λbc=>truth bc>>=λgh=>M.cond gh (bE cb>>=λb1=>bE c5>>=λcA=>bE c5>>=λdh=>el dh>>=λxJ=>gw (av d) (e0 mF) (eO mF) (eZ mF) (bM mF) xJ hb.names (I ag::I ai::I ar::c5::bC::of::cb::I b0::n_6)>>=λdj=>my dj>>=λfq=>aX d "become_row" [b1,cA,fq,b0,ar]>>=λgm=>H8 d ag ai ar c5 bC of cb b0) (H8 d ag ai ar c5 bC of cb b0))
def Ia(d:Nat)(ag ai ar:V)(c5 bC of cb:Option V)(b0:V):M V:=(bE cb>>=λt0=>cc (av d) "word" t0>>=λt1=>cmp .Eq t1 (V.str "end")>>=λbc=>truth bc>>=λgh=>M.cond gh (bE cb>>=λb1=>H9 d ag ai ar c5 bC of cb b1) (H9 d ag ai ar c5 bC of cb b0))
def Qe(d:Nat)(ag ai ar:V)(c5 bC of cb:Option V):M V:=(aX d "unknown_rest" []>>=λt0=>bE bC>>=λt1=>cc (av d) "word" t1>>=λbc=>cmp .Eq bc (V.str "end")>>=λt3=>truth t3>>=λha=>M.cond ha (bE bC>>=λcA=>Ia d ag ai ar c5 bC of cb cA) (Ia d ag ai ar c5 bC of cb t0))
def Qf(d:Nat)(ag ai ar:V)(c5 bC of cb:Option V):M V:=((bE bC>>=λt0=>cc (av d) "word" t0>>=λt1=>cmp .Eq t1 (V.str "end")>>=λbc=>truth bc>>=λgh=>M.cond gh (bE cb>>=λb1=>cc (av d) "word" b1>>=λcA=>cmp .Eq cA (V.str "end")>>=λdh=>truth dh>>=λtS=>M.cond tS (pure ak:M Bool) (pure aH:M Bool)) (pure aH:M Bool))>>=λtR=>M.cond tR (bE bC>>=λfq=>cc (av d) "use" fq>>=λgm=>bE cb>>=λjQ=>cc (av d) "use" jQ>>=λh5=>lz gm h5>>=λjP=>bE bC>>=λoP=>d5 (av d) "use" jP oP>>=λae=>bE bC>>=λoO=>bE cb>>=λxx=>d5 (av d) "became" oO xx>>=λae=>(pure V.none:M V)) (Qe d ag ai ar c5 bC of cb))
theorem afr(d:Nat)(ag ai ar:V)(c5 bC of cb:Option V):Qg d (I ag::I ai::I ar::c5::bC::of::cb::n_7)=(bE c5>>=λt0=>bE bC>>=λt1=>bE of>>=λbc=>bE cb>>=λt3=>aX d "need_room" [t0,t1,bc,t3]>>=λb1=>bE bC>>=λcA=>bE cb>>=λdh=>cmp .Eq cA dh>>=λdt=>truth dt>>=λtR=>M.cond tR (pure V.none:M V) (Qf d ag ai ar c5 bC of cb)):=by rfl
theorem afs(d:Nat)(ag ai ar:V)(c5 bC:Option V):Qh d (I ag::I ai::I ar::c5::bC::n_9)=(aX d "row_of" [ai]>>=λt0=>bindTo (stLoc hb.names) (cy (cO hb.body 1)) t0 (I ag::I ai::I ar::c5::bC::n_9)>>=Qg d):=by rfl
theorem afe(d:Nat)(ag ai ar:V):aX (d+1) "join_rests" [ag,ai,ar]=(aX d "row_of" [ag]>>=λt0=>bindTo (stLoc hb.names) (cy (cO hb.body 0)) t0 (I ag::I ai::I ar::n_11)>>=Qh d):=
 (d7 aft d _).trans (by rfl)
def afv:cX:=fnAt tab10 14
theorem afu:tx10.at "join" = I afv:=by rfl
def CK(d:Nat)(ag ai ar:V):M V:=(aX d "top" [ag]>>=λt0=>aX d "top" [ai]>>=λt1=>cmp .NotEq t0 t1>>=λbc=>truth bc>>=λgh=>M.cond gh (cc (av d) "use" t0>>=λb1=>cc (av d) "use" t1>>=λcA=>lz b1 cA>>=λdh=>d5 (av d) "use" dh t0>>=λae=>d5 (av d) "became" t0 t1>>=λae=>(pure V.none:M V)) (pure V.none:M V))
def ae3(d:Nat)(ag ai ar:V):M V:=(cc (av d) "word" ag>>=λt0=>cmp .Eq t0 (V.str "unknown")>>=λt1=>truth t1>>=λdq=>M.cond dq (aX d "become" [ag,ai,ar]>>=λt3=>(pure V.none:M V)) (cc (av d) "word" ai>>=λb1=>cmp .Eq b1 (V.str "unknown")>>=λcA=>truth cA>>=λqB=>M.cond qB (aX d "become" [ai,ag,ar]>>=λdt=>(pure V.none:M V)) (cc (av d) "word" ag>>=λdj=>cc (av d) "word" ai>>=λfq=>cmp .NotEq dj fq>>=λgm=>truth gm>>=λqC=>M.cond qC (M.bad:M V) (cc (av d) "word" ag>>=λh5=>cmp .Eq h5 (V.str "record")>>=λjP=>truth jP>>=λzd=>M.cond zd (aX d "join_shared" [ag,ai,ar]>>=λoO=>aX d "join_rests" [ag,ai,ar]>>=λxx=>CK d ag ai ar) (CK d ag ai ar)))))
theorem afd(d:Nat)(ag ai ar:V):aX (d+1) "join" [ag,ai,ar]=(aX d "top" [ag]>>=λt0=>aX d "top" [ai]>>=λt1=>cmp .Eq t0 t1>>=λbc=>truth bc>>=λgh=>M.cond gh (pure V.none:M V) (ae3 d t0 t1 ar)):=
 (d7 afu d _).trans (by rfl)
def ua:cX:=fnAt tab10 15
theorem afN:tx10.at "fresh" = I ua:=by rfl
def CN:Stmt:=(cO ua.body 4)
theorem afL(d:Nat)(ag ai ar aF a5 bR:V)(cb gA:Option V):(bindTo (stLoc ua.names) (cy CN) (.tup [ag,ai]) (I ar::I aF::I a5::I bR::cb::gA::n_7)>>=cm (av d) (bU CN) ua.names)=(aX d "fresh" [ai,aF,a5]>>=λt0=>aX d "field" [ag,t0,a5,bR]>>=λt1=>(pure (a6.next,(I ar::I aF::I a5::I t1::I ag::I ai::n_7)):M (a6×Loc))):=by rfl
def Ql(d:Nat)(loc:Loc):M V:=en (av d) (es 5 ua.body) ua.names loc cN
theorem afM(d:Nat)(ag ai ar aF:V)(bC of:Option V):Ql d (I ag::I ai::I ar::I aF::bC::of::n_7)=(fv (av d) "Spot" [(V.str "record"),ar,aF]>>=λt0=>(pure t0:M V)):=by rfl
def CM(d:Nat)(ag ai ar aF:V):M V:=(item ag (V.int 1)>>=λt0=>uY t0>>=λs1=>eT (av d) (cy CN) (bU CN) s1 ua.names (I ag::I ai::I ar::I aF::n_9)>>=dA cN (Ql d))
def afI(d:Nat)(ag ai ar:V):M V:=(fv (av d) "Tail" [(V.str "end"),ar,V.none]>>=λt0=>item ag (V.int 2)>>=λt1=>cmp .IsNot t1 V.none>>=λbc=>truth bc>>=λgh=>M.cond gh (c1 (dP (av d) ai "setdefault")>>=λgP=>item ag (V.int 2)>>=λcA=>aX d "unknown_rest" []>>=λdh=>runM (av d) "setdefault" gP ai [cA,dh]>>=λdt=>CM d ag ai ar dt) (CM d ag ai ar t0))
def afJ(d:Nat)(ag ai ar:V):M V:=(item ag (V.int 0)>>=λt0=>cmp .Eq t0 (V.str "blank")>>=λt1=>truth t1>>=λdq=>M.cond dq (c1 (dP (av d) ai "setdefault")>>=λg3=>item ag (V.int 1)>>=λb1=>aX d "unknown_kind" []>>=λcA=>runM (av d) "setdefault" g3 ai [b1,cA]>>=λdh=>(pure dh:M V)) (afI d ag ai ar))
theorem afK(d:Nat)(ag ai ar:V):aX (d+1) "fresh" [ag,ai,ar]=(item ag (V.int 0)>>=λt0=>cmp .Eq t0 (V.str "number")>>=λt1=>truth t1>>=λdq=>M.cond dq (fv (av d) "Spot" [(V.str "number"),ar,V.none]>>=λt3=>(pure t3:M V)) (afJ d ag ai ar)):=
 (d7 afN d _).trans (by rfl)
def sg:cX:=fnAt tab10 16
theorem aeY:tx10.at "kind_of" = I sg:=by rfl
def jA:Expr:=(jw (fh (cO sg.body 0)) 1)
theorem aeV(ag ai:V):eL sg.names [I ag,I ai,U,U] (bM jA).names=pure [U,U,I ai]:=by rfl
theorem aeX(ag:V)(ba:Option V)(ar:V):bindTo (ff (ca sg.names (bM jA).names)) (eO jA) ar [U,ba,I ag]=pure [U,I ar,I ag]:=by rfl
theorem aeW(d:Nat)(ag ai:V):ev (av d) (e0 jA) (ca sg.names (bM jA).names) [U,I ai,I ag]=(c1 (dP (av d) ag "told")>>=λmq=>runM (av d) "told" mq ag [ai,(V.int 1)]>>=λt1=>(pure t1:M V)):=by rfl
theorem aeT(d:Nat)(loc:Loc):tests (av d) (eZ jA) (ca sg.names (bM jA).names) loc=(pure ak:M Bool):=by rfl
theorem aeU:gS (bM jA).kind (bM jA).names=ak:=by rfl
theorem aeS(d:Nat)(ag ai:V):aX (d+1) "kind_of" [ag,ai]=(cc (av d) "inputs" ag>>=λt0=>el t0>>=λs1=>gw (av d) (e0 jA) (eO jA) (eZ jA) (bM jA) s1 sg.names [I ag,I ai,U,U]>>=λbc=>ly bc>>=λt3=>c1 (dP (av d) ai "told")>>=λgP=>c1 (dP (av d) ag "result")>>=λic=>runM (av d) "result" ic ag []>>=λdh=>runM (av d) "told" gP ai [dh,(V.int 1)]>>=λdt=>(pure (V.tup [t3,dt]):M V)):=
 (d7 aeY d _).trans (by rfl)
def pN:cX:=fnAt tab10 17
theorem ae2:tx10.at "judged" = I pN:=by rfl
def t9:Stmt:=(cO pN.body 2)
theorem ae0(d:Nat)(ag ai ar aF a5 bR:V)(cb gA eR jo:Option V):(bindTo (stLoc pN.names) (cy t9) (.tup [ag,ai,ar]) [I aF,I a5,I bR,cb,jo,eR,gA,U,U,U,U,U]>>=cm (av d) (bU t9) pN.names)=(fv (av d) "Found" [a5,ai,ar]>>=λt0=>M.k3 (c1 (dP (av d) t0 "go")>>=λg1=>runM (av d) "go" g1 t0 []>>=λbc=>(pure bc:M V)) (λt3=>fv (av d) "Teller" []>>=λb1=>aX d "kind_of" [t0,b1]>>=λcA=>setItem a5 ag cA>>=λae=>c1 (dP (av d) bR "append")>>=λlr=>item a5 ag>>=λdt=>runM (av d) "append" lr bR [dt]>>=λdj=>(pure (a6.next,[I aF,I a5,I bR,I ag,I ai,I ar,I t0,U,U,U,U,U]):M (a6×Loc))) (λalm=>(M.bad:M (a6×Loc))>>=(dA (λx=>pure x) (λbJ=>en (av d) (es 2 (bU t9)) pN.names bJ (λx=>pure x))))):=by rfl
def Qb(d:Nat)(loc:Loc):M V:=en (av d) (es 3 pN.body) pN.names loc cN
theorem ae1(d:Nat)(ag ai ar:V)(c5 bC of cb:Option V):Qb d [I ag,I ai,I ar,c5,cb,of,bC,U,U,U,U,U]=(pure (V.tup [(V.str "good"),ar]):M V):=by rfl
theorem aeZ(d:Nat)(ag:V):aX (d+1) "judged" [ag]=(bP (.dict 0 [])>>=λt0=>bP (.list [])>>=λt1=>el ag>>=λs2=>eT (av d) (cy t9) (bU t9) s2 pN.names (I ag::I t0::I t1::n_9)>>=dA cN (Qb d)):=
 (d7 ae2 d _).trans (by rfl)
def kU:cX:=fnAt tab10 18
theorem aeR:tx10.at "marked" = I kU:=by rfl
def CJ:Stmt:=(cO kU.body 4)
theorem aeO(d:Nat)(ag ai ar aF a5:V)(of:Option V):(bindTo (stLoc kU.names) (cy CJ) ag (I ai::I ar::I aF::I a5::of::n_11)>>=cm (av d) (bU CJ) kU.names)=(item aF ag>>=λt0=>item ai ag>>=λt1=>item t1 (V.int 0)>>=λbc=>setItem a5 bc t0>>=λae=>(pure (a6.next,(I ai::I ar::I aF::I a5::I ag::n_11)):M (a6×Loc))):=by rfl
def H7(d:Nat)(loc:Loc):M V:=en (av d) (es 5 kU.body) kU.names loc cN
def wI:Stmt:=(cO kU.body 10)
theorem aeN(d:Nat)(ag ai ar aF a5:V)(of:Option V)(cp b0 dS:V)(jo:Option V):(bindTo (stLoc kU.names) (cy wI) ag (I ai::I ar::I aF::I a5::of::I cp::I b0::I dS::jo::n_7)>>=cm (av d) (bU wI) kU.names)=(d5 (av d) "knots" (V.int 0) b0>>=λae=>c1 (dP (av d) dS "append")>>=λmq=>c1 (dP (av d) b0 "told")>>=λg1=>cc (av d) "at" cp>>=λbc=>item bc ag>>=λt3=>runM (av d) "told" g1 b0 [t3,(V.int 1)]>>=λb1=>runM (av d) "append" mq dS [b1]>>=λcA=>(pure (a6.next,(I ai::I ar::I aF::I a5::of::I cp::I b0::I dS::I ag::n_7)):M (a6×Loc))):=by rfl
def Qa(d:Nat)(loc:Loc):M V:=en (av d) (es 11 kU.body) kU.names loc cN
theorem aeP(d:Nat)(ag ai ar aF:V)(bC:Option V)(bR cp b0:V)(eR:Option V):Qa d (I ag::I ai::I ar::I aF::bC::I bR::I cp::I b0::eR::n_7)=(pure b0:M V):=by rfl
theorem aeQ(d:Nat)(ag ai ar aF:V)(bC:Option V):H7 d (I ag::I ai::I ar::I aF::bC::n_11)=(item ag ai>>=λt0=>item t0 (V.int 1)>>=λt1=>item ag ai>>=λbc=>item bc (V.int 2)>>=λt3=>fv (av d) "Found" [aF,t1,t3]>>=λb1=>c1 (dP (av d) b1 "go")>>=λic=>runM (av d) "go" ic b1 []>>=λdh=>fv (av d) "Teller" []>>=λdt=>aX d "kind_of" [b1,dt]>>=λdj=>bP (.list [])>>=λfq=>cc (av d) "order" b1>>=λgm=>el gm>>=λEO=>eT (av d) (cy wI) (bU wI) EO kU.names (I ag::I ai::I ar::I aF::bC::I b1::I dt::I fq::n_8)>>=dA cN (Qa d)):=by rfl
def aeK(d:Nat)(ag ai ar:V):M V:=(bP (.dict 0 [])>>=λt0=>k6 ai>>=λs1=>eT (av d) (cy CJ) (bU CJ) s1 kU.names (I ag::I ai::I ar::I t0::n_12)>>=dA cN (H7 d))
def aeL(d:Nat)(ag ai:V):M V:=(binop .Add ai (V.int 1)>>=λt0=>bound V.none>>=λcL=>bound t0>>=λdf=>iP cL df ag>>=λt3=>aX d "judged" [t3]>>=λb1=>item b1 (V.int 1)>>=λcA=>jx cA>>=λdh=>cmp .LtE dh ai>>=λdt=>truth dt>>=λtR=>M.cond tR (M.bad:M V) (aeK d ag ai cA))
theorem aeM(d:Nat)(ag ai:V):aX (d+1) "marked" [ag,ai]=((cmp .LtE (V.int 0) ai>>=λt0=>y8 t0 (jx ag>>=λt1=>cmp .Lt ai t1>>=λbc=>(pure bc:M V)) (pure (V.bool aH):M V))>>=λt3=>truth t3>>=λha=>M.cond (!ha) (M.bad:M V) (aeL d ag ai)):=
 (d7 aeR d _).trans (by rfl)
def aiC:cX:=fnAt tab10 19
theorem aiB:tx10.at "_law_cell" = I aiC:=by rfl
def aiz(d:Nat)(ag ai:V):M V:=(pure (V.int 0):M V)
theorem aiA(d:Nat)(ag ai:V):aX (d+1) "_law_cell" [ag,ai]=(jx ag>>=λt0=>cmp .Lt ai t0>>=λt1=>truth t1>>=λdq=>M.cond dq (item ag ai>>=λt3=>binop .Mult t3 (V.int 48271)>>=λb1=>binop .Mod b1 (V.int 2147483647)>>=λcA=>(pure cA:M V)) (aiz d ag ai)):=
 (d7 aiB d _).trans (by rfl)
def mM:cX:=fnAt tab10 20
theorem ah8:tx10.at "_law_labels" = I mM:=by rfl
def mL:Expr:=(jw (fh (cO mM.body 4)) 1)
theorem ah4(ag ai ar aF a5 bR:V):eL mM.names [I ag,I ai,I ar,I aF,I a5,I bR,U,U,U,U,U] (bM mL).names=pure [U,U,I ag,I ar,I bR]:=by rfl
theorem ah6(ag ai ar:V)(c5:Option V)(a5:V):bindTo (ff (ca mM.names (bM mL).names)) (eO mL) a5 [U,c5,I ag,I ai,I ar]=pure [U,I a5,I ag,I ai,I ar]:=by rfl
theorem ah5(d:Nat)(ag ai ar aF:V):ev (av d) (e0 mL) (ca mM.names (bM mL).names) [U,I aF,I ag,I ai,I ar]=(binop .FloorDiv ag (V.int 1274)>>=λt0=>binop .Mult t0 aF>>=λt1=>binop .Add ar t1>>=λbc=>binop .Mod bc (V.int 26)>>=λt3=>item ai t3>>=λb1=>(pure b1:M V)):=by rfl
theorem ah2(d:Nat)(loc:Loc):tests (av d) (eZ mL) (ca mM.names (bM mL).names) loc=(pure ak:M Bool):=by rfl
theorem ah3:gS (bM mL).kind (bM mL).names=ak:=by rfl
def CV:Stmt:=(cO mM.body 6)
theorem ah1(d:Nat)(ag ai ar aF a5 bR cp b0 dS:V)(jo ok:Option V):(bindTo (stLoc mM.names) (cy CV) ag [I ai,I ar,I aF,I a5,I bR,I cp,ok,I b0,I dS,jo,U]>>=cm (av d) (bU CV) mM.names)=(binop .FloorDiv ai (V.int 49)>>=λt0=>binop .Mult (V.int 3) ag>>=λt1=>binop .Add t0 t1>>=λbc=>binop .Mod bc (V.int 26)>>=λt3=>item aF t3>>=λb1=>c1 (dP (av d) dS "append")>>=λic=>bound V.none>>=λnX=>bound bR>>=λZb=>iP nX Zb b0>>=λdj=>binop .Add dj b1>>=λfq=>bound bR>>=λZd=>bound V.none>>=λZc=>iP Zd Zc b0>>=λh5=>binop .Add fq h5>>=λjP=>runM (av d) "append" ic dS [jP]>>=λoP=>(pure (a6.next,[I ai,I ar,I aF,I a5,I bR,I cp,I ag,I b0,I dS,I b1,U]):M (a6×Loc))):=by rfl
def QT(d:Nat)(loc:Loc):M V:=en (av d) (es 7 mM.body) mM.names loc cN
theorem ah7(d:Nat)(ag ai ar aF a5 bR cp b0:V)(eR jo:Option V):QT d [I ag,I ai,I ar,I aF,I a5,I bR,jo,I cp,I b0,eR,U]=(pure b0:M V):=by rfl
theorem ah0(d:Nat)(ag ai:V):aX (d+1) "_law_labels" [ag,ai]=(binop .Mod ag (V.int 7)>>=λt0=>binop .FloorDiv ag (V.int 7)>>=λt1=>binop .Add t0 (V.int 1)>>=λbc=>binop .Mod t1 bc>>=λt3=>binop .FloorDiv ag (V.int 49)>>=λb1=>binop .Mod b1 (V.int 26)>>=λcA=>c1 (dP (av d) (V.str "") "join")>>=λlr=>k6 t0>>=λxJ=>gw (av d) (e0 mL) (eO mL) (eZ mL) (bM mL) xJ mM.names [I ag,I ai,I (V.str "abcdefghijklmnopqrstuvwxyz"),I t0,I t3,I cA,U,U,U,U,U]>>=λdj=>runM (av d) "join" lr (V.str "") [dj]>>=λfq=>bP (.list [])>>=λgm=>k6 ai>>=λEO=>eT (av d) (cy CV) (bU CV) EO mM.names [I ag,I ai,I (V.str "abcdefghijklmnopqrstuvwxyz"),I t0,I t3,I cA,U,I fq,I gm,U,U]>>=dA cN (QT d)):=
 (d7 ah8 d _).trans (by rfl)
def ue:cX:=fnAt tab10 21
theorem ahs:tx10.at "_law_path" = I ue:=by rfl
def CS:Stmt:=(cO ue.body 1)
theorem ahq(d:Nat)(ag ai ar aF a5:V)(of:Option V):(bindTo (stLoc ue.names) (cy CS) ag [I ai,I ar,I aF,I a5,of,U]>>=cm (av d) (bU CS) ue.names)=(c1 (dP (av d) a5 "append")>>=λmq=>binop .Mod ai (V.int 4)>>=λt1=>item aF t1>>=λbc=>runM (av d) "append" mq a5 [bc]>>=λt3=>binop .FloorDiv ai (V.int 4)>>=λb1=>(pure (a6.next,[I b1,I ar,I aF,I a5,I ag,U]):M (a6×Loc))):=by rfl
def QI(d:Nat)(loc:Loc):M V:=en (av d) (es 2 ue.body) ue.names loc cN
theorem ahr(d:Nat)(ag ai ar aF:V)(bC:Option V):QI d [I ag,I ai,I ar,I aF,bC,U]=(pure aF:M V):=by rfl
theorem ahp(d:Nat)(ag ai ar:V):aX (d+1) "_law_path" [ag,ai,ar]=(bP (.list [])>>=λt0=>k6 ai>>=λs1=>eT (av d) (cy CS) (bU CS) s1 ue.names [I ag,I ai,I ar,I t0,U,U]>>=dA cN (QI d)):=
 (d7 ahs d _).trans (by rfl)
def ahw:cX:=fnAt tab10 22
theorem ahv:tx10.at "_law_open" = I ahw:=by rfl
def ahu(d:Nat)(ag ai ar:V):M V:=(bound (V.int 1)>>=λl8=>bound V.none>>=λcL=>iP l8 cL ag>>=λbc=>aX d "_law_open" [bc,ai,ar]>>=λt3=>c1 (dP (av d) ar "append")>>=λgP=>runM (av d) "append" gP ar [(V.int 0)]>>=λcA=>item ag (V.int 0)>>=λdh=>jx ar>>=λdt=>binop .Sub dt (V.int 1)>>=λdj=>(pure (V.tup [(V.str "record"),(V.tup [(V.tup [dh,t3])]),dj]):M V))
def aht(d:Nat)(ag ai ar:V):M V:=(pure ai:M V)
theorem QJ(d:Nat)(ag ai ar:V):aX (d+1) "_law_open" [ag,ai,ar]=(bP (.list [])>>=λt0=>cmp .Eq ag t0>>=λt1=>truth t1>>=λdq=>M.cond dq (cmp .Is ai V.none>>=λt3=>truth t3>>=λha=>M.cond ha (c1 (dP (av d) ar "append")>>=λic=>runM (av d) "append" ic ar [(V.int 0)]>>=λdh=>jx ar>>=λdt=>binop .Sub dt (V.int 1)>>=λdj=>(pure (V.tup [(V.str "blank"),dj]):M V)) (aht d ag ai ar)) (ahu d ag ai ar)):=
 (d7 ahv d _).trans (by rfl)
def ahM:cX:=fnAt tab10 23
theorem ahL:tx10.at "_law_made" = I ahM:=by rfl
def QO(d:Nat)(ag ai ar aF:V):M V:=(ly aF>>=λt0=>(pure (V.tup [(V.str "make"),t0]):M V))
def ahK(d:Nat)(ag ai ar:V):M V:=(item ag (V.int 0)>>=λt0=>bound (V.int 1)>>=λcL=>bound V.none>>=λdf=>iP cL df ag>>=λt3=>binop .FloorDiv ai (V.int 2)>>=λb1=>binop .Add ar (V.int 1)>>=λcA=>aX d "_law_made" [t3,b1,cA]>>=λdh=>bP (.list [(V.tup [t0,dh])])>>=λdt=>((binop .FloorDiv ai (V.int 4)>>=λdj=>binop .Mod dj (V.int 2)>>=λfq=>cmp .Eq fq (V.int 1)>>=λgm=>truth gm>>=λqC=>M.cond qC (item ag (V.int 0)>>=λh5=>cmp .NotEq h5 (V.str "zzzzzzzz")>>=λjP=>truth jP>>=λzd=>M.cond zd (pure ak:M Bool) (pure aH:M Bool)) (pure aH:M Bool))>>=λHH=>M.cond HH (bP (.list [(V.tup [(V.str "zzzzzzzz"),(V.tup [(V.str "number"),(V.int 2)])])])>>=λxx=>binop .Add xx dt>>=λEr=>QO d ag ai ar Er) (QO d ag ai ar dt)))
theorem QP(d:Nat)(ag ai ar:V):aX (d+1) "_law_made" [ag,ai,ar]=(bP (.list [])>>=λt0=>cmp .Eq ag t0>>=λt1=>truth t1>>=λdq=>M.cond dq (binop .Mod ai (V.int 2)>>=λt3=>cmp .Eq t3 (V.int 0)>>=λb1=>truth b1>>=λog=>M.cond og (pure (V.tup [(V.str "number"),ar]):M V) (pure (V.tup [(V.str "make"),(V.tup [(V.tup [(V.str "x"),(V.tup [(V.str "number"),(V.int 1)])])])]):M V)) (ahK d ag ai ar)):=
 (d7 ahL d _).trans (by rfl)
def ahz:cX:=fnAt tab10 24
theorem ahy:tx10.at "_law_of_made" = I ahz:=by rfl
def QK(d:Nat)(ag ai ar:V):M V:=(my ar>>=λt0=>ly t0>>=λt1=>(pure (V.tup [(V.str "record"),t1,V.none]):M V))
def ahx(d:Nat)(ag ai:V):M V:=(item ag (V.int 0)>>=λt0=>bound (V.int 1)>>=λcL=>bound V.none>>=λdf=>iP cL df ag>>=λt3=>binop .FloorDiv ai (V.int 2)>>=λb1=>aX d "_law_of_made" [t3,b1]>>=λcA=>bP (.list [(V.tup [t0,cA])])>>=λdh=>((binop .FloorDiv ai (V.int 4)>>=λdt=>binop .Mod dt (V.int 2)>>=λdj=>cmp .Eq dj (V.int 1)>>=λfq=>truth fq>>=λHI=>M.cond HI (item ag (V.int 0)>>=λjQ=>cmp .NotEq jQ (V.str "zzzzzzzz")>>=λh5=>truth h5>>=λadE=>M.cond adE (pure ak:M Bool) (pure aH:M Bool)) (pure aH:M Bool))>>=λzd=>M.cond zd (c1 (dP (av d) dh "append")>>=λaaP=>runM (av d) "append" aaP dh [(V.tup [(V.str "zzzzzzzz"),(V.tup [(V.str "number")])])]>>=λxx=>QK d ag ai dh) (QK d ag ai dh)))
theorem QL(d:Nat)(ag ai:V):aX (d+1) "_law_of_made" [ag,ai]=(bP (.list [])>>=λt0=>cmp .Eq ag t0>>=λt1=>truth t1>>=λdq=>M.cond dq (binop .Mod ai (V.int 2)>>=λt3=>cmp .Eq t3 (V.int 0)>>=λb1=>truth b1>>=λog=>M.cond og (pure (V.tup [(V.str "number")]):M V) (pure (V.tup [(V.str "record"),(V.tup [(V.tup [(V.str "x"),(V.tup [(V.str "number")])])]),V.none]):M V)) (ahx d ag ai)):=
 (d7 ahy d _).trans (by rfl)
def uh:cX:=fnAt tab10 25
theorem aii:tx10.at "_law_got" = I uh:=by rfl
def CX:Stmt:=(cO uh.body 0)
theorem aif(d:Nat)(ag ai ar:V)(c5:Option V):(bindTo (stLoc uh.names) (cy CX) ag [I ai,I ar,c5]>>=cm (av d) (bU CX) uh.names)=(pure (a6.next,[I (V.tup [(V.str "get"),ai,ag]),I ar,I ag]):M (a6×Loc)):=by rfl
def QW(d:Nat)(loc:Loc):M V:=en (av d) (es 1 uh.body) uh.names loc cN
theorem aih(d:Nat)(ag ai:V)(gN:Option V):QW d [I ag,I ai,gN]=(pure ag:M V):=by rfl
theorem aie(d:Nat)(ag ai:V):aX (d+1) "_law_got" [ag,ai]=(el ai>>=λs0=>eT (av d) (cy CX) (bU CX) s0 uh.names [I ag,I ai,U]>>=dA cN (QW d)):=
 (d7 aii d _).trans (by rfl)
def aho:cX:=fnAt tab10 26
theorem ahn:tx10.at "_law_put" = I aho:=by rfl
def ahl(d:Nat)(ag ai:V):M V:=(item ai (V.int 0)>>=λt0=>item ai (V.int 0)>>=λt1=>bound (V.int 1)>>=λdf=>bound V.none>>=λvD=>iP df vD ai>>=λb1=>aX d "_law_put" [(V.tup [(V.str "get"),ag,t1]),b1]>>=λcA=>(pure (V.tup [(V.str "put"),ag,t0,cA]):M V))
theorem ahm(d:Nat)(ag ai:V):aX (d+1) "_law_put" [ag,ai]=(jx ai>>=λt0=>cmp .Eq t0 (V.int 1)>>=λt1=>truth t1>>=λdq=>M.cond dq (item ai (V.int 0)>>=λt3=>(pure (V.tup [(V.str "put"),ag,t3,(V.tup [(V.str "number"),(V.int 7)])]):M V)) (ahl d ag ai)):=
 (d7 ahn d _).trans (by rfl)
def ui:cX:=fnAt tab10 27
theorem aiy:tx10.at "_law_changed" = I ui:=by rfl
def CZ:Stmt:=(cO ui.body 2)
theorem aiw(d:Nat)(ag ai ar aF a5:V)(of cb:Option V):(bindTo (stLoc ui.names) (cy CZ) (.tup [ag,ai]) [I ar,I aF,I a5,of,cb,U,U]>>=cm (av d) (bU CZ) ui.names)=(c1 (dP (av d) a5 "append")>>=λmq=>((item aF (V.int 0)>>=λt1=>cmp .Eq ag t1>>=λbc=>truth bc>>=λgh=>M.cond gh (bound (V.int 1)>>=λBl=>bound V.none>>=λnY=>iP Bl nY aF>>=λdh=>aX d "_law_changed" [ai,dh]>>=λdt=>(pure dt:M V)) (pure ai:M V))>>=λdj=>runM (av d) "append" mq a5 [(V.tup [ag,dj])]>>=λfq=>(pure (a6.next,[I ar,I aF,I a5,I ag,I ai,U,U]):M (a6×Loc)))):=by rfl
def Q0(d:Nat)(loc:Loc):M V:=en (av d) (es 3 ui.body) ui.names loc cN
theorem aix(d:Nat)(ag ai ar:V)(c5 bC:Option V):Q0 d [I ag,I ai,I ar,c5,bC,U,U]=(ly ar>>=λt0=>item ag (V.int 2)>>=λt1=>(pure (V.tup [(V.str "record"),t0,t1]):M V)):=by rfl
def aiv(d:Nat)(ag ai:V):M V:=(bP (.list [])>>=λt0=>item ag (V.int 1)>>=λt1=>el t1>>=λs2=>eT (av d) (cy CZ) (bU CZ) s2 ui.names [I ag,I ai,I t0,U,U,U,U]>>=dA cN (Q0 d))
theorem QZ(d:Nat)(ag ai:V):aX (d+1) "_law_changed" [ag,ai]=(bP (.list [])>>=λt0=>cmp .Eq ai t0>>=λt1=>truth t1>>=λdq=>M.cond dq (pure (V.tup [(V.str "number")]):M V) (aiv d ag ai)):=
 (d7 aiy d _).trans (by rfl)
def uj:cX:=fnAt tab10 28
theorem aiG:tx10.at "_law_at" = I uj:=by rfl
def C0:Stmt:=(cO uj.body 0)
theorem aiE(d:Nat)(ag ai ar:V)(c5:Option V):(bindTo (stLoc uj.names) (cy C0) ag [I ai,I ar,c5,U]>>=cm (av d) (bU C0) uj.names)=(item ai (V.int 1)>>=λt0=>r1 t0>>=λt1=>item t1 ag>>=λbc=>(pure (a6.next,[I bc,I ar,I ag,U]):M (a6×Loc))):=by rfl
def Q1(d:Nat)(loc:Loc):M V:=en (av d) (es 1 uj.body) uj.names loc cN
theorem aiF(d:Nat)(ag ai:V)(gN:Option V):Q1 d [I ag,I ai,gN,U]=(pure ag:M V):=by rfl
theorem aiD(d:Nat)(ag ai:V):aX (d+1) "_law_at" [ag,ai]=(el ai>>=λs0=>eT (av d) (cy C0) (bU C0) s0 uj.names [I ag,I ai,U,U]>>=dA cN (Q1 d)):=
 (d7 aiG d _).trans (by rfl)
def uf:cX:=fnAt tab10 29
theorem ahD:tx10.at "_law_nest" = I uf:=by rfl
def CT:Stmt:=(cO uf.body 0)
theorem ahB(d:Nat)(ag ai ar:V)(c5:Option V):(bindTo (stLoc uf.names) (cy CT) ag [I ai,I ar,c5]>>=cm (av d) (bU CT) uf.names)=(pure (a6.next,[I ai,I (V.tup [(V.str "make"),(V.tup [(V.tup [ag,ar])])]),I ag]):M (a6×Loc)):=by rfl
def QM(d:Nat)(loc:Loc):M V:=en (av d) (es 1 uf.body) uf.names loc cN
theorem ahC(d:Nat)(ag ai:V)(gN:Option V):QM d [I ag,I ai,gN]=(pure ai:M V):=by rfl
theorem ahA(d:Nat)(ag ai:V):aX (d+1) "_law_nest" [ag,ai]=(el ag>>=λs0=>eT (av d) (cy CT) (bU CT) s0 uf.names [I ag,I ai,U]>>=dA cN (QM d)):=
 (d7 ahD d _).trans (by rfl)
def ud:cX:=fnAt tab10 30
theorem ahk:tx10.at "_law_wide" = I ud:=by rfl
def mK:Expr:=(jw (jw (fh (cO ud.body 0)) 1) 1)
theorem ahh(ag ai:V):eL ud.names [I ag,I ai,U] (bM mK).names=pure [U,U,I ai]:=by rfl
theorem ahj(ag:V)(ba:Option V)(ar:V):bindTo (ff (ca ud.names (bM mK).names)) (eO mK) ar [U,ba,I ag]=pure [U,I ar,I ag]:=by rfl
theorem ahi(d:Nat)(ag ai:V):ev (av d) (e0 mK) (ca ud.names (bM mK).names) [U,I ai,I ag]=(pure (V.tup [ai,ag]):M V):=by rfl
theorem ahf(d:Nat)(loc:Loc):tests (av d) (eZ mK) (ca ud.names (bM mK).names) loc=(pure ak:M Bool):=by rfl
theorem ahg:gS (bM mK).kind (bM mK).names=ak:=by rfl
theorem ahe(d:Nat)(ag ai:V):aX (d+1) "_law_wide" [ag,ai]=(el ag>>=λs0=>gw (av d) (e0 mK) (eO mK) (eZ mK) (bM mK) s0 ud.names [I ag,I ai,U]>>=λt1=>ly t1>>=λbc=>(pure (V.tup [(V.str "make"),bc]):M V)):=
 (d7 ahk d _).trans (by rfl)
def qK:cX:=fnAt tab10 31
theorem ahJ:tx10.at "_law_marks_great" = I qK:=by rfl
def CU:Stmt:=(cO qK.body 1)
theorem ahG(d:Nat)(ag ai ar aF a5 bR:V)(cb:Option V):(bindTo (stLoc qK.names) (cy CU) ag (I ai::I ar::I aF::I a5::I bR::cb::n_9)>>=cm (av d) (bU CU) qK.names)=(pure (a6.next,(I ai::I ar::I aF::I a5::I (V.tup [(V.str "call"),(V.str "f"),(V.tup [bR])])::I ag::n_9)):M (a6×Loc)):=by rfl
def QN(d:Nat)(loc:Loc):M V:=en (av d) (es 2 qK.body) qK.names loc cN
def ahH(d:Nat)(ag ai ar aF a5:V)(of:Option V)(cp b0 dS:V):M (a6×Loc):=(cmp .Is dS V.none>>=λt0=>(pure (a6.ret t0,(I ag::I ai::I ar::I aF::I a5::of::I cp::I b0::I dS::n_6)):M (a6×Loc)))
def ahE(d:Nat)(ag ai ar aF a5:V)(of:Option V)(cp b0:V):M V:=(aX d "_law_due_nest" [ai,ar,aF,(V.int 2)]>>=λt0=>(M.k3 (aX d "marked" [b0,(V.int 1)]>>=λt1=>(pure t1:M V)) (λbc=>cmp .IsNot t0 V.none>>=λt3=>truth t3>>=λha=>M.cond ha (bound (V.int (-4))>>=λnY=>bound (V.int (-2))>>=λnX=>iP nY nX bc>>=λdt=>item t0 (V.int 1)>>=λdj=>bP (.list [dj,(V.tup [(V.str "number")])])>>=λfq=>cmp .Eq dt fq>>=λgm=>(pure gm:M V)) (pure t3:M V)) (λacq=>(yO (av d) (aB "TooGreat") acq>>=λb=>if b=ak then M.safe (ahH d ag ai ar aF a5 of cp b0 t0) else M.bad)>>=(dA cN (λbJ=>en (av d) (es 7 qK.body) qK.names bJ cN)))))
theorem ahI(d:Nat)(ag ai ar aF a5:V)(of:Option V):QN d (I ag::I ai::I ar::I aF::I a5::of::n_9)=(bP (.list [(V.tup [(V.str "h"),(V.int 1),(V.tup [(V.str "get"),(V.tup [(V.str "make"),(V.tup [(V.tup [(V.str "p"),a5]),(V.tup [(V.str "q"),(V.tup [(V.str "number"),(V.int 3)])])])]),(V.str "q")])])])>>=λt0=>binop .Add ag t0>>=λt1=>aX d "judged" [t1]>>=λbc=>item bc (V.int 1)>>=λt3=>item t3 (V.int (-1))>>=λb1=>cmp .NotEq b1 (V.tup [(V.tup [(V.tup [(V.str "blank"),(V.int 0)])]),(V.tup [(V.str "number")])])>>=λcA=>truth cA>>=λqB=>M.cond qB (pure (V.bool aH):M V) (ahE d ag ai ar aF a5 of (V.tup [(V.str "get"),(V.tup [(V.str "make"),(V.tup [(V.tup [(V.str "p"),a5]),(V.tup [(V.str "q"),(V.tup [(V.str "number"),(V.int 3)])])])]),(V.str "q")]) t1)):=by rfl
theorem ahF(d:Nat)(ag ai ar aF:V):aX (d+1) "_law_marks_great" [ag,ai,ar,aF]=(k6 aF>>=λs0=>eT (av d) (cy CU) (bU CU) s0 qK.names (I ag::I ai::I ar::I aF::I (V.tup [(V.str "input"),(V.int 0)])::n_10)>>=dA cN (QN d)):=
 (d7 ahJ d _).trans (by rfl)
def iI:cX:=fnAt tab10 32
theorem aiu:tx10.at "_law_due_nest" = I iI:=by rfl
def ov:Stmt:=(cO iI.body 3)
def mN:Expr:=(jw (jw (fh (cO (bU (cO (bU ov) 0)) 0)) 1) 1)
theorem aip(ag ai ar aF a5 bR cp b0:V)(eR:Option V):eL iI.names [I ag,I ai,I ar,I aF,I a5,I bR,I cp,I b0,eR,U,U,U,U] (bM mN).names=pure [U,U,I a5]:=by rfl
theorem air(ag:V)(ba:Option V)(ar:V):bindTo (ff (ca iI.names (bM mN).names)) (eO mN) ar [U,ba,I ag]=pure [U,I ar,I ag]:=by rfl
theorem aiq(d:Nat)(ag ai:V):ev (av d) (e0 mN) (ca iI.names (bM mN).names) [U,I ai,I ag]=(pure (V.tup [ai,ag]):M V):=by rfl
theorem ain(d:Nat)(loc:Loc):tests (av d) (eZ mN) (ca iI.names (bM mN).names) loc=(pure ak:M Bool):=by rfl
theorem aio:gS (bM mN).kind (bM mN).names=ak:=by rfl
def CY:Stmt:=(cO (KJ (cO (bU ov) 0)) 0)
theorem ail(d:Nat)(ag ai ar aF a5 bR cp b0 dS:V)(jo:Option V):(bindTo (stLoc iI.names) (cy CY) ag [I ai,I ar,I aF,I a5,I bR,I cp,I b0,I dS,jo,U,U,U,U]>>=cm (av d) (bU CY) iI.names)=(pure (a6.next,[I ai,I ar,I aF,I a5,I (V.tup [(V.str "record"),(V.tup [(V.tup [ag,bR])]),V.none]),I cp,I b0,I dS,I ag,U,U,U,U]):M (a6×Loc)):=by rfl
def QY(d:Nat)(loc:Loc):M (a6×Loc):=en (av d) (es 1 (KJ (cO (bU ov) 0))) iI.names loc (dA (λx=>pure x) (λbJ=>en (av d) (es 1 (bU ov)) iI.names bJ (λx=>pure x)))
theorem ait(d:Nat)(ag ai ar aF a5 bR cp b0:V)(eR:Option V):QY d [I ag,I ai,I ar,I aF,I a5,I bR,I cp,I b0,eR,U,U,U,U]=(jx ag>>=λt0=>binop .Add bR t0>>=λt1=>jx ag>>=λbc=>binop .Add cp bc>>=λt3=>(pure (a6.next,[I ag,I ai,I ar,I aF,I a5,I t1,I t3,I b0,eR,U,U,U,U]):M (a6×Loc))):=by rfl
theorem aim(d:Nat)(ag ai ar aF a5 bR cp b0:V)(eR jo:Option V):(bindTo (stLoc iI.names) (cy ov) ag [I ai,I ar,I aF,I a5,I bR,I cp,I b0,jo,eR,U,U,U,U]>>=cm (av d) (bU ov) iI.names)=(truth ar>>=λwm=>M.cond wm (my ai>>=λt1=>el t1>>=λs2=>gw (av d) (e0 mN) (eO mN) (eZ mN) (bM mN) s2 iI.names [I ai,I ar,I aF,I a5,I bR,I cp,I b0,I ag,eR,U,U,U,U]>>=λt3=>ly t3>>=λb1=>jx ai>>=λcA=>binop .Mult cA cp>>=λdh=>binop .Add (V.int 1) dh>>=λdt=>binop .Add b0 (V.int 1)>>=λdj=>(pure (a6.next,[I ai,I ar,I aF,I a5,I (V.tup [(V.str "record"),b1,V.none]),I dt,I dj,I ag,eR,U,U,U,U]):M (a6×Loc))) (el ai>>=λVN=>eT (av d) (cy CY) (bU CY) VN iI.names [I ai,I ar,I aF,I a5,I bR,I cp,I b0,I ag,eR,U,U,U,U]>>=dA (dA (λx=>pure x) (λbJ=>en (av d) (es 1 (bU ov)) iI.names bJ (λx=>pure x))) (QY d))):=by rfl
def QX(d:Nat)(loc:Loc):M V:=en (av d) (es 4 iI.body) iI.names loc cN
def aij(d:Nat)(ag ai ar aF a5 bR cp:V)(gA eR:Option V):M V:=(pure (V.tup [(V.tup [(V.tup [(V.str "blank"),(V.int 0)])]),a5]):M V)
theorem ais(d:Nat)(ag ai ar aF a5 bR cp:V)(gA eR:Option V):QX d [I ag,I ai,I ar,I aF,I a5,I bR,I cp,eR,gA,U,U,U,U]=((binop .Add bR aF>>=λt0=>cmp .Gt t0 (V.int 200)>>=λt1=>truth t1>>=λdq=>M.cond dq (pure ak:M Bool) (binop .Add cp aF>>=λt3=>binop .Sub t3 (V.int 1)>>=λb1=>cmp .Gt b1 (V.int 12)>>=λcA=>truth cA>>=λqB=>M.cond qB (pure ak:M Bool) (pure aH:M Bool)))>>=λtS=>M.cond tS (pure V.none:M V) (aij d ag ai ar aF a5 bR cp eR gA)):=by rfl
theorem aik(d:Nat)(ag ai ar aF:V):aX (d+1) "_law_due_nest" [ag,ai,ar,aF]=(k6 ar>>=λs0=>eT (av d) (cy ov) (bU ov) s0 iI.names (I ag::I ai::I ar::I aF::I (V.tup [(V.str "blank"),(V.int 0)])::I (V.int 1)::I (V.int 1)::n_6)>>=dA cN (QX d)):=
 (d7 aiu d _).trans (by rfl)
def qL:cX:=fnAt tab10 33
theorem aid:tx10.at "_law_great" = I qL:=by rfl
def CW:Stmt:=(cO qL.body 6)
theorem aia(d:Nat)(ag ai ar aF a5 bR cp b0 dS:V)(jo:Option V):(bindTo (stLoc qL.names) (cy CW) ag (I ai::I ar::I aF::I a5::I bR::I cp::I b0::I dS::jo::n_10)>>=cm (av d) (bU CW) qL.names)=(pure (a6.next,(I ai::I ar::I aF::I a5::I bR::I cp::I b0::I (V.tup [(V.str "call"),(V.str "f"),(V.tup [dS])])::I ag::n_10)):M (a6×Loc)):=by rfl
def QV(d:Nat)(loc:Loc):M V:=en (av d) (es 7 qL.body) qL.names loc cN
def aib(d:Nat)(ag ai ar aF a5 bR cp b0:V)(eR:Option V)(fe:V):M (a6×Loc):=(item fe (V.int 1)>>=λt0=>cmp .Is t0 V.none>>=λt1=>(pure (a6.ret t1,(I ag::I ai::I ar::I aF::I a5::I bR::I cp::I b0::eR::I fe::n_9)):M (a6×Loc)))
def QU(d:Nat)(ag ai ar aF a5 bR cp b0:V)(eR:Option V):M V:=(aX d "_law_due_nest" [aF,ar,(V.int 1),(V.int 1)]>>=λt0=>(aX d "_law_due_nest" [aF,ar,cp,(V.int 1)]>>=λt1=>(bP (.list [t0,t1])>>=λbc=>(M.k3 (bP (.list [(V.tup [(V.str "g"),(V.int 1),b0])])>>=λt3=>binop .Add bR t3>>=λb1=>aX d "judged" [b1]>>=λcA=>(pure cA:M V)) (λdh=>item bc (V.int 1)>>=λdt=>cmp .IsNot dt V.none>>=λdj=>truth dj>>=λmA=>M.cond mA (cmp .Eq dh (V.tup [(V.str "good"),bc])>>=λgm=>(pure gm:M V)) (pure dj:M V)) (λacp=>(yO (av d) (aB "TooGreat") acp>>=λb=>if b=ak then M.safe (aib d ag ai ar aF a5 bR cp b0 eR bc) else M.bad)>>=(dA cN (λbJ=>en (av d) (es 10 qL.body) qL.names bJ cN)))))))
theorem aic(d:Nat)(ag ai ar aF a5 bR cp b0:V)(eR:Option V):QV d (I ag::I ai::I ar::I aF::I a5::I bR::I cp::I b0::eR::n_10)=(lz cp (V.int 5)>>=λt0=>aX d "_law_marks_great" [bR,aF,ar,t0]>>=λt1=>truth t1>>=λdq=>M.cond (!dq) (pure (V.bool aH):M V) (QU d ag ai ar aF a5 bR cp b0 eR)):=by rfl
theorem ah9(d:Nat)(ag ai:V):aX (d+1) "_law_great" [ag,ai]=(binop .Mod ai (V.int 2)>>=λt0=>cmp .Eq t0 (V.int 1)>>=λt1=>binop .FloorDiv ai (V.int 2)>>=λbc=>binop .Mod bc (V.int 4)>>=λt3=>binop .Add (V.int 1) t3>>=λb1=>bound V.none>>=λnY=>bound b1>>=λnX=>iP nY nX ag>>=λdt=>((truth t1>>=λtR=>M.cond tR (aX d "_law_wide" [dt,(V.tup [(V.str "input"),(V.int 0)])]>>=λfq=>(pure fq:M V)) (aX d "_law_nest" [dt,(V.tup [(V.str "input"),(V.int 0)])]>>=λgm=>(pure gm:M V)))>>=λjQ=>bP (.list [(V.tup [(V.str "f"),(V.int 1),jQ])])>>=λh5=>binop .FloorDiv ai (V.int 8)>>=λjP=>binop .Mod jP (V.int 7)>>=λoP=>binop .Add (V.int 1) oP>>=λoO=>k6 oO>>=λVQ=>eT (av d) (cy CW) (bU CW) VQ qL.names (I ag::I ai::I t1::I dt::I jQ::I h5::I oO::I (V.tup [(V.str "input"),(V.int 0)])::n_11)>>=dA cN (QV d))):=
 (d7 aid d _).trans (by rfl)
def f9:cX:=fnAt tab10 34
theorem ahZ:tx10.at "law" = I f9:=by rfl
def sj:Stmt:=(cO f9.body 10)
theorem ahQ(d:Nat)(ag ai ar aF a5 bR cp b0 dS fe fN fM:V)(jn on nP:Option V):(bindTo (stLoc f9.names) (cy sj) ag (I ai::I ar::I aF::I a5::I bR::I cp::I b0::I dS::I fe::I fN::I fM::on::jn::nP::n_22)>>=cm (av d) (bU sj) f9.names)=(binop .Add (V.int 3) ag>>=λt0=>aX d "_law_cell" [ai,t0]>>=λt1=>binop .Mod t1 (V.int 3)>>=λbc=>binop .Add (V.int 3) ag>>=λt3=>aX d "_law_cell" [ai,t3]>>=λb1=>binop .FloorDiv b1 (V.int 3)>>=λcA=>cmp .Lt bc (V.int 2)>>=λdh=>truth dh>>=λtS=>M.cond tS (c1 (dP (av d) fM "append")>>=λaaN=>runM (av d) "append" aaN fM [(V.tup [(V.tup [(V.str "input"),bc]),bc])]>>=λfq=>(pure (a6.next,(I ai::I ar::I aF::I a5::I bR::I cp::I b0::I dS::I fe::I fN::I fM::I ag::I bc::I cA::n_22)):M (a6×Loc))) (c1 (dP (av d) fM "append")>>=λG1=>aX d "_law_made" [a5,cA,(V.int 0)]>>=λjQ=>aX d "_law_of_made" [a5,cA]>>=λh5=>runM (av d) "append" G1 fM [(V.tup [jQ,h5])]>>=λjP=>(pure (a6.next,(I ai::I ar::I aF::I a5::I bR::I cp::I b0::I dS::I fe::I fN::I fM::I ag::I bc::I cA::n_22)):M (a6×Loc)))):=by rfl
def QS(d:Nat)(loc:Loc):M V:=en (av d) (es 11 f9.body) f9.names loc cN
def ug:Stmt:=(cO f9.body 11)
def jE:Expr:=(jw (fh (cO (bU ug) 0)) 1)
theorem ahT(ag ai ar aF a5 bR cp b0 dS fe fN fM:V)(jn on:Option V):eL f9.names (I ag::I ai::I ar::I aF::I a5::I bR::I cp::I b0::I dS::I fe::I fN::I fM::jn::on::n_22) (bM jE).names=pure [U,U]:=by rfl
theorem ahV(ft:Option V)(ai:V):bindTo (ff (ca f9.names (bM jE).names)) (eO jE) ai [U,ft]=pure [U,I ai]:=by rfl
theorem ahU(d:Nat)(ag:V):ev (av d) (e0 jE) (ca f9.names (bM jE).names) [U,I ag]=(item ag (V.int 1)>>=λt0=>(pure t0:M V)):=by rfl
theorem ahR(d:Nat)(ag:V):tests (av d) (eZ jE) (ca f9.names (bM jE).names) [U,I ag]=(item ag (V.int 0)>>=λt0=>item t0 (V.int 0)>>=λt1=>cmp .Eq t1 (V.str "input")>>=λbc=>truth bc>>=λgh=>(pure gh:M Bool)):=by rfl
theorem ahS:gS (bM jE).kind (bM jE).names=ak:=by rfl
theorem ahP(d:Nat)(ag ai ar aF a5 bR cp b0 dS fe fN fM:V)(jn on nP:Option V):(bindTo (stLoc f9.names) (cy ug) ag (I ai::I ar::I aF::I a5::I bR::I cp::I b0::I dS::I fe::I fN::I fM::jn::on::nP::n_22)>>=cm (av d) (bU ug) f9.names)=(el fM>>=λs0=>gw (av d) (e0 jE) (eO jE) (eZ jE) (bM jE) s0 f9.names (I ai::I ar::I aF::I a5::I bR::I cp::I b0::I dS::I fe::I fN::I fM::I ag::on::nP::n_22)>>=λt1=>cmp .In ag t1>>=λbc=>truth bc>>=λgh=>M.cond gh (aX d "_law_open" [a5,V.none,fe]>>=λb1=>setItem fN ag b1>>=λae=>(pure (a6.next,(I ai::I ar::I aF::I a5::I bR::I cp::I b0::I dS::I fe::I fN::I fM::I ag::on::nP::n_22)):M (a6×Loc))) (c1 (dP (av d) fe "append")>>=λic=>runM (av d) "append" ic fe [(V.int 0)]>>=λdh=>jx fe>>=λdt=>binop .Sub dt (V.int 1)>>=λdj=>setItem fN ag (V.tup [(V.str "blank"),dj])>>=λae=>(pure (a6.next,(I ai::I ar::I aF::I a5::I bR::I cp::I b0::I dS::I fe::I fN::I fM::I ag::on::nP::n_22)):M (a6×Loc)))):=by rfl
def QR(d:Nat)(loc:Loc):M V:=en (av d) (es 12 f9.body) f9.names loc cN
def wM:Stmt:=(cO f9.body 13)
theorem ahO(d:Nat)(ag ai ar aF a5 bR cp b0 dS fe fN fM JI:V)(on nP op:Option V)(z5:V)(or os:Option V):(bindTo (stLoc f9.names) (cy wM) (.tup [ag,ai]) (I ar::I aF::I a5::I bR::I cp::I b0::I dS::I fe::I fN::I fM::I JI::on::nP::op::os::I z5::or::n_19)>>=cm (av d) (bU wM) f9.names)=((item ag (V.int 0)>>=λt0=>cmp .Eq t0 (V.str "input")>>=λt1=>truth t1>>=λdq=>M.cond dq (item fM ai>>=λt3=>(pure t3:M V)) (pure ai:M V))>>=λb1=>c1 (dP (av d) z5 "append")>>=λic=>((truth cp>>=λqB=>M.cond qB (aX d "_law_changed" [b1,bR]>>=λdt=>(pure dt:M V)) (aX d "_law_at" [b1,bR]>>=λdj=>(pure dj:M V)))>>=λfq=>runM (av d) "append" ic z5 [fq]>>=λgm=>(pure (a6.next,(I ar::I aF::I a5::I bR::I cp::I b0::I dS::I fe::I fN::I fM::I JI::on::nP::op::I ag::I z5::I b1::n_19)):M (a6×Loc)))):=by rfl
def Im(d:Nat)(loc:Loc):M V:=en (av d) (es 14 f9.body) f9.names loc cN
def QQ(d:Nat)(ag ai ar aF a5 bR cp b0 dS fe fN:V)(ol jn on nP:Option V)(akP:V)(Fb:Option V)(akO vs akN lR:V):M V:=(truth a5>>=λwm=>truth (V.bool (!wm))>>=λfI=>M.cond fI (pure (V.bool (!wm)):M V) (aX d "judged" [lR]>>=λbc=>bP (.list [b0,b0])>>=λt3=>cmp .Eq bc (V.tup [(V.str "good"),t3])>>=λb1=>(pure b1:M V)))
theorem ahW(d:Nat)(ag ai ar aF a5 bR cp b0 dS fe fN:V)(ol jn on:Option V)(z6:V)(op Fb:Option V):Im d (I ag::I ai::I ar::I aF::I a5::I bR::I cp::I b0::I dS::I fe::I fN::ol::jn::on::Fb::I z6::op::n_19)=(item fN (V.int 1)>>=λt0=>item t0 (V.int 0)>>=λt1=>item fN (V.int 0)>>=λbc=>item bc (V.int 0)>>=λt3=>ly fe>>=λb1=>item z6 (V.int 0)>>=λcA=>item z6 (V.int 1)>>=λdh=>bP (.list [(V.tup [(V.str "f"),(V.int 1),bR]),(V.tup [(V.str "g"),(V.int 2),(V.tup [(V.str "make"),(V.tup [(V.tup [(V.str "b"),(V.tup [(V.str "call"),(V.str "f"),(V.tup [t1])])]),(V.tup [(V.str "a"),(V.tup [(V.str "call"),(V.str "f"),(V.tup [t3])])])])])])])>>=λdt=>bP (.list [(V.tup [(V.str "f"),(V.int 1),bR]),(V.tup [(V.str "h"),(V.int 1),(V.tup [(V.str "call"),(V.str "f"),(V.tup [(V.tup [(V.str "call"),(V.str "f"),(V.tup [(V.tup [(V.str "input"),(V.int 0)])])])])])])])>>=λdj=>((aX d "judged" [dt]>>=λfq=>bP (.list [b0,(V.tup [b1,(V.tup [(V.str "record"),(V.tup [(V.tup [(V.str "a"),cA]),(V.tup [(V.str "b"),dh])]),V.none])])])>>=λgm=>cmp .NotEq fq (V.tup [(V.str "good"),gm])>>=λjQ=>truth jQ>>=λadF=>M.cond adF (pure ak:M Bool) (aX d "_law_cell" [ag,(V.int 5)]>>=λjP=>aX d "_law_great" [ai,jP]>>=λoP=>truth oP>>=λHH=>M.cond (!HH) (pure ak:M Bool) (pure aH:M Bool)))>>=λHG=>M.cond HG (pure (V.bool aH):M V) (QQ d ag ai ar aF a5 bR cp b0 dS fe fN ol jn on Fb z6 op (V.tup [(V.tup [(V.str "b"),(V.tup [(V.str "call"),(V.str "f"),(V.tup [t1])])]),(V.tup [(V.str "a"),(V.tup [(V.str "call"),(V.str "f"),(V.tup [t3])])])]) (V.tup [b1,(V.tup [(V.str "record"),(V.tup [(V.tup [(V.str "a"),cA]),(V.tup [(V.str "b"),dh])]),V.none])]) dt dj))):=by rfl
theorem ahX(d:Nat)(ag ai ar aF a5 bR cp b0 dS fe fN:V)(ol jn on:Option V):QR d (I ag::I ai::I ar::I aF::I a5::I bR::I cp::I b0::I dS::I fe::I fN::ol::jn::on::n_22)=(bP (.list [])>>=λt0=>el fN>>=λs1=>eT (av d) (cy wM) (bU wM) s1 f9.names (I ag::I ai::I ar::I aF::I a5::I bR::I cp::I b0::I dS::I fe::I fN::ol::jn::on::U::I t0::n_20)>>=dA cN (Im d)):=by rfl
theorem ahY(d:Nat)(ag ai ar aF a5 bR cp b0 dS fe fN:V)(ol jn on:Option V):QS d (I ag::I ai::I ar::I aF::I a5::I bR::I cp::I b0::I dS::I fe::I fN::jn::ol::on::n_22)=(k6 (V.int 2)>>=λs0=>eT (av d) (cy ug) (bU ug) s0 f9.names (I ag::I ai::I ar::I aF::I a5::I bR::I cp::I b0::I dS::I fe::I fN::jn::ol::on::n_22)>>=dA cN (QR d)):=by rfl
theorem ahN(d:Nat)(ag:V):aX (d+1) "law" [ag]=(aX d "_law_cell" [ag,(V.int 1)]>>=λt0=>aX d "_law_labels" [t0,(V.int 4)]>>=λt1=>aX d "_law_cell" [ag,(V.int 0)]>>=λbc=>binop .FloorDiv bc (V.int 3)>>=λt3=>binop .Mod bc (V.int 3)>>=λb1=>binop .Add (V.int 1) b1>>=λcA=>aX d "_law_path" [t3,cA,t1]>>=λdh=>aX d "_law_cell" [ag,(V.int 2)]>>=λdt=>binop .Mod dt (V.int 2)>>=λdj=>cmp .Eq dj (V.int 1)>>=λfq=>((truth fq>>=λHI=>M.cond HI (aX d "_law_put" [(V.tup [(V.str "input"),(V.int 0)]),dh]>>=λjQ=>(pure jQ:M V)) (aX d "_law_got" [(V.tup [(V.str "input"),(V.int 0)]),dh]>>=λh5=>(pure h5:M V)))>>=λjP=>bP (.list [])>>=λoP=>aX d "_law_open" [dh,V.none,oP]>>=λoO=>((truth fq>>=λHG=>M.cond HG (aX d "_law_changed" [oO,dh]>>=λEr=>(pure Er:M V)) (aX d "_law_at" [oO,dh]>>=λVa=>(pure Va:M V)))>>=λU9=>bP (.list [])>>=λU8=>bP (.list [V.none,V.none])>>=λU7=>bP (.list [])>>=λU6=>k6 (V.int 2)>>=λVP=>eT (av d) (cy sj) (bU sj) VP f9.names (I ag::I t1::I bc::I dh::I fq::I jP::I oO::I (V.tup [(V.tup [oO]),U9])::I U8::I U7::I U6::n_25)>>=dA cN (QS d)))):=
 (d7 ahZ d _).trans (by rfl)
def agp:cX:=fnAt mt10 0
theorem ago:tx10.at "Spot.__init__" = I agp:=by rfl
theorem agn(d:Nat)(ag ai ar aF:V):aX (d+1) "Spot.__init__" [ag,ai,ar,aF]=(d5 (av d) "word" ai ag>>=λae=>d5 (av d) "use" ar ag>>=λae=>d5 (av d) "rest" aF ag>>=λae=>d5 (av d) "became" V.none ag>>=λae=>(pure V.none:M V)):=
 (d7 ago d _).trans (by rfl)
def agm:cX:=fnAt mt10 1
theorem agl:tx10.at "Tail.__init__" = I agm:=by rfl
theorem agk(d:Nat)(ag ai ar aF:V):aX (d+1) "Tail.__init__" [ag,ai,ar,aF]=(d5 (av d) "word" ai ag>>=λae=>d5 (av d) "use" ar ag>>=λae=>d5 (av d) "rest" aF ag>>=λae=>d5 (av d) "label" (V.str "") ag>>=λae=>d5 (av d) "kind" V.none ag>>=λae=>d5 (av d) "became" V.none ag>>=λae=>(pure V.none:M V)):=
 (d7 agl d _).trans (by rfl)
def uc:cX:=fnAt mt10 2
theorem agJ:tx10.at "Found.__init__" = I uc:=by rfl
def mI:Expr:=(fh (cO uc.body 3))
theorem agG(ag ai ar aF:V):eL uc.names [I ag,I ai,I ar,I aF,U,U] (bM mI).names=pure [U,U,U]:=by rfl
theorem agI(ft:Option V)(ai:V):bindTo (ff (ca uc.names (bM mI).names)) (eO mI) ai [U,ft,U]=pure [U,I ai,U]:=by rfl
theorem agH(d:Nat)(ag:V):ev (av d) (e0 mI) (ca uc.names (bM mI).names) [U,I ag,U]=(aX d "unknown_kind" []>>=λt0=>(pure t0:M V)):=by rfl
theorem agE(d:Nat)(loc:Loc):tests (av d) (eZ mI) (ca uc.names (bM mI).names) loc=(pure ak:M Bool):=by rfl
theorem agF:gS (bM mI).kind (bM mI).names=ak:=by rfl
theorem agD(d:Nat)(ag ai ar aF:V):aX (d+1) "Found.__init__" [ag,ai,ar,aF]=(d5 (av d) "known" ai ag>>=λae=>d5 (av d) "body" aF ag>>=λae=>aX d "places_of" [aF]>>=λt0=>d5 (av d) "order" t0 ag>>=λae=>k6 ar>>=λs1=>gw (av d) (e0 mI) (eO mI) (eZ mI) (bM mI) s1 uc.names [I ag,I ai,I ar,I aF,U,U]>>=λbc=>d5 (av d) "inputs" bc ag>>=λae=>bP (.dict 0 [])>>=λt3=>d5 (av d) "at" t3 ag>>=λae=>(pure V.none:M V)):=
 (d7 agJ d _).trans (by rfl)
def agC:cX:=fnAt mt10 3
theorem agB:tx10.at "Found.result" = I agC:=by rfl
theorem agA(d:Nat)(ag:V):aX (d+1) "Found.result" [ag]=(cc (av d) "at" ag>>=λt0=>item t0 (V.tup [])>>=λt1=>(pure t1:M V)):=
 (d7 agB d _).trans (by rfl)
def kW:cX:=fnAt mt10 4
theorem agT:tx10.at "Found.go" = I kW:=by rfl
def sh:Stmt:=(cO kW.body 0)
def jC:Expr:=(fh (cO (bU sh) 1))
theorem agP(ag ai ar aF:V)(bC:Option V):eL kW.names [I ag,I ai,I ar,I aF,bC,U,U,U,U,U] (bM jC).names=pure [U,U,I ar,I ag]:=by rfl
theorem agR(ag ai:V)(gN:Option V)(aF:V):bindTo (ff (ca kW.names (bM jC).names)) (eO jC) aF [U,gN,I ai,I ag]=pure [U,I aF,I ai,I ag]:=by rfl
theorem agQ(d:Nat)(ag ai ar:V):ev (av d) (e0 jC) (ca kW.names (bM jC).names) [U,I ar,I ai,I ag]=(cc (av d) "at" ag>>=λt0=>binop .Add ai (V.tup [ar])>>=λt1=>item t0 t1>>=λbc=>(pure bc:M V)):=by rfl
theorem agN(d:Nat)(loc:Loc):tests (av d) (eZ jC) (ca kW.names (bM jC).names) loc=(pure ak:M Bool):=by rfl
theorem agO:gS (bM jC).kind (bM jC).names=ak:=by rfl
theorem agM(d:Nat)(ag ai ar:V)(c5 bC of cb:Option V):(bindTo (stLoc kW.names) (cy sh) (.tup [ag,ai]) [I ar,cb,of,bC,c5,U,U,U,U,U]>>=cm (av d) (bU sh) kW.names)=(cc (av d) "body" ar>>=λt0=>aX d "at_place" [t0,ai]>>=λt1=>aX d "parts_of" [t1]>>=λbc=>jx bc>>=λt3=>k6 t3>>=λnI=>gw (av d) (e0 jC) (eO jC) (eZ jC) (bM jC) nI kW.names [I ar,I ag,I ai,I t1,c5,U,U,U,U,U]>>=λcA=>c1 (dP (av d) ar "taken")>>=λlr=>runM (av d) "taken" lr ar [t1,cA,ag]>>=λdt=>cc (av d) "at" ar>>=λdj=>setItem dj ai dt>>=λae=>(pure (a6.next,[I ar,I ag,I ai,I t1,I cA,U,U,U,U,U]):M (a6×Loc))):=by rfl
def Qt(d:Nat)(loc:Loc):M V:=en (av d) (es 1 kW.body) kW.names loc cN
theorem agS(d:Nat)(ag:V)(ba gN c5 bC:Option V):Qt d [I ag,bC,c5,gN,ba,U,U,U,U,U]=(pure V.none:M V):=by rfl
theorem agL(d:Nat)(ag:V):aX (d+1) "Found.go" [ag]=(cc (av d) "order" ag>>=λt0=>yU t0>>=λs1=>eT (av d) (cy sh) (bU sh) s1 kW.names (I ag::n_9)>>=dA cN (Qt d)):=
 (d7 agT d _).trans (by rfl)
def ou:cX:=fnAt mt10 5
theorem agz:tx10.at "Found.taken" = I ou:=by rfl
def agr(d:Nat)(ag ai ar aF a5:V)(of cb gA:Option V):M V:=(item ar (V.int 1)>>=λt0=>fv (av d) "Spot" [(V.str "number"),aF,V.none]>>=λt1=>aX d "join" [t0,t1,aF]>>=λbc=>fv (av d) "Spot" [(V.str "number"),aF,V.none]>>=λt3=>(pure t3:M V))
def ags(d:Nat)(ag ai ar aF a5:V)(of cb gA:Option V):M V:=(item ar (V.int 0)>>=λt0=>fv (av d) "Spot" [(V.str "number"),aF,V.none]>>=λt1=>aX d "join" [t0,t1,aF]>>=λbc=>cmp .Eq a5 (V.str "if")>>=λt3=>truth t3>>=λha=>M.cond ha (item ar (V.int 1)>>=λcA=>item ar (V.int 2)>>=λdh=>aX d "join" [cA,dh,aF]>>=λdt=>item ar (V.int 1)>>=λdj=>(pure dj:M V)) (agr d ag ai ar aF a5 of cb gA))
def agt(d:Nat)(ag ai ar aF a5:V)(of cb gA:Option V):M V:=(cmp .Eq a5 (V.str "call")>>=λt0=>truth t0>>=λfI=>M.cond fI (c1 (dP (av d) ag "called")>>=λg2=>runM (av d) "called" g2 ag [ai,ar,aF]>>=λt3=>(pure t3:M V)) (ags d ag ai ar aF a5 of cb gA))
def agu(d:Nat)(ag ai ar aF a5:V)(of cb gA:Option V):M V:=((cmp .Eq a5 (V.str "get")>>=λt0=>truth t0>>=λfI=>M.cond fI (pure ak:M Bool) (cmp .Eq a5 (V.str "put")>>=λbc=>truth bc>>=λgh=>M.cond gh (pure ak:M Bool) (pure aH:M Bool)))>>=λha=>M.cond ha (c1 (dP (av d) ag "asked")>>=λic=>runM (av d) "asked" ic ag [ai,ar,aF]>>=λdh=>(pure dh:M V)) (agt d ag ai ar aF a5 of cb gA))
def zr:Stmt:=(cO (bU (cO ou.body 3)) 1)
theorem agx(d:Nat)(ag ai ar aF a5 bR cp b0:V)(eR jo:Option V):(bindTo (stLoc ou.names) (cy zr) (.tup [ag,ai]) [I ar,I aF,I a5,I bR,I cp,I b0,jo,eR,U,U,U,U,U]>>=cm (av d) (bU zr) ou.names)=(item ag (V.int 0)>>=λt0=>aX d "field" [t0,ai,bR,b0]>>=λt1=>(pure (a6.next,[I ar,I aF,I a5,I bR,I cp,I t1,I ag,I ai,U,U,U,U,U]):M (a6×Loc))):=by rfl
def Qs(d:Nat)(loc:Loc):M V:=en (av d) (es 2 (bU (cO ou.body 3))) ou.names loc (dA cN (λbJ=>en (av d) (es 4 ou.body) ou.names bJ cN))
theorem agy(d:Nat)(ag ai ar aF a5 bR:V)(cb gA:Option V):Qs d [I ag,I ai,I ar,I aF,I a5,I bR,gA,cb,U,U,U,U,U]=(fv (av d) "Spot" [(V.str "record"),aF,bR]>>=λt0=>(pure t0:M V)):=by rfl
def Ie(d:Nat)(ag ai ar aF a5:V):M V:=(cmp .Eq a5 (V.str "make")>>=λt0=>truth t0>>=λfI=>M.cond fI (fv (av d) "Tail" [(V.str "end"),aF,V.none]>>=λbc=>item ai (V.int 1)>>=λt3=>mT t3 ar>>=λnI=>eT (av d) (cy zr) (bU zr) nI ou.names (I ag::I ai::I ar::I aF::I a5::I bc::n_7)>>=dA (dA cN (λbJ=>en (av d) (es 4 ou.body) ou.names bJ cN)) (Qs d)) (agu d ag ai ar aF a5 U U U))
def agv(d:Nat)(ag ai ar aF a5:V):M V:=(cmp .Eq a5 (V.str "input")>>=λt0=>truth t0>>=λfI=>M.cond fI (cc (av d) "inputs" ag>>=λbc=>item ai (V.int 1)>>=λt3=>item bc t3>>=λb1=>(pure b1:M V)) (Ie d ag ai ar aF a5))
theorem agw(d:Nat)(ag ai ar aF:V):aX (d+1) "Found.taken" [ag,ai,ar,aF]=(item ai (V.int 0)>>=λt0=>cmp .Eq t0 (V.str "number")>>=λt1=>truth t1>>=λdq=>M.cond dq (fv (av d) "Spot" [(V.str "number"),aF,V.none]>>=λt3=>(pure t3:M V)) (agv d ag ai ar aF t0)):=
 (d7 agz d _).trans (by rfl)
def ag8:cX:=fnAt mt10 6
theorem ag7:tx10.at "Found.asked" = I ag8:=by rfl
def ag6(d:Nat)(ag ai ar aF a5 bR:V):M V:=(item ai (V.int 2)>>=λt0=>item ar (V.int 1)>>=λt1=>aX d "field" [t0,t1,aF,bR]>>=λbc=>fv (av d) "Spot" [(V.str "record"),aF,bc]>>=λt3=>(pure t3:M V))
theorem Qv(d:Nat)(ag ai ar aF:V):aX (d+1) "Found.asked" [ag,ai,ar,aF]=(aX d "unknown_kind" []>>=λt0=>aX d "unknown_rest" []>>=λt1=>item ar (V.int 0)>>=λbc=>item ai (V.int 2)>>=λt3=>aX d "field" [t3,t0,aF,t1]>>=λb1=>fv (av d) "Spot" [(V.str "record"),aF,b1]>>=λcA=>aX d "join" [bc,cA,aF]>>=λdh=>item ai (V.int 0)>>=λdt=>cmp .Eq dt (V.str "get")>>=λdj=>truth dj>>=λmA=>M.cond mA (pure t0:M V) (ag6 d ag ai ar aF t0 t1)):=
 (d7 ag7 d _).trans (by rfl)
def il:cX:=fnAt mt10 7
theorem ag5:tx10.at "Found.called" = I il:=by rfl
def Qu(d:Nat)(loc:Loc):M V:=en (av d) (es 1 il.body) il.names loc cN
def jD:Expr:=(fh (cO il.body 2))
theorem agZ(ag ai ar aF:V)(bC of:Option V)(cp:V):eL il.names (I ag::I ai::I ar::I aF::bC::of::I cp::n_7) (bM jD).names=pure [U,U,U,I cp,I aF]:=by rfl
theorem ag1(ag ai:V)(gN:Option V)(aF:V):bindTo (ff (ca il.names (bM jD).names)) (eO jD) aF [U,gN,U,I ai,I ag]=pure [U,I aF,U,I ai,I ag]:=by rfl
theorem ag0(d:Nat)(ag ai ar:V):ev (av d) (e0 jD) (ca il.names (bM jD).names) [U,I ar,U,I ai,I ag]=(aX d "fresh" [ar,ai,ag]>>=λt0=>(pure t0:M V)):=by rfl
theorem agX(d:Nat)(loc:Loc):tests (av d) (eZ jD) (ca il.names (bM jD).names) loc=(pure ak:M Bool):=by rfl
theorem agY:gS (bM jD).kind (bM jD).names=ak:=by rfl
def si:Stmt:=(cO il.body 4)
theorem agW(d:Nat)(ag ai ar aF a5 bR:V)(cb gA:Option V)(dS fe fN:V)(ol jn:Option V):(bindTo (stLoc il.names) (cy si) (.tup [ag,ai]) [I ar,I aF,I a5,I bR,cb,gA,I dS,ol,I fe,I fN,jn,U,U,U]>>=cm (av d) (bU si) il.names)=(aX d "join" [ag,ai,bR]>>=λt0=>(pure (a6.next,[I ar,I aF,I a5,I bR,cb,gA,I dS,I ag,I fe,I fN,I ai,U,U,U]):M (a6×Loc))):=by rfl
def Ig(d:Nat)(loc:Loc):M V:=en (av d) (es 5 il.body) il.names loc cN
theorem ag3(d:Nat)(ag ai ar aF:V)(bC of:Option V)(cp b0 dS:V)(jo ok:Option V):Ig d [I ag,I ai,I ar,I aF,bC,of,I cp,jo,I b0,I dS,ok,U,U,U]=(pure dS:M V):=by rfl
theorem ag4(d:Nat)(ag ai ar aF:V)(bC of:Option V):Qu d (I ag::I ai::I ar::I aF::bC::of::n_8)=(bP (.dict 0 [])>>=λt0=>bE bC>>=λt1=>el t1>>=λs2=>gw (av d) (e0 jD) (eO jD) (eZ jD) (bM jD) s2 il.names (I ag::I ai::I ar::I aF::bC::of::I t0::n_7)>>=λt3=>bE of>>=λb1=>aX d "fresh" [b1,t0,aF]>>=λcA=>mT ar t3>>=λVO=>eT (av d) (cy si) (bU si) VO il.names [I ag,I ai,I ar,I aF,bC,of,I t0,U,I t3,I cA,U,U,U,U]>>=dA cN (Ig d)):=by rfl
theorem agV(d:Nat)(ag ai ar aF:V):aX (d+1) "Found.called" [ag,ai,ar,aF]=(cc (av d) "known" ag>>=λt0=>item ai (V.int 1)>>=λt1=>item t0 t1>>=λbc=>bindTo (stLoc il.names) (cy (cO il.body 0)) bc (I ag::I ai::I ar::I aF::n_10)>>=Qu d):=
 (d7 ag5 d _).trans (by rfl)
def agj:cX:=fnAt mt10 8
theorem agi:tx10.at "Teller.__init__" = I agj:=by rfl
theorem agh(d:Nat)(ag:V):aX (d+1) "Teller.__init__" [ag]=(bP (.list [])>>=λt0=>d5 (av d) "met" t0 ag>>=λae=>d5 (av d) "knots" (V.int 0) ag>>=λae=>(pure V.none:M V)):=
 (d7 agi d _).trans (by rfl)
def agg:cX:=fnAt mt10 9
theorem agf:tx10.at "Teller.number" = I agg:=by rfl
def Ic(d:Nat)(ag ai:V):M V:=(cc (av d) "met" ag>>=λt0=>c1 (dP (av d) t0 "index")>>=λg1=>runM (av d) "index" g1 t0 [ai]>>=λbc=>(pure bc:M V))
theorem age(d:Nat)(ag ai:V):aX (d+1) "Teller.number" [ag,ai]=(cc (av d) "met" ag>>=λt0=>cmp .NotIn ai t0>>=λt1=>truth t1>>=λdq=>M.cond dq (cc (av d) "met" ag>>=λt3=>c1 (dP (av d) t3 "append")>>=λgP=>runM (av d) "append" gP t3 [ai]>>=λcA=>Ic d ag ai) (Ic d ag ai)):=
 (d7 agf d _).trans (by rfl)
def lH:cX:=fnAt mt10 10
theorem agd:tx10.at "Teller.told" = I lH:=by rfl
def Qr(d:Nat)(loc:Loc):M V:=en (av d) (es 6 lH.body) lH.names loc cN
def jB:Expr:=(jw (fh (cO lH.body 6)) 1)
theorem af8(ag ai ar:V)(c5 bC:Option V):eL lH.names (I ag::I ai::I ar::c5::bC::n_10) (bM jB).names=pure [U,U,I ar,c5,I ag]:=by rfl
theorem aga(ag ai:V)(gN c5:Option V)(a5:V):bindTo (ff (ca lH.names (bM jB).names)) (eO jB) a5 [U,c5,I ai,gN,I ag]=pure [U,I a5,I ai,gN,I ag]:=by rfl
theorem af9(d:Nat)(ag ai:V)(gN:Option V)(aF:V):ev (av d) (e0 jB) (ca lH.names (bM jB).names) [U,I aF,I ai,gN,I ag]=(c1 (dP (av d) ag "told")>>=λmq=>bE gN>>=λt1=>item t1 aF>>=λbc=>cc (av d) "kind" bc>>=λt3=>binop .Add ai (V.int 1)>>=λb1=>runM (av d) "told" mq ag [t3,b1]>>=λcA=>(pure (V.tup [aF,cA]):M V)):=by rfl
theorem af6(d:Nat)(loc:Loc):tests (av d) (eZ jB) (ca lH.names (bM jB).names) loc=(pure ak:M Bool):=by rfl
theorem af7:gS (bM jB).kind (bM jB).names=ak:=by rfl
def CQ(d:Nat)(ag ai ar:V)(c5 bC:Option V)(bR cp:V):M V:=(pure (V.tup [(V.str "record"),bR,cp]):M V)
theorem agc(d:Nat)(ag ai ar:V)(c5 bC:Option V):Qr d (I ag::I ai::I ar::c5::bC::n_10)=(bE c5>>=λt0=>oe t0>>=λt1=>my t1>>=λbc=>el bc>>=λuV=>gw (av d) (e0 jB) (eO jB) (eZ jB) (bM jB) uV lH.names (I ag::I ai::I ar::c5::bC::n_10)>>=λb1=>ly b1>>=λcA=>bE bC>>=λdh=>cc (av d) "word" dh>>=λdt=>cmp .Eq dt (V.str "unknown")>>=λdj=>truth dj>>=λmA=>M.cond mA (c1 (dP (av d) ag "number")>>=λG1=>bE bC>>=λjQ=>runM (av d) "number" G1 ag [jQ]>>=λh5=>CQ d ag ai ar c5 bC cA h5) (CQ d ag ai ar c5 bC cA V.none)):=by rfl
def Qq(d:Nat)(ag ai ar:V):M V:=(aX d "row_of" [ai]>>=λt0=>bindTo (stLoc lH.names) (cy (cO lH.body 5)) t0 (I ag::I ai::I ar::n_12)>>=Qr d)
def af4(d:Nat)(ag ai ar:V):M V:=(cc (av d) "word" ai>>=λt0=>cmp .Eq t0 (V.str "unknown")>>=λt1=>truth t1>>=λdq=>M.cond dq (c1 (dP (av d) ag "number")>>=λg3=>runM (av d) "number" g3 ag [ai]>>=λb1=>(pure (V.tup [(V.str "blank"),b1]):M V)) (Qq d ag ai ar))
def Ib(d:Nat)(ag ai ar:V):M V:=(aX d "top" [ai]>>=λt0=>cc (av d) "word" t0>>=λt1=>cmp .Eq t1 (V.str "number")>>=λbc=>truth bc>>=λgh=>M.cond gh (pure (V.tup [(V.str "number")]):M V) (af4 d ag t0 ar))
theorem af5(d:Nat)(ag ai ar:V):aX (d+1) "Teller.told" [ag,ai,ar]=(cc (av d) "knots" ag>>=λt0=>binop .Add t0 (V.int 1)>>=λt1=>d5 (av d) "knots" t1 ag>>=λae=>((cc (av d) "knots" ag>>=λbc=>cmp .Gt bc (V.int 200)>>=λt3=>truth t3>>=λha=>M.cond ha (pure ak:M Bool) (cmp .Gt ar (V.int 12)>>=λcA=>truth cA>>=λqB=>M.cond qB (pure ak:M Bool) (pure aH:M Bool)))>>=λtS=>M.cond tS (bP (.exc (aB "TooGreat"))>>=λaco=>(uO (aB "TooGreat") aco:M V)) (Ib d ag ai ar))):=
 (d7 agd d _).trans (by rfl)
end
end Mine.Internal
namespace Mine.Internal
open PySem
theorem afE(a b:V)(ag ai ar aF a5:V)(cj dO:Option V):bindTo (stLoc i0.names) (cy (cO (bU (cO (bU nt) 2)) 1)) (.tup [a,b]) [I ag,I ai,I ar,I aF,I a5,cj,dO,U,U]=pure [I ag,I ai,I ar,I aF,I a5,I a,I b,U,U]:=by kernel_rfl
theorem afq(a b:V)(ag ai ar:V):bindTo (stLoc hb.names) (cy (cO hb.body 0)) (.tup [a,b]) (I ag::I ai::I ar::n_11)=pure (I ag::I ai::I ar::I a::I b::n_9):=by kernel_rfl
theorem afp(a b:V)(ag ai ar x y:V):bindTo (stLoc hb.names) (cy (cO hb.body 1)) (.tup [a,b]) (I ag::I ai::I ar::I x::I y::n_9)=pure (I ag::I ai::I ar::I x::I y::I a::I b::n_7):=by kernel_rfl
theorem aej{d:Nat}{n:Nat}:((av d).calm&&gz (.enum n) (cy wH))=ak:=by kernel_rfl
theorem agK{d:Nat}{n:Nat}:((av d).calm&&gz (.enum n) (cy sh))=ak:=by kernel_rfl
theorem agq{d:Nat}{a b:j8}{n:Nat}:((av d).calm&&gz (.zip a b n) (cy zr))=ak:=by kernel_rfl
theorem agU{d:Nat}{a b:j8}{n:Nat}:((av d).calm&&gz (.zip a b n) (cy si))=ak:=by kernel_rfl
theorem ag2(a b:V)(ag ai ar aF:V):bindTo (stLoc il.names) (cy (cO il.body 0)) (.tup [a,b]) (I ag::I ai::I ar::I aF::n_10)=pure (I ag::I ai::I ar::I aF::I a::I b::n_8):=by kernel_rfl
theorem agb(a b:V)(ag ai ar:V):bindTo (stLoc lH.names) (cy (cO lH.body 5)) (.tup [a,b]) (I ag::I ai::I ar::n_12)=pure (I ag::I ai::I ar::I a::I b::n_10):=by kernel_rfl
end Mine.Internal
namespace Mine.Internal
noncomputable section
noncomputable def cl(l:Nat):Nat:=Nat.div l 8
inductive gV where
 |gK|num
 |dc(r:Nat)
inductive TW where
 |gK|fin
 |eC(l k r:Nat)
inductive dZ where
 |eu(w:gV)(b:Option Nat)
 |tail(w:TW)(b:Option Nat)
inductive fK where
 |nil
 |a7(n:Option dZ)(l r:fK)
structure bq where
 len:Nat
 t:fK
noncomputable def fK.get(f:Nat):fK->Nat->Option dZ:=Nat.rec (λae az=>U) (λae au t i=>fK.rec U (λn l r ae az=>Bool.rec (Bool.rec (au l (Nat.div i 2)) (au r (Nat.pred (Nat.div i 2))) (Nat.beq (Nat.mod i 2) 0)) n (Nat.beq i 0)) t) f
noncomputable def fK.setC(x:dZ)(f:Nat):fK->Nat->(fK->bq)->bq:=Nat.rec (λt ae k=>k t) (λae au t i k=>fK.rec
 (Bool.rec (Bool.rec (au .nil (Nat.div i 2) λl=>k (.a7 U l .nil)) (au .nil (Nat.pred (Nat.div i 2)) λr=>k (.a7 U .nil r)) (Nat.beq (Nat.mod i 2) 0)) (k (.a7 (I x) .nil .nil)) (Nat.beq i 0))
 (λn l r ae az=>Bool.rec (Bool.rec (au l (Nat.div i 2) λl=>k (.a7 n l r)) (au r (Nat.pred (Nat.div i 2)) λr=>k (.a7 n l r)) (Nat.beq (Nat.mod i 2) 0)) (k (.a7 (I x) l r)) (Nat.beq i 0)) t) f
def gt(G:bq)(i:Nat):Option dZ:=fK.get 10 G.t i
def st(G:bq)(i:Nat)(x:dZ):bq:=fK.setC x 10 G.t i λt=>⟨G.len,t⟩
def ps(G:bq)(n:dZ):bq:=fK.setC n 10 G.t G.len λt=>⟨Nat.succ G.len,t⟩
noncomputable def o2:bq:=⟨0,.nil⟩
noncomputable def dZ.pG:dZ->Option Nat:=dZ.rec (λae b=>b) (λae b=>b)
noncomputable def dZ.setB(b:Option Nat):dZ->dZ:=dZ.rec (λw ae=>.eu w b) (λw ae=>.tail w b)
inductive bW(α:Type) where
 |ok(a:α)(G:bq)
 |bad
noncomputable def bW.bind{α β:Type}(r:bW α)(f:α->bq->bW β):bW β:=bW.rec f .bad r
noncomputable def dT{α β:Type}(o:Option α)(f:α->bW β):bW β:=Option.rec .bad f o
noncomputable def opt{α β:Type}(o:Option α)(f:α->Option β):Option β:=Option.rec U f o
def gO(n:dZ)(G:bq):bW Nat:=Bool.rec .bad (.ok G.len (ps G n)) (Nat.ble G.len 999)
def uL(n:Nat)(G:bq):Nat->Option Nat:=Nat.rec (λae=>U) (λae au i=>opt (gt G i) λa7=>Option.rec (I i) au a7.pG) n
def iy(G:bq)(i:Nat):Option Nat:=uL 20 G i
noncomputable abbrev Row:=List (Nat×Nat)
noncomputable def lk(fs:Row)(l:Nat):Option Nat:=List.rec U (λp ae au=>Bool.rec au (I p.2) (Nat.beq p.1 l)) fs
noncomputable def mem(r:List Nat)(x:Nat):Bool:=List.rec aH (λy ae au=>Bool.rec au ak (Nat.beq y x)) r
noncomputable def e6(fs:Row)(l:Nat):Bool:=List.rec aH (λp ae au=>Bool.rec au ak (Nat.beq p.1 l)) fs
def rf(l:Nat)(acc:Row):Bool:=List.rec ak (λp ae az=>Nat.beq (cl p.1) (cl l)) acc
def iN(G:bq)(t:Nat):Option TW:=opt (gt G t) λa7=>dZ.rec (λae az=>U) (λw ae=>I w) a7
def K0(n:Nat)(G:bq):Nat->Row->Option (Row×Nat):=Nat.rec (λae az=>U) (λae au r acc=>opt (iy G r) λt=>opt (iN G t) λw=>TW.rec (I (acc,t)) (I (acc,t)) (λl ae dn=>Bool.rec (Bool.rec U (au dn (acc++[(l,t)])) (rf l acc)) U (e6 acc l)) w) n
def restOf(G:bq)(t:Nat):Option Nat:=opt (gt G t) λa7=>dZ.rec (λw ae=>gV.rec U U (λr=>I r) w) (λae az=>U) a7
def rowOf(G:bq)(i:Nat):Option (Row×Nat):=opt (iy G i) λt=>opt (restOf G t) λr=>K0 5 G r []
def lb(G:bq)(t:Nat):Option Nat:=opt (iN G t) λw=>TW.rec U U (λae k az=>I k) w
def vr(G:bq)(fs:Row):Option (List Nat):=List.rec (I []) (λp ae au=>opt (lb G p.2) λk=>opt au λks=>I (k::ks)) fs
def q9(G:bq)(t:Nat):Option gV:=opt (gt G t) λa7=>dZ.rec (λw ae=>I w) (λae az=>U) a7
def tj(n:Nat)(G:bq)(x:Nat):List Nat->List Nat->Option Bool:=Nat.rec (λae az=>U) (λae au ws ms=>List.rec (I aH) (λw ws ae=>opt (iy G w) λt=>Bool.rec
  (opt (q9 G t) λsw=>gV.rec (au ws ms) (au ws ms) (λae=>Bool.rec (opt (rowOf G t) λp=>Bool.rec (opt (vr G p.1) λks=>au (ks.reverse++ws) (ms++[t])) (I ak) (Nat.beq p.2 x)) (au ws ms) (mem ms t)) sw)
  (I ak) (Nat.beq t x)) ws) n
def hold(G:bq)(k x:Nat):Option Bool:=tj 60 G x [k] []
def setB(i j:Nat)(G:bq):bW Unit:=dT (gt G i) λn=>.ok () (st G i (n.setB (I j)))
def za(one other:Nat)(G:bq):bW Unit:=dT (q9 G other) λw=>gV.rec (setB one other G) (setB one other G) (λae=>dT (hold G other one) λb=>Bool.rec (setB one other G) .bad b) w
def yg(G:bq)(fs:Row)(l:Nat):Option Nat:=opt (lk fs l) λt=>lb G t
def y6(fs:Row)(tail:Nat)(G:bq)(ls:List Nat):bW Unit:=List.rec (.ok () G) (λl ae au=>dT (yg G fs l) λk=>dT (hold G k tail) λb=>Bool.rec au .bad b) ls
def Cp(fs:Row)(ls:List Nat):Nat->bq->bW Nat:=List.rec (λr G=>.ok r G) (λl ae au r G=>dT (yg G fs l) λk=>(gO (.tail (.eC l k r) U) G).bind au) ls
def HC(tail:Nat)(fs:Row)(ls:List Nat)(behind:Nat)(G:bq):bW Unit:=
 (y6 fs tail G ls).bind λae G=>(Cp fs ls.reverse behind G).bind λr G=>setB tail r G
noncomputable def putN(x:Nat)(l:List Nat):List Nat:=List.rec [x] (λy r au=>Bool.rec (y::au) (x::y::r) (Nat.ble x y)) l
def ew(l:List Nat):List Nat:=List.rec [] (λx ae au=>putN x au) l
def both(fs os:Row)(done:List Nat):List Nat:=List.rec [] (λp ae au=>Bool.rec au (Bool.rec (p.1::au) au (mem done p.1)) (e6 os p.1)) fs
def m4(fs os:Row):List Nat:=List.rec [] (λp ae au=>Bool.rec (p.1::au) au (e6 os p.1)) fs
def vd(fs os:Row):Bool:=List.rec ak (λp ae az=>rf p.1 os) fs
def An(J:Nat->Nat->bq->bW Unit)(p q:Row)(l:Nat)(G:bq):bW Unit:=dT (lk p l) λt=>dT (lk q l) λbX=>dT (lb G t) λk=>dT (lb G bX) λc6=>J k c6 G
def sV(done:List Nat)(fs:Row):Bool:=List.rec ak (λl ae au=>Bool.rec aH au (rf l fs)) done
def p8(J:Nat->Nat->bq->bW Unit)(one other:Nat)(n:Nat):List Nat->bq->bW Unit:=Nat.rec (λae az=>.bad) (λae au done G=>dT (rowOf G one) λp=>dT (rowOf G other) λq=>Bool.rec .bad
  (List.rec (.ok () G) (λl ae az=>(An J p.1 q.1 l G).bind λae G=>au (done++[l]) G) (ew (both p.1 q.1 done))) (vd p.1 q.1&&sV done p.1)) n
noncomputable def TW.fS:TW->Bool:=TW.rec aH ak λae az bS=>aH
noncomputable def TW.tc:TW->Bool:=TW.rec ak aH λae az bS=>aH
def nJ(fs os:Row)(w w':TW)(G:bq)(ls:List Nat):bW Unit:=List.rec (.ok () G) (λl ae au=>Bool.rec (Bool.rec au (Bool.rec .bad au (e6 fs l)) w.fS) (Bool.rec .bad (Bool.rec au (Bool.rec .bad au (e6 fs l)) w.fS) (e6 os l)) w'.fS) ls
noncomputable def Pk(a b:TW)(p q be:Nat):Nat:=Bool.rec (Bool.rec be p a.fS) q b.fS
def K8(p q:Row×Nat)(be:Nat)(G:bq):bW Unit:=dT (iN G p.2) λa=>Bool.rec (.ok () G) (HC p.2 q.1 (ew (m4 q.1 p.1)) be G) a.tc
def EU(p q:Row×Nat)(be:Nat)(G:bq):bW Unit:=dT (iN G q.2) λb=>bW.bind (Bool.rec (.ok () G) (HC q.2 p.1 (ew (m4 p.1 q.1)) be G) b.tc) λae G=>K8 p q be G
def Aw(p q:Row×Nat)(G:bq):bW Unit:=(gO (.tail .gK U) G).bind λbe G=>dT (iN G p.2) λa=>dT (iN G q.2) λb=>EU p q (Pk a b p.2 q.2 be) G
def Ax(p q:Row×Nat)(a b:TW)(G:bq):bW Unit:=Bool.rec (Bool.rec (Aw p q G) (Bool.rec (Aw p q G) (setB q.2 p.2 G) b.fS) a.fS) (.ok () G) (Nat.beq p.2 q.2)
def K7(one other:Nat)(G:bq):bW Unit:=dT (rowOf G one) λp=>dT (rowOf G other) λq=>Bool.rec .bad (dT (iN G p.2) λa=>dT (iN G q.2) λb=>
 (nJ p.1 q.1 a b G (ew (p.1.map (·.1)++q.1.map (·.1)))).bind λae G=>Ax p q a b G) (vd p.1 q.1)
def mergeF(one other:Nat)(G:bq):bW Unit:=dT (iy G one) λt=>dT (iy G other) λbX=>Bool.rec (setB bX t G) (.ok () G) (Nat.beq t bX)
def YT(J:Nat->Nat->bq->bW Unit)(t bX:Nat)(G:bq)(a b:gV):bW Unit:=gV.rec (za t bX G)
 (gV.rec (za bX t G) (mergeF t bX G) (λae=>.bad) b)
 (λae=>gV.rec (za bX t G) .bad (λae=>(p8 J t bX 5 [] G).bind λae G=>(K7 t bX G).bind λae G=>mergeF t bX G) b) a
def MF(n:Nat):Nat->Nat->bq->bW Unit:=Nat.rec (λae az bS=>.bad) (λae au one other G=>dT (iy G one) λt=>dT (iy G other) λbX=>Bool.rec (dT (q9 G t) λa=>dT (q9 G bX) λb=>YT au t bX G a b) (.ok () G) (Nat.beq t bX)) n
def join(one other:Nat)(G:bq):bW Unit:=MF 4 one other G
inductive a4 where
 |num
 |blank(i:Nat)
 |dc(fs:List (Nat×a4))(r:Option Nat)
noncomputable abbrev fY:=List (Nat×Nat)
def y0(dw:fY)(i j:Nat):Option (Nat×fY):=Bool.rec U (Option.rec (I (j,dw++[(i,j)])) (λt=>I (t,dw)) (lk dw i)) (Nat.ble dw.length 99)
def rS(R:a4->fY->bq->bW (Nat×fY))(ps:List (Nat×a4)):Nat×fY->bq->bW (Nat×fY):=List.rec (λs G=>(gO (.eu (.dc s.1) U) G).bind λi G=>.ok (i,s.2) G)
 (λp ae au s G=>(R p.2 s.2 G).bind λq G=>(gO (.tail (.eC p.1 q.1 s.1) U) G).bind λt G=>au (t,q.2) G) ps
def pw  : Nat->a4->fY->bq->bW (Nat×fY)
 |0,_,_,_=>.bad
 |n+1,k,dw,G=>match k with
  |.num=>(gO (.eu .num U) G).bind λi G=>.ok (i,dw) G
  |.blank i=>(gO (.eu .gK U) G).bind λj G=>dT (y0 dw i j) λp=>.ok p G
  |.dc fs r=>(gO (.tail .fin U) G).bind λe G=>match r with
   |some i=>(gO (.tail .gK U) G).bind λj G=>dT (y0 dw i j) λp=>rS (pw n) fs.reverse p G
   |none=>rS (pw n) fs.reverse (e,dw) G
def tF  (ks:List a4):fY->bq->bW (List Nat×fY):=List.rec (λdw G=>.ok ([],dw) G) (λk ae au dw G=>(pw 6 k dw G).bind λp G=>(au p.2 G).bind λq G=>.ok (p.1::q.1,q.2) G) ks
def vw(ps:List (Nat×Nat)):bq->bW Unit:=List.rec (λG=>.ok () G) (λp ae au G=>(join p.1 p.2 G).bind λae G=>au G) ps
inductive qM where
 |num(z:Int)
 |fT(i:Nat)
 |make(ls:List Nat)
 |get(l:Nat)
 |put(l:Nat)
 |call
inductive cG where
 |a7(f:qM)(ps:List cG)
noncomputable abbrev Known:=Option (List a4×a4)
def Fw  (ps:List (Nat×Nat)):Nat->bq->bW Nat:=List.rec (λr G=>gO (.eu (.dc r) U) G) (λp ae au r G=>(gO (.tail (.eC p.1 p.2 r) U) G).bind au) ps
def Cu(l k:Nat)(G:bq):bW (Nat×Nat):=(gO (.eu .gK U) G).bind λi G=>(gO (.tail .gK U) G).bind λr G=>(gO (.tail (.eC l i r) U) G).bind λt G=>(gO (.eu (.dc t) U) G).bind λs G=>(join k s G).bind λae G=>.ok (i,r) G
noncomputable def Fj(l:List Nat):Nat->Option Nat:=List.rec (λae=>U) (λx ae au i=>Bool.rec (au (Nat.pred i)) (I x) (Nat.beq i 0)) l
def Hq(p:List a4×a4)(ks:List Nat)(G:bq):bW Nat:=(tF p.1 [] G).bind λq G=>(pw 6 p.2 q.2 G).bind λr G=>(vw (ks.zip q.1) G).bind λae G=>.ok r.1 G
def Lp(p:Nat×Nat)(l c6:Nat)(G:bq):bW Nat:=(gO (.tail (.eC l c6 p.2) U) G).bind λt G=>gO (.eu (.dc t) U) G
def uP(kn:Known)(ins:List Nat)(f:qM)(ks:List Nat)(G:bq):bW Nat:=match f with
 |.num _=>gO (.eu .num U) G
 |.fT i=>dT (Fj ins i) λt=>.ok t G
 |.make ls=>(gO (.tail .fin U) G).bind λr G=>Fw (ls.zip ks) r G
 |.get l=>(match ks with
  |[k]=>(Cu l k G).bind λp G=>.ok p.1 G
  |_=>.bad)
 |.put l=>(match ks with
  |[k,c6]=>(Cu l k G).bind λp G=>Lp p l c6 G
  |_=>.bad)
 |.call=>dT kn λp=>Hq p ks G
noncomputable abbrev Place:=List Nat
noncomputable def flat:Nat->List (List Place)->List Place
 |_,[]=>[]
 |k,o::fP=>o.map (λq=>k::q)++flat (k+1) fP
noncomputable def cG.yK:cG->qM
 |.a7 f _=>f
def cG.parts:cG->List cG
 |.a7 _ ps=>ps
def eg:Nat->cG->List Place
 |0,_=>[]
 |n+1,b=>flat 0 (b.parts.map (eg n))++[[]]
noncomputable def Fl(l:List cG):Nat->Option cG:=List.rec (λae=>U) (λx ae au i=>Bool.rec (au (Nat.pred i)) (I x) (Nat.beq i 0)) l
def HL(q:Place):cG->Option cG:=List.rec (λb=>I b) (λi ae au b=>opt (Fl b.parts i) au) q
noncomputable abbrev gG:=List (Place×Nat)
noncomputable def xV(p:Place):Place->Bool:=List.rec (λq=>List.rec ak (λae az bS=>aH) q) (λa ae au q=>List.rec aH (λb q ae=>Bool.rec aH (au q) (Nat.beq a b)) q) p
def lB(at_:gG)(q:Place):Option Nat:=List.rec U (λp ae au=>Bool.rec au (I p.2) (xV p.1 q)) at_
def FK(at_:gG)(q:Place)(n:Nat):Nat->Option (List Nat):=Nat.rec (λae=>I []) (λae au i=>opt (lB at_ (q++[i])) λk=>opt (au (Nat.succ i)) λks=>I (k::ks)) n
def Ey(kn:Known)(ins:List Nat)(b:cG)(q:Place)(at_:gG)(G:bq):bW gG:=dT (HL q b) λc=>dT (FK at_ q c.parts.length 0) λks=>(uP kn ins c.yK ks G).bind λt G=>.ok ((q,t)::at_) G
def GX(kn:Known)(ins:List Nat)(b:cG)(dF:List Place):gG->bq->bW gG:=List.rec (λat_ G=>.ok at_ G) (λq ae au at_ G=>(Ey kn ins b q at_ G).bind au) dF
noncomputable def deep:Nat:=9
def uJ(n:Nat)(G:bq):bq:=Nat.rec G (λae G=>ps G (.eu .gK U)) n
def mX(kn:Known)(many:Nat)(b:cG):bW gG:=GX kn (eP many) b (eg deep b) [] (uJ many o2)
inductive dr(α:Type) where
 |ok(a:α)
 |great
 |bad
noncomputable def dr.bind{α β:Type}(r:dr α)(f:α->dr β):dr β:=dr.rec f .great .bad r
noncomputable def dr.opt{α β:Type}(o:Option α)(f:α->dr β):dr β:=Option.rec .bad f o
noncomputable def qk(l:List Nat)(x:Nat):Nat->Option Nat:=List.rec (λae=>U) (λy ae au k=>Bool.rec (au (Nat.succ k)) (I k) (Nat.beq y x)) l
def x2(ms:List Nat)(t:Nat):Option (Nat×List Nat):=Option.rec (Bool.rec U (I (ms.length,ms++[t])) (Nat.ble ms.length 99)) (λi=>I (i,ms)) (qk ms t 0)
def EV(G:bq)(ms:List Nat)(t:Nat):Option (Option Nat×List Nat):=opt (iN G t) λw=>Bool.rec (I (U,ms)) (opt (x2 ms t) λp=>I (I p.1,p.2)) w.tc
structure pJ where
 k:a4
 ms:List Nat
 n:Nat
def oK(T:Nat->List Nat->Nat->dr pJ)(G:bq)(fs:Row)(ls:List Nat):List Nat->Nat->dr (List (Nat×a4)×List Nat×Nat):=List.rec (λms n=>.ok ([],ms,n))
 (λl ae au ms n=>.opt (lk fs l) λt=>.opt (lb G t) λk=>(T k ms n).bind λp=>(au p.ms p.n).bind λq=>.ok ((l,p.k)::q.1,q.2)) ls
def JW(T:Nat->List Nat->Nat->dr pJ)(G:bq)(t:Nat)(ms:List Nat)(n:Nat)(w:gV):dr pJ:=gV.rec (.opt (x2 ms t) λp=>.ok ⟨.blank p.1,p.2,n⟩) (.ok ⟨.num,ms,n⟩)
 (λae=>.opt (rowOf G t) λp=>(oK T G p.1 (ew (p.1.map (·.1))) ms n).bind λq=>.opt (EV G q.2.1 p.2) λr=>.ok ⟨.dc q.1 r.1,r.2,q.2.2⟩) w
def q5(n:Nat)(G:bq):Nat->List Nat->Nat->dr pJ:=Nat.rec (λae az bS=>.great) (λae au i ms kn=>Bool.rec .great (.opt (iy G i) λt=>.opt (q9 G t) λa=>JW au G t ms (Nat.succ kn) a) (Nat.ble kn 199)) n
def oL(G:bq)(i:Nat)(ms:List Nat)(kn:Nat):dr pJ:=q5 12 G i ms kn
def oJ(G:bq)(is:List Nat):List Nat->Nat->dr (List a4×List Nat×Nat):=List.rec (λms kn=>.ok ([],ms,kn)) (λi ae au ms kn=>(oL G i ms kn).bind λp=>(au p.ms p.n).bind λq=>.ok (p.k::q.1,q.2)) is
def qh(G:bq)(ins:List Nat)(at_:gG):dr ((List a4×a4)×List Nat):=(oJ G ins [] 0).bind λp=>.opt (lB at_ []) λt=>(oL G t p.2.1 p.2.2).bind λq=>.ok ((p.1,q.k),q.ms)
structure iq where
 nm:Nat
 many:Nat
 b:cG
noncomputable abbrev ih:=List (Nat×(List a4×a4))
noncomputable def ze:qM->Nat->Bool
 |.num _,n=>n==0
 |.fT _,n=>n==0
 |.make ls,n=>n==ls.length&&decide (n<=30)
 |.get _,n=>n==1
 |.put _,n=>n==2
 |.call,n=>decide (n<=30)
def i4:Nat->cG->Bool
 |0,_=>aH
 |n+1,b=>ze b.yK b.parts.length&&b.parts.all (i4 n)
def rT(bb:ih)(d:iq):Bool:=i4 deep d.b&&(Nat.ble (eg deep d.b).length 1000&&(Nat.ble d.many 30&&(Nat.ble d.nm 2&&(Nat.ble bb.length 99&&bb.all λp=>!Nat.beq p.1 d.nm))))
noncomputable def l2(bb:ih):Known:=List.rec U (λp ae au=>Bool.rec au (I p.2) (Nat.beq p.1 0)) bb
inductive je where
 |good(bb:ih)
 |great
 |bad
def qy(bb:ih)(d:iq)(next:ih->je):bW gG->je
 |.ok at_ G=>(match qh G (eP d.many) at_ with
  |.ok p=>Bool.rec .bad (next (bb++[(d.nm,p.1)])) (Nat.ble p.1.1.length 30)
  |.great=>.great
  |.bad=>.bad)
 |.bad=>.bad
def fR:List iq->ih->je
 |[],bb=>.good bb
 |d::ds,bb=>Bool.rec .bad (qy bb d (fR ds) (mX (l2 bb) d.many d.b)) (rT bb d)
def nS(G:bq)(at_:gG):List Place->List Nat->dr (List a4)
 |[],_=>.ok []
 |q::dF,ms=>.opt (lB at_ q) λt=>(oL G t ms 0).bind λp=>(nS G at_ dF p.ms).bind λks=>.ok (p.k::ks)
end
noncomputable section
noncomputable def mz(z:Int):cG:=.a7 (.num z) []
noncomputable def i9(i:Nat):cG:=.a7 (.fT i) []
def kQ(ps:List (Nat×cG)):cG:=.a7 (.make (ps.map (·.1))) (ps.map (·.2))
noncomputable def tQ(b:cG)(l:Nat):cG:=.a7 (.get l) [b]
noncomputable def HE(b:cG)(l:Nat)(c:cG):cG:=.a7 (.put l) [b,c]
noncomputable def r2(a:cG):cG:=.a7 .call [a]
noncomputable def gb:Nat->Nat->List Nat
 |_,0=>[]
 |l,n+1=>l::gb (l+8) n
def rO:cG->List Nat->cG
 |b,[]=>b
 |b,l::ls=>rO (tQ b l) ls
def E7:cG->List Nat->cG
 |b,[]=>b
 |b,[l]=>HE b l (mz 7)
 |b,l::ls=>HE b l (E7 (tQ b l) ls)
noncomputable def openK:List Nat->Nat->a4×Nat
 |[],k=>(.blank k,k+1)
 |l::ls,k=>(.dc [(l,(openK ls k).1)] (I (openK ls k).2),(openK ls k).2+1)
def ru:List Nat->List Bool->Bool->Int->cG
 |[],_,e,hT=>if e then kQ [(24,mz 1)] else mz hT
 |l::ls,zs,e,hT=>kQ (if zs.headD aH then [(l+1,mz 2),(l,ru ls zs.tail e (hT+1))] else [(l,ru ls zs.tail e (hT+1))])
noncomputable def nT:List Nat->List Bool->Bool->a4
 |[],_,e=>if e then .dc [(24,.num)] U else .num
 |l::ls,zs,e=>.dc (if zs.headD aH then [(l,nT ls zs.tail e),(l+1,.num)] else [(l,nT ls zs.tail e)]) U
noncomputable def y5(l:Nat)(C:a4->a4):List (Nat×a4)->List (Nat×a4)
 |[]=>[]
 |p::fs=>(p.1,if p.1=l then C p.2 else p.2)::y5 l C fs
def pE:List Nat->a4->a4
 |[],_=>.num
 |l::ls,k=>match k with
  |.dc fs r=>.dc (y5 l (pE ls) fs) r
  |k=>k
noncomputable def atK:List Nat->a4->a4
 |[],k=>k
 |l::ls,k=>match k with
  |.dc fs r=>atK ls (((fs.find? λp=>p.1==l).map (·.2)).getD .num)
  |k=>k
inductive eK where
 |fT(i:Nat)
 |made(zs:List Bool)(e:Bool)
def eK.body(ls:List Nat):eK->cG
 |.fT i=>i9 i
 |.made zs e=>ru ls zs e 0
noncomputable def eK.pb(k:Nat):eK->Bool
 |.fT i=>i==k
 |_=>aH
def l7(ls:List Nat)(a b:eK)(k:Nat)(n:Nat):a4×Nat:=if a.pb k || b.pb k then openK ls n else (.blank n,n+1)
def xQ(ls:List Nat)(put:Bool)(l8 cL:a4)(t:eK):a4:=
 let k:=match t with
  |.fT i=>if i=0 then l8 else cL
  |.made zs e=>nT ls zs e
 if put then pE ls k else atK ls k
def fBody(ls:List Nat)(put:Bool):cG:=if put then E7 (i9 0) ls else rO (i9 0) ls
def fV(ls:List Nat)(put:Bool):List a4×a4:=([(openK ls 0).1],if put then pE ls (openK ls 0).1 else atK ls (openK ls 0).1)
def n9(ls:List Nat)(a b:eK):cG:=kQ [(33,r2 (b.body ls)),(32,r2 (a.body ls))]
def ni(ls:List Nat)(put:Bool)(a b:eK):List a4×a4:=
 let p:=l7 ls a b 0 0
 let q:=l7 ls a b 1 p.2
 ([p.1,q.1],.dc [(32,xQ ls put p.1 q.1 a),(33,xQ ls put p.1 q.1 b)] U)
def ng:cG:=r2 (r2 (i9 0))
mutual
noncomputable def a4.beq:a4->a4->Bool
 |.num,.num=>ak
 |.blank i,.blank j=>i==j
 |.dc fs r,.dc gs q=>a4.HA fs gs&&r==q
 |_,_=>aH
noncomputable def a4.HA:List (Nat×a4)->List (Nat×a4)->Bool
 |[],[]=>ak
 |p::fs,q::gs=>p.1==q.1&&(p.2.beq q.2&&a4.HA fs gs)
 |_,_=>aH
end
noncomputable def Bi:List a4->List a4->Bool
 |[],[]=>ak
 |a::l,b::m=>a.beq b&&Bi l m
 |_,_=>aH
def Ae:ih->List (List a4×a4)->Bool
 |[],[]=>ak
 |p::bb,q::dF=>Bi p.2.1 q.1&&(p.2.2.beq q.2&&Ae bb dF)
 |_,_=>aH
def je.td(ks:List (List a4×a4)):je->Bool
 |.good bb=>Ae bb ks
 |_=>aH
noncomputable def je.MK:je->Bool
 |.great=>ak
 |_=>aH
noncomputable def bools:List Bool:=[aH,ak]
noncomputable def DI:Nat->List (List Bool)
 |0=>[[]]
 |n+1=>(DI n).flatMap λz=>bools.map λb=>b::z
def k4(n:Nat):List eK:=[.fT 0,.fT 1]++(DI n).flatMap λz=>bools.map λe=>.made z e
noncomputable def xY:Nat->a4->Bool
 |0,_=>aH
 |n+1,k=>match k with
  |.dc fs _=>fs.all λp=>xY n p.2
  |_=>ak
def oY(n:Nat)(p:List a4×a4):Bool:=p.1.all (xY n)&&xY n p.2
def Xj(n:Nat)(put:Bool):Bool:=(fR [⟨0,1,fBody (gb 0 n) put⟩] []).td [fV (gb 0 n) put]&&oY 14 (fV (gb 0 n) put)
def LG(ls:List Nat)(put:Bool)(a b:eK):Bool:=(fR [⟨1,2,n9 ls a b⟩] [(0,fV ls put)]).td [fV ls put,ni ls put a b]&&oY 14 (ni ls put a b)
def LK(n:Nat):Bool:=(fR [⟨2,1,ng⟩] [(0,fV (gb 0 n) ak)]).td [fV (gb 0 n) ak,fV (gb 0 n) ak]
def rn(n:Nat)(put:Bool)(a:eK):Bool:=(k4 n).all λb=>LG (gb 0 n) put a b
def vk:List Nat->cG->cG
 |[],b=>b
 |l::ls,b=>vk ls (kQ [(l,b)])
def DP(ls:List Nat)(b:cG):cG:=kQ (ls.map λl=>(l,b))
def qA:Nat->cG->cG
 |0,b=>b
 |n+1,b=>r2 (qA n b)
noncomputable def vj:List Nat->a4->a4
 |[],k=>k
 |l::ls,k=>vj ls (.dc [(l,k)] U)
def xg(ls:List Nat)(k:a4):a4:=.dc ((ew ls).map λl=>(l,k)) U
def BU(ls:List Nat)(wide:Bool):cG:=if wide then DP ls (i9 0) else vk ls (i9 0)
def p6(ls:List Nat)(wide:Bool)(s:a4×Nat×Nat):a4×Nat×Nat:=if wide then (xg ls s.1,1+ls.length*s.2.1,s.2.2+1) else (vj ls s.1,s.2.1+ls.length,s.2.2+ls.length)
def pB(ls:List Nat)(wide:Bool):Nat->a4×Nat×Nat
 |0=>(.blank 0,1,1)
 |n+1=>p6 ls wide (pB ls wide n)
def gE(ls:List Nat)(wide:Bool)(times more:Nat):Option (List a4×a4):=
 let s:=pB ls wide times
 if 200<s.2.1+more\/12<s.2.2+more-1 then U else I ([.blank 0],s.1)
def hJ(ls:List Nat)(wide:Bool):iq:=⟨0,1,BU ls wide⟩
def ib(t:Nat):iq:=⟨1,1,qA t (i9 0)⟩
def tB(t:Nat):cG:=tQ (kQ [(40,qA t (i9 0)),(41,mz 3)]) 41
def hD(t:Nat):iq:=⟨2,1,tB t⟩
noncomputable def jN(wide:Bool)(m:Nat):List Nat:=if wide then [48,49,50,51].take m else [56,64,72,80].take m
def e9(wide:Bool)(m:Nat):List a4×a4:=([.blank 0],(pB (jN wide m) wide 1).1)
noncomputable def rM:List a4×a4:=([.blank 0],.num)
noncomputable def ins(x:Nat):List Nat->List (List Nat)
 |[]=>[[x]]
 |y::r=>(x::y::r)::(ins x r).map (y :: ·)
def perms:List Nat->List (List Nat)
 |[]=>[[]]
 |x::r=>(perms r).flatMap (ins x)
def Fh(ls:List Nat)(wide:Bool)(m:Nat):Bool:=(fR [hJ ls wide] []).td [e9 wide m]
def Fg(wide:Bool)(m t:Nat):Bool:=match gE (jN wide m) wide t 1 with
 |none=>(fR [ib t] [(0,e9 wide m)]).MK
 |some p=>(fR [ib t] [(0,e9 wide m)]).td [e9 wide m,p]&&oY 14 p
def LH(q:Option (List a4×a4)):dr (List a4)->Bool
 |.great=>q.isNone
 |.ok mk=>(match q with
  |some q=>Bi ((mk.drop (mk.length-4)).take 2) [q.2,.num]&&(xY 14 q.2&&Nat.ble 4 mk.length)
  |none=>aH)
 |.bad=>aH
def Xh(wide:Bool)(m t:Nat):Bool:=(fR [hD t] [(0,e9 wide m)]).td [e9 wide m,rM]&&(match mX (l2 [(0,e9 wide m)]) 1 (tB t) with
 |.ok at_ G=>(match qh G [0] at_ with
  |.ok p=>LH (gE (jN wide m) wide t 2) (nS G at_ (eg deep (tB t)) p.2)
  |_=>aH)
 |.bad=>aH)
end
structure H4(x:dZ)(f:Nat)(t:fK)(i:Nat)(bX:fK):Prop where
 k:∀k,fK.setC x f t i k=k bX
 ne:∀j,i≠j->fK.get f bX j=fK.get f t j
 self:i+1<2 ^ f->fK.get f bX i=I x
theorem kP{i j:Nat}(h:i≠j):Nat.beq i j=aH:=zY.mpr λe=>h (uq e)
theorem mw{i j:Nat}(h:i=j):Nat.beq i j=ak:=h ▸ ajN _
section
variable {x:dZ}{f i j:Nat}{n:Option dZ}{l r:fK}
theorem rQ(h:j≠0)(h':j % 2=0):fK.get (f+1) (.a7 n l r) j=fK.get f r (j / 2-1):=by
 refine(?_:(Bool.rec (Bool.rec (fK.get f l (Nat.div j 2)) (fK.get f r (Nat.pred (Nat.div j 2))) (Nat.beq (Nat.mod j 2) 0)) n (Nat.beq j 0):Option dZ)=_);rw[kP h,show Nat.beq (Nat.mod j 2) 0=ak from mw h'];rfl
theorem rP(h:j % 2≠0):fK.get (f+1) (.a7 n l r) j=fK.get f l (j / 2):=by
 refine(?_:(Bool.rec (Bool.rec (fK.get f l (Nat.div j 2)) (fK.get f r (Nat.pred (Nat.div j 2))) (Nat.beq (Nat.mod j 2) 0)) n (Nat.beq j 0):Option dZ)=_);rw[show Nat.beq (Nat.mod j 2) 0=aH from kP h,kP (show j≠0 from λe=>h (by rw[e]))];rfl
theorem GK(h:i % 2=j % 2)(e:i / 2=j / 2):i=j:=by rw[<-Dt i 2,e,h,Dt]
theorem GJ(h:i≠0)(hp:i % 2=0):0<i / 2:=Nat.pos_of_ne_zero λe=>h (GK hp e)
theorem Fi(h:i % 2≠0):i % 2=1:=(Nat.mod_two_eq_zero_or_one i).resolve_left h
theorem aam(h:i % 2≠0):2*(i / 2+1)=i+1:=dR (· + 1) ((dR (2*(i / 2) + ·) (Fi h).symm).trans (Dt i 2))
theorem KB(au:∀t i,∃bX,H4 x f t i bX)(i:Nat):∃bX,H4 x (f+1) (.a7 n l r) i bX:=by
 by_cases h:i=0
 ·subst h;exact⟨.a7 (I x) l r,λk=>ab,λj bw=>by
   by_cases hp:j % 2=0
   ·rw[rQ (lL bw) hp,rQ (lL bw) hp]
   ·rw[rP hp,rP hp],λae=>ab⟩
 by_cases hp:i % 2=0
 ·obtain⟨dn,h'⟩:=au r (i / 2-1);refine⟨.a7 n l dn,λk=>?_,λj bw=>?_,λaD=>?_⟩
  ·refine(?_:(Bool.rec (Bool.rec _ (fK.setC x f r (Nat.pred (Nat.div i 2)) _) (Nat.beq (Nat.mod i 2) 0)) _ (Nat.beq i 0):bq)=_);rw[kP h,show Nat.beq (Nat.mod i 2) 0=ak from mw hp];exact h'.k _
  ·by_cases aV:j=0
   ·rw[aV];rfl
   by_cases aL:j % 2=0
   ·rw[rQ aV aL,rQ aV aL];exact h'.ne _ λe=>bw (GK (hp.trans aL.symm) (Nat.pred_inj (GJ h hp) (GJ aV aL) e))
   ·rw[rP aL,rP aL]
  ·rw[rQ h hp];exact h'.self (by rw[IV (GJ h hp)];exact Nat.div_lt_of_lt_mul (w3 (Nat.lt_of_succ_lt aD) (RU _ _)))
 ·obtain⟨l',h'⟩:=au l (i / 2);refine⟨.a7 n l' r,λk=>?_,λj bw=>?_,λaD=>?_⟩
  ·refine(?_:(Bool.rec (Bool.rec (fK.setC x f l (Nat.div i 2) _) _ (Nat.beq (Nat.mod i 2) 0)) _ (Nat.beq i 0):bq)=_);rw[kP h,show Nat.beq (Nat.mod i 2) 0=aH from kP hp];exact h'.k _
  ·by_cases aV:j=0
   ·rw[aV];rfl
   by_cases aL:j % 2=0
   ·rw[rQ aV aL,rQ aV aL]
   ·rw[rP aL,rP aL];exact h'.ne _ λe=>bw (GK ((Fi hp).trans (Fi aL).symm) e)
  ·rw[rP hp];exact h'.self (Nat.lt_of_mul_lt_mul_left (a:=2) (fz (sr (aam hp)) (w3 aD (RU _ _))))
theorem get_nil:fK.get f .nil j=U:=by cases f <;> rfl
theorem uT:∀(f:Nat) (t:fK) (i:Nat),∃bX,H4 x f t i bX:=by
 intro f
 induction f with
 |zero=>exact λt i=>⟨t,λae=>ab,λae az=>ab,λh=>absurd (RX h) (ajF _)⟩
 |succ f au=>
  intro t i
  induction t using fK.casesOn with
  |a7 n l r=>exact KB au i
  |nil=>
   obtain⟨bX,h⟩:=KB (n:=U) (l:=.nil) (r:=.nil) au i;refine⟨bX,h.k,λj bw=>(h.ne j bw).trans ?_,h.self⟩;by_cases aV:j=0
   ·rw[aV];rfl
   by_cases aL:j % 2=0
   ·rw[rQ aV aL,get_nil,get_nil]
   ·rw[rP aL,get_nil,get_nil]
end
section
variable {G:bq}{x:dZ}{i j:Nat}
theorem sI:(st G i x).len=G.len:=by obtain⟨bX,h⟩:=uT (x:=x) 10 G.t i;unfold st;rw[h.k]
theorem BS(bw:i≠j):gt (st G i x) j=gt G j:=by obtain⟨bX,h⟩:=uT (x:=x) 10 G.t i;unfold st gt;rw[h.k];exact h.ne j bw
theorem GV(aR:i<1000):gt (st G i x) i=I x:=by obtain⟨bX,h⟩:=uT (x:=x) 10 G.t i;unfold st gt;rw[h.k];exact h.self (by omega)
theorem sR:(ps G x).len=G.len+1:=by obtain⟨bX,h⟩:=uT (x:=x) 10 G.t G.len;unfold ps;rw[h.k]
theorem BR(bw:G.len≠j):gt (ps G x) j=gt G j:=by obtain⟨bX,h⟩:=uT (x:=x) 10 G.t G.len;unfold ps gt;rw[h.k];exact h.ne j bw
theorem GW(aR:G.len<1000):gt (ps G x) G.len=I x:=by obtain⟨bX,h⟩:=uT (x:=x) 10 G.t G.len;unfold ps gt;rw[h.k];exact h.self (by omega)
end
end Mine.Internal
namespace Mine.Internal
open PySem
noncomputable def ad(ρ:List Nat)(i:Nat):Nat:=ρ.getD i 0
noncomputable def gV.word:gV->Str
 |.gK => "unknown"
 |.num => "number"
 |.dc _ => "record"
def gV.rest(ρ:List Nat):gV->V
 |.dc r=>.ref (ad ρ r)
 |_=>.none
noncomputable def TW.word:TW->Str
 |.gK => "unknown"
 |.fin => "end"
 |.eC _ _ _ => "label"
def TW.rest(ρ:List Nat):TW->V
 |.eC _ _ r=>.ref (ad ρ r)
 |_=>.none
noncomputable def TW.label(φ:Nat->Str):TW->V
 |.eC l _ _=>.str (φ l)
 |_=>.str ""
def TW.kind(ρ:List Nat):TW->V
 |.eC _ k _=>.ref (ad ρ k)
 |_=>.none
def zb(ρ:List Nat):Option Nat->V
 |some m=>.ref (ad ρ m)
 |none=>.none
noncomputable def dZ.cls:dZ->Str
 |.eu _ _ => "Spot"
 |.tail _ _ => "Tail"
noncomputable def dZ.word:dZ->Str
 |.eu w _=>w.word
 |.tail w _=>w.word
noncomputable def dZ.rest(ρ:List Nat):dZ->V
 |.eu w _=>w.rest ρ
 |.tail w _=>w.rest ρ
noncomputable def xD(a b c d:V):List (Str×V):=[("word",a),("use",b),("rest",c),("became",d)]
noncomputable def xu(a b c d e f:V):List (Str×V):=[("word",a),("use",b),("rest",c),("label",d),("kind",e),("became",f)]
def dZ.eU(φ:Nat->Str)(ρ:List Nat)(u:Int):dZ->List (Str×V)
 |.eu w b=>xD (.str w.word) (.int u) (w.rest ρ) (zb ρ b)
 |.tail w b=>xu (.str w.word) (.int u) (w.rest ρ) (w.label φ) (w.kind ρ) (zb ρ b)
noncomputable def gV.refs:gV->List Nat
 |.dc r=>[r]
 |_=>[]
noncomputable def TW.refs:TW->List Nat
 |.eC _ k r=>[k,r]
 |_=>[]
noncomputable def dZ.refs:dZ->List Nat
 |.eu w b=>w.refs++b.toList
 |.tail w b=>w.refs++b.toList
def dZ.wf(n:Nat)(a7:dZ):Prop:=∀m∈a7.refs,m<n
inductive kX(φ:Nat->Str)(σ:aq)(ρ:List Nat)(a:Nat)(a7:dZ):Prop
 |mk(k:Nat)(u:Int)(h1:a=k+1)(h2:0<k)(h3:σ[k+1]? =some (.inst a7.cls k))(bf:σ[k]? =some (.bI (a7.eU φ ρ u))):kX φ σ ρ a a7
structure bD(φ:Nat->Str)(σ:aq)(ρ:List Nat)(G:bq):Prop where
 len:ρ.length=G.len
 hG:G.len<=1000
 inj:∀{i j:Nat},i<G.len->j<G.len->ad ρ i=ad ρ j->i=j
 lt:∀{i:Nat}{a7:dZ},gt G i=I a7->i<G.len
 wf:∀(i:Nat) a7,gt G i=I a7->a7.wf G.len
 ex:∀{i:Nat},i<G.len->∃a7,gt G i=I a7
 at_:∀(i:Nat) a7,gt G i=I a7->kX φ σ ρ (ad ρ i) a7
 pos:0<σ.length
noncomputable def rB:O->Bool
 |.bI l=>(l.lookup ("became" : Str)).isSome
 |_=>aH
structure bx(σ af:aq):Prop where
 len:σ.length<=af.length
 at_:∀{n:Nat}{o:O},σ[n]? =I o->rB o=aH->af[n]? =I o
section
variable {φ:Nat->Str}{σ af eF aC:aq}{ρ aA:List Nat}{G cJ:bq}{d i j n m:Nat}{a7 vl:dZ}{b:Option Nat}{v r5 r4 r3:V}{o o':O}{l:List (Str×V)}
theorem bx.refl:bx σ σ:=⟨cI _,λe ae=>e⟩
theorem bx.trans(h:bx σ af)(h':bx af eF):bx σ eF:=⟨b7 h.len h'.len,λe f=>h'.at_ (h.at_ e f) f⟩
theorem bx.push:bx σ (σ++[o]):=⟨by simp,λe ae=>cK e⟩
theorem bx.new(h:bx σ aC):bx σ (aC++[o]):=h.trans .push
theorem bx.hQ{k:Nat}(h:bx σ aC)(ao:σ.length<=k):bx σ (aC.set k o):=⟨by rw[kB];exact h.len,λ{n o'} e f=>by
 rw[oC (λeq=>by have:=dy e;exact sZ (gq 0x842101021300213142229021 ab ao eq this))];exact h.at_ e f⟩
theorem bx.KA{k:Nat}(h:bx σ aC)(e:aC[k]? =I o)(a8:rB o=ak):bx σ (aC.set k o'):=⟨by rw[kB];exact h.len,λ{n p} bg f=>by
 have aO:=h.at_ bg f;rw[oC (λeq=>by subst eq;rw[e]at aO;cases aO;rw[a8]at f;exact nE f)];exact aO⟩
theorem bx.list{k:Nat}{l:List V}(h:bx σ af)(e:σ[k]? =I (.list l)):af[k]? =I (.list l):=h.at_ e ab
theorem bx.dict{k v:Nat}{l:Tab}(h:bx σ af)(e:σ[k]? =I (.dict v l)):af[k]? =I (.dict v l):=h.at_ e ab
theorem BX{u:Int}:rB (.bI (a7.eU φ ρ u))=ak:=by cases a7 <;> rfl
theorem Ob{u:Int}:(a7.eU φ ρ u).length<bz:=by
 induction a7 with
 |eu _ _=>refine(?_:4<bz);decide +kernel
 |tail _ _=>refine(?_:6<bz);decide +kernel
noncomputable def L5:List Str×List Str:=(["__init__"],["word", "use", "rest", "became"])
noncomputable def Fq:List Str×List Str:=(["__init__"],["word", "use", "rest", "label", "kind", "became"])
theorem Ck:(av d).cls "Spot" = I L5:=rfl
theorem rV:(av d).cls "Tail" = I Fq:=rfl
theorem Cj(x:Str)(aI:x = "word" \/ x = "use" \/ x = "rest" \/ x = "became"):∃ms,(av d).cls a7.cls=I ms/\ms.2.contains x=ak:=by
 induction a7 with
 |eu _ _=>exact⟨L5,ab,by rcases aI with rfl|rfl|rfl|rfl <;> decide +kernel⟩
 |tail _ _=>exact⟨Fq,ab,by rcases aI with rfl|rfl|rfl|rfl <;> decide +kernel⟩
theorem OW(x:Str)(aI:x = "label" \/ x = "kind"):∃ms,(av d).cls "Tail" = I ms/\ms.2.contains x=ak:=
 ⟨Fq,ab,by rcases aI with rfl|rfl <;> decide +kernel⟩
theorem kX.inst{a:Nat}(h:kX φ σ ρ a a7):∃k,σ[a]? =I (.inst a7.cls k):=by obtain⟨k,_,rfl,_,e,_⟩:=h;exact⟨k,e⟩
theorem kX.lt{a:Nat}(h:kX φ σ ρ a a7):a<σ.length:=by obtain⟨k,e⟩:=h.inst;exact dy e
theorem E0{x:Str}(g:bD φ σ ρ G)(e:gt G i=I a7)(aI:x = "word" \/ x = "use" \/ x = "rest" \/ x = "became")(aK:∀u,(a7.eU φ ρ u).lookup x=I v):cc (av d) x (.ref (ad ρ i)) σ=.ok v σ:=by
 refine aE λkk=>?_;obtain⟨k,u,dB,_,ax,aO⟩:=g.at_ i a7 e;obtain⟨ms,h1,h2⟩:=Cj (d:=d) (a7:=a7) x aI;refine kk ?_;rw[dB];exact nL ax aO h1 h2 (aK u)
theorem h6(g:bD φ σ ρ G)(e:gt G i=I a7):cc (av d) "word" (.ref (ad ρ i)) σ=.ok (.str a7.word) σ:=E0 g e (.inl ab) (by cases a7 <;> exact λae=>ab)
theorem sP(g:bD φ σ ρ G)(e:gt G i=I a7):∃u:Int,cc (av d) "use" (.ref (ad ρ i)) σ=.ok (.int u) σ:=by
 refine aE λkk=>?_;obtain⟨k,u,dB,_,ax,aO⟩:=g.at_ i a7 e;obtain⟨ms,h1,h2⟩:=Cj (d:=d) (a7:=a7) "use" (.inr (.inl ab));refine kk ⟨u,?_⟩;rw[dB];exact nL ax aO h1 h2 (by cases a7 <;> rfl)
theorem Li(g:bD φ σ ρ G)(e:gt G i=I a7):cc (av d) "rest" (.ref (ad ρ i)) σ=.ok (a7.rest ρ) σ:=E0 g e (.inr (.inr (.inl ab))) (by cases a7 <;> exact λae=>ab)
theorem E1(g:bD φ σ ρ G)(e:gt G i=I a7):cc (av d) "became" (.ref (ad ρ i)) σ=.ok (zb ρ a7.pG) σ:=E0 g e (.inr (.inr (.inr ab))) (by cases a7 <;> exact λae=>ab)
theorem Wq{w:TW}(g:bD φ σ ρ G)(e:gt G i=I (.tail w b)):cc (av d) "label" (.ref (ad ρ i)) σ=.ok (w.label φ) σ:=by
 refine aE λkk=>?_;obtain⟨k,u,dB,_,ax,aO⟩:=g.at_ i _ e;obtain⟨ms,h1,h2⟩:=OW (d:=d) "label" (.inl ab);refine kk ?_;rw[dB];exact nL ax aO h1 h2 ab
theorem u0{w:TW}(g:bD φ σ ρ G)(e:gt G i=I (.tail w b)):cc (av d) "kind" (.ref (ad ρ i)) σ=.ok (w.kind ρ) σ:=by
 refine aE λkk=>?_;obtain⟨k,u,dB,_,ax,aO⟩:=g.at_ i _ e;obtain⟨ms,h1,h2⟩:=OW (d:=d) "kind" (.inr ab);refine kk ?_;rw[dB];exact nL ax aO h1 h2 ab
theorem bD.inst(g:bD φ σ ρ G)(h:i<G.len):∃c k,σ[ad ρ i]? =I (.inst c k):=by
 obtain⟨a7,e⟩:=g.ex h;obtain⟨k,e⟩:=(g.at_ i a7 e).inst;exact⟨_,k,e⟩
theorem Cs(g:bD φ σ ρ G)(aR:i<G.len)(bw:j<G.len):(ad ρ i==ad ρ j)=Nat.beq i j:=by
 by_cases q:i=j
 ·rw[mw q,q,jJ]
 ·rw[kP q,wY];exact λe=>q (g.inj aR bw e)
theorem B2(g:bD φ σ ρ G)(aR:i<G.len)(bw:j<G.len):cmp .Eq (.ref (ad ρ i)) (.ref (ad ρ j)) σ=.ok (.bool (Nat.beq i j)) σ:=by
 refine aE λkk=>?_;obtain⟨_,_,e⟩:=g.inst aR;obtain⟨_,_,bg⟩:=g.inst bw;refine kk ?_;rw[u3 (z8 e bg),Cs g aR bw]
theorem Xw(g:bD φ σ ρ G)(aR:i<G.len)(bw:j<G.len):cmp .NotEq (.ref (ad ρ i)) (.ref (ad ρ j)) σ=.ok (.bool (!Nat.beq i j)) σ:=by
 refine aE λkk=>?_;obtain⟨_,_,e⟩:=g.inst aR;obtain⟨_,_,bg⟩:=g.inst bw;refine kk ?_;rw[AB (z8 e bg),Cs g aR bw]
theorem kX.le{a:Nat}(h:kX φ σ ρ a a7)(le:∀{k:Nat}{o:O},σ[k]? =I o->af[k]? =I o):kX φ af ρ a a7:=by
 obtain⟨k,u,e,aV,ax,aO⟩:=h;exact⟨k,u,e,aV,le ax,le aO⟩
theorem bD.le(g:bD φ σ ρ G)(aj:σ.length<=af.length)(l:∀{k:Nat}{o:O},σ[k]? =I o->af[k]? =I o):bD φ af ρ G:=⟨g.len,g.hG,g.inj,g.lt,g.wf,g.ex,λi a7 e=>(g.at_ i a7 e).le l,di g.pos aj⟩
theorem bD.push(g:bD φ σ ρ G):bD φ (σ++[o]) ρ G:=g.le (by simp) λe=>cK e
theorem bD.set{k:Nat}(g:bD φ σ ρ G)(e:σ[k]? =I o)(h1:rB o=aH)(h2:∀c j,o≠.inst c j):bD φ (σ.set k o') ρ G:=⟨g.len,g.hG,g.inj,g.lt,g.wf,g.ex,λn a7 q=>by
 obtain⟨j,u,dx,aV,ax,aO⟩:=g.at_ n a7 q;refine⟨j,u,dx,aV,ea (λx=>?_) ax,ea (λx=>?_) aO⟩
 ·subst x;replace ax:=e ▸ ax;cases ax;exact h2 _ _ ab
 ·subst x;replace aO:=e ▸ aO;cases aO;replace h1:=BX ▸ h1;exact nE h1,by rw[kB];exact g.pos⟩
theorem bD.oR{k:Nat}{l:List V}(g:bD φ σ ρ G)(e:σ[k]? =I (.list l)):bD φ (σ.set k o) ρ G:=g.set e ab nofun
theorem bD.sL{k v:Nat}{l:Tab}(g:bD φ σ ρ G)(e:σ[k]? =I (.dict v l)):bD φ (σ.set k o) ρ G:=g.set e ab nofun
theorem kX.set{k:Nat}{a:Nat}(h:kX φ σ ρ a a7)(e:σ[k]? =I (.bI l))(aM:a≠k+1):kX φ (σ.set k o) ρ a a7:=by
 obtain⟨m,u,dx,aaC,Ca,acr⟩:=h;refine⟨m,u,dx,aaC,ea (λx=>?_) Ca,ea (λx=>?_) acr⟩
 ·subst x;replace Ca:=e ▸ Ca;cases Ca
 ·subst x;exact aM dx
theorem bD.put{k:Nat}{u u':Int}(g:bD φ σ ρ G)(e:gt G i=I a7)(dB:ad ρ i=k+1)(aV:0<k)(ax:σ[k+1]? =I (.inst a7.cls k))(aO:σ[k]? =I (.bI (a7.eU φ ρ u)))(ay:vl.cls=a7.cls)(hw:vl.wf G.len):bD φ (σ.set k (.bI (vl.eU φ ρ u'))) ρ (st G i vl) where
 len:=by rw[sI];exact g.len
 hG:=by rw[sI];exact g.hG
 inj:=λaR bw=>g.inj (sI ▸ aR) (sI ▸ bw)
 lt:=λ{j n} q=>by
  rw[sI];by_cases fE:i=j
  ·exact fE ▸ g.lt e
  ·replace q:=(BS fE ..) ▸ q;exact g.lt q
 wf:=λj n q=>by
  rw[sI];by_cases fE:i=j
  ·subst fE;replace q:=(GV (di (g.lt e) g.hG) ..) ▸ q;cases q;exact hw
  ·replace q:=(BS fE ..) ▸ q;exact g.wf j n q
 ex:=λ{j} h=>by
  by_cases fE:i=j
  ·subst fE;exact⟨_,GV (di (g.lt e) g.hG)⟩
  ·rw[BS fE];exact g.ex (sI ▸ h)
 at_:=λj n q=>by
  by_cases fE:i=j
  ·subst fE;replace q:=(GV (di (g.lt e) g.hG) ..) ▸ q;cases q;exact⟨k,u',dB,aV,by rw[ay,oC (fZ (jK _))];exact ax,fg aO⟩
  ·replace q:=(BS fE ..) ▸ q;exact(g.at_ j n q).set aO λdx=>fE (g.inj (g.lt e) (g.lt q) (dB.trans dx.symm))
 pos:=by rw[kB];exact g.pos
theorem bD.WB{k:Nat}{u u':Int}(g:bD φ σ ρ G)(e:gt G i=I a7)(dB:ad ρ i=k+1)(aV:0<k)(ax:σ[k+1]? =I (.inst a7.cls k))(aO:σ[k]? =I (.bI (a7.eU φ ρ u))):bD φ (σ.set k (.bI (a7.eU φ ρ u'))) ρ G:=⟨g.len,g.hG,g.inj,g.lt,g.wf,g.ex,λj n q=>by
  by_cases fE:i=j
  ·subst fE;replace q:=e ▸ q;cases q;exact⟨k,u',dB,aV,by rw[oC (fZ (jK _))];exact ax,fg aO⟩
  ·exact(g.at_ j n q).set aO λdx=>fE (g.inj (g.lt e) (g.lt q) (dB.trans dx.symm)),by rw[kB];exact g.pos⟩
theorem acS:(a7.setB b).cls=a7.cls:=by cases a7 <;> rfl
theorem SJ(h:a7.wf n)(bw:j<n):(a7.setB (I j)).wf n:=by
 induction a7 with
 |eu w b=>exact λm hm=>(hs.mp hm).elim (λhm=>h m (oB _ hm)) λhm=>by rw[bT.mp hm];exact bw
 |tail w b=>exact λm hm=>(hs.mp hm).elim (λhm=>h m (oB _ hm)) λhm=>by rw[bT.mp hm];exact bw
theorem aa4{u:Int}:hH (a7.eU φ ρ u) "became" (.ref (ad ρ j))=(a7.setB (I j)).eU φ ρ u:=by cases a7 <;> rfl
theorem aa3{u u':Int}:hH (a7.eU φ ρ u) "use" (.int u')=a7.eU φ ρ u':=by cases a7 <;> rfl
theorem SQ(g:bD φ σ ρ G)(e:gt G i=I a7)(bw:j<G.len):∃af,pR (d5 (av d) "became" (.ref (ad ρ j)) (.ref (ad ρ i)) σ=.ok () af) (bD φ af ρ (st G i (a7.setB (I j)))) (bx σ af):=by
 refine aE λkk=>?_;obtain⟨k,u,dB,aV,ax,aO⟩:=g.at_ i a7 e;obtain⟨ms,h1,h2⟩:=Cj (d:=d) (a7:=a7) "became" (.inr (.inr (.inr ab)));refine kk ?_;have h:=Az (v:=.ref (ad ρ j)) ax aO aV h1 h2 Ob;rw[aa4]at h;rw[dB];exact⟨_,h,g.put e dB aV ax aO acS (SJ (g.wf i a7 e) bw),bx.refl.KA aO BX⟩
theorem z4{u':Int}(g:bD φ σ ρ G)(e:gt G i=I a7):∃af,pR (d5 (av d) "use" (.int u') (.ref (ad ρ i)) σ=.ok () af) (bD φ af ρ G) (bx σ af):=by
 refine aE λkk=>?_;obtain⟨k,u,dB,aV,ax,aO⟩:=g.at_ i a7 e;obtain⟨ms,h1,h2⟩:=Cj (d:=d) (a7:=a7) "use" (.inr (.inl ab));refine kk ?_;have h:=Az (v:=.int u') ax aO aV h1 h2 Ob;rw[aa3]at h;rw[dB];exact⟨_,h,g.WB e dB aV ax aO,bx.refl.KA aO BX⟩
theorem qE{a:Nat}(h:i<ρ.length):ad (ρ++[a]) i=ad ρ i:=by unfold ad;rw[w6,qW h,<-w6]
theorem Cx{a:Nat}:ad (ρ++[a]) ρ.length=a:=by unfold ad;rw[w6,mR (cI _),lN];rfl
theorem Oa{a:Nat}{u:Int}(h:a7.wf ρ.length):a7.eU φ (ρ++[a]) u=a7.eU φ ρ u:=by
 have al:∀b:Option Nat,(∀m∈b.toList,m<ρ.length)->zb (ρ++[a]) b=zb ρ b:=λb al=>by
  induction b with
  |none=>rfl
  |some m=>exact dR V.ref (qE (al m (bT.mpr ab)))
 induction a7 with
 |eu w b=>
  have h2:w.rest (ρ++[a])=w.rest ρ:=by cases w with
   |dc r=>exact dR V.ref (qE (h r (oB _ (bT.mpr ab))))
   |_=>rfl
  refine(?_:xD _ _ _ _=xD _ _ _ _);rw[(al b λm hm=>h m (ur _ hm)),h2]
 |tail w b=>
  have h2:w.rest (ρ++[a])=w.rest ρ/\w.kind (ρ++[a])=w.kind ρ:=by induction w with
   |eC l k r=>exact⟨dR V.ref (qE (h r (oB _ (da _ (bT.mpr ab))))),dR V.ref (qE (h k (oB _ b8)))⟩
   |_=>exact⟨ab,ab⟩
  refine(?_:xu _ _ _ _ _ _=xu _ _ _ _ _ _);rw[(al b λm hm=>h m (ur _ hm)),h2.1,h2.2]
theorem q2{a b:O}:(σ++[a,b])[σ.length]? =I a/\(σ++[a,b])[σ.length+1]? =I b:=by
 constructor
 ·rw[mR (cI _),lN];rfl
 ·rw[mR (jL _),show σ.length+1-σ.length=1 from RZ ..];rfl
theorem JQ{a b:O}{k:Nat}{o:O}(e:σ[k]? =I o):(σ++[a,b])[k]? =I o:=by rw[qW (dy e)];exact e
theorem bx.two{a b:O}:bx σ (σ++[a,b]):=⟨by simp,λe ae=>JQ e⟩
theorem kX.snoc{a x:Nat}(h:kX φ σ ρ a a7)(hw:a7.wf ρ.length):kX φ σ (ρ++[x]) a a7:=by
 obtain⟨k,u,e,aV,ax,aO⟩:=h;exact⟨k,u,e,aV,ax,by rw[Oa hw];exact aO⟩
theorem bD.put2{u:Int}(g:bD φ σ ρ G)(hw:a7.wf G.len)(aD:G.len<1000):bD φ (σ++[O.bI (a7.eU φ ρ u),.inst a7.cls σ.length]) (ρ++[σ.length+1]) (ps G a7) where
 len:=by rw[dM,sR,g.len];rfl
 hG:=by rw[sR];exact aD
 inj:=λ{i j} aR bw e=>by
  have lt:∀{i:Nat},i<G.len->ad (ρ++[σ.length+1]) i<σ.length:=λ{i} h=>by
   rw[qE (g.len ▸ h)];obtain⟨_,e⟩:=g.ex h;exact(g.at_ i _ e).lt
  have eq:∀{i:Nat},i<(ps G a7).len->¬i<G.len->ad (ρ++[σ.length+1]) i=σ.length+1/\i=G.len:=λ{i} h h'=>by
   have:i=G.len:=by replace h:=sR ▸ h;exact lO (zM h) (w5 h')
   subst this;rw[<-g.len,Cx];exact⟨ab,ab⟩
  by_cases h:i<G.len <;> by_cases h':j<G.len
  ·replace e:=(qE (g.len ▸ h') ..) ▸ (qE (g.len ▸ h) ..) ▸ e;exact g.inj h h' e
  ·have:=lt h;replace this:=((eq bw h').1 ..) ▸ (e ..) ▸ this;lia
  ·have:=lt h';replace this:=((eq aR h).1 ..) ▸ (oD (e ..)) ▸ this;lia
  ·exact(eq aR h).2.trans (eq bw h').2.symm
 lt:=λ{i n} q=>by
  rw[sR];by_cases h:G.len=i
  ·exact h ▸ jK _
  ·replace q:=(BR h ..) ▸ q;exact w2 (g.lt q)
 wf:=λi n q=>by
  rw[sR];by_cases h:G.len=i
  ·subst h;replace q:=(GW aD ..) ▸ q;cases q;exact λm hm=>w2 (hw m hm)
  ·replace q:=(BR h ..) ▸ q;exact λm hm=>w2 (g.wf i n q m hm)
 ex:=λ{i} aR=>by
  by_cases h:G.len=i
  ·subst h;exact⟨_,GW aD⟩
  ·rw[BR h];replace aR:=sR ▸ aR;exact g.ex (Nat.lt_of_le_of_ne (zM aR) (lL h))
 at_:=λi n q=>by
  by_cases h:G.len=i
  ·subst h;replace q:=(GW aD ..) ▸ q;cases q;rw[<-g.len,Cx];exact⟨σ.length,u,ab,g.pos,q2.2,by rw[Oa (g.len ▸ hw)];exact q2.1⟩
  ·replace q:=(BR h ..) ▸ q;rw[qE (g.len ▸ g.lt q)];exact((g.at_ i n q).le λe=>JQ e).snoc (g.len ▸ g.wf i n q)
 pos:=by rw[dM];exact di g.pos (g0 ..)
theorem mY{C:Cfg}{c nm:Str}{l:List (Str×V)}{ms:List Str×List Str}(aV:0<σ.length)(ay:C.cls c=I ms)(hm:ms.2.contains nm=ak)(aj:l.length<bz):d5 C nm v (.ref (σ.length+1)) (σ++[O.bI l,.inst c σ.length])=.ok () (σ++[O.bI (hH l nm v),.inst c σ.length]):=by
 rw[Az q2.2 q2.1 aV ay hm aj,ajR _ _ (cI _),lN];rfl
theorem L7(aV:0<σ.length):fv (av (d+1)) "Spot" [r5,r4,r3] σ=.ok (.ref (σ.length+1)) (σ++[O.bI (xD r5 r4 r3 .none),.inst "Spot" σ.length]):=by
 refine(?_:(aX (d+1) (jr "Spot" "__init__") [.ref (σ.length+1),r5,r4,r3]>>=λr=>vC r (cv (V.ref (σ.length+1)))) (σ++[O.bI [],.inst "Spot" σ.length])=_);rw[show jr "Spot" "__init__" = "Spot.__init__" by decide +kernel,agn];refine(aN (a:=V.none) (af:=σ++[O.bI (xD r5 r4 r3 .none),.inst "Spot" σ.length]) ?_).trans ab;exact(aN (mY aV Ck (by decide +kernel) (by decide +kernel))).trans ((aN (mY aV Ck (by decide +kernel) (by refine(?_:1<bz);decide +kernel))).trans ((aN (mY aV Ck (by decide +kernel) (by refine(?_:2<bz);decide +kernel))).trans ((aN (mY aV Ck (by decide +kernel) (by refine(?_:3<bz);decide +kernel))).trans ab)))
theorem Fs(aV:0<σ.length):fv (av (d+1)) "Tail" [r5,r4,r3] σ=.ok (.ref (σ.length+1)) (σ++[O.bI (xu r5 r4 r3 (.str "") .none .none),.inst "Tail" σ.length]):=by
 refine(?_:(aX (d+1) (jr "Tail" "__init__") [.ref (σ.length+1),r5,r4,r3]>>=λr=>vC r (cv (V.ref (σ.length+1)))) (σ++[O.bI [],.inst "Tail" σ.length])=_);rw[show jr "Tail" "__init__" = "Tail.__init__" by decide +kernel,agk];refine(aN (a:=V.none) (af:=σ++[O.bI (xu r5 r4 r3 (.str "") .none .none),.inst "Tail" σ.length]) ?_).trans ab;exact(aN (mY aV rV (by decide +kernel) (by decide +kernel))).trans ((aN (mY aV rV (by decide +kernel) (by refine(?_:1<bz);decide +kernel))).trans ((aN (mY aV rV (by decide +kernel) (by refine(?_:2<bz);decide +kernel))).trans ((aN (mY aV rV (by decide +kernel) (by refine(?_:3<bz);decide +kernel))).trans ((aN (mY aV rV (by decide +kernel) (by refine(?_:4<bz);decide +kernel))).trans ((aN (mY aV rV (by decide +kernel) (by refine(?_:5<bz);decide +kernel))).trans ab)))))
inductive Made(φ:Nat->Str)(σ:aq)(ρ:List Nat)(G:bq)(a7:dZ)(r:Res V):Prop
 |mk(a:Nat)(af:aq)(h1:r=.ok (.ref a) af)(h2:bD φ af (ρ++[a]) (ps G a7))(h3:bx σ af):Made φ σ ρ G a7 r
theorem uE(g:bD φ σ ρ G)(w:gV)(u:Int)(hw:(dZ.eu w U).wf G.len)(aD:G.len<1000):Made φ σ ρ G (.eu w U) (fv (av (d+1)) "Spot" [.str w.word,.int u,w.rest ρ] σ):=⟨_,_,L7 g.pos,g.put2 (a7:=.eu w U) hw aD,.two⟩
theorem DS(g:bD φ σ ρ G)(aD:G.len<1000):Made φ σ ρ G (.eu .gK U) (aX (d+2) "unknown_kind" [] σ):=by
 rw[ad8];exact⟨_,_,(aN (L7 g.pos)).trans ab,g.put2 (a7:=.eu .gK U) nofun aD,.two⟩
theorem w_end(g:bD φ σ ρ G)(u:Int)(aD:G.len<1000):Made φ σ ρ G (.tail .fin U) (fv (av (d+1)) "Tail" [.str "end",.int u,.none] σ):=⟨_,_,Fs g.pos,g.put2 (a7:=.tail .fin U) nofun aD,.two⟩
theorem DR(g:bD φ σ ρ G)(aD:G.len<1000):Made φ σ ρ G (.tail .gK U) (aX (d+2) "unknown_rest" [] σ):=by
 rw[ad5];exact⟨_,_,(aN (Fs g.pos)).trans ab,g.put2 (a7:=.tail .gK U) nofun aD,.two⟩
theorem w_field{l k r:Nat}{u:Int}(g:bD φ σ ρ G)(ao:k<G.len)(aP:r<G.len)(aD:G.len<1000):Made φ σ ρ G (.tail (.eC l k r) U) (aX (d+2) "field" [.str (φ l),.ref (ad ρ k),.int u,.ref (ad ρ r)] σ):=by
 rw[afO];exact⟨_,_,(aN (Fs g.pos)).trans ((aN (mY g.pos rV (by decide +kernel) (by refine(?_:6<bz);decide +kernel))).trans ((aN (mY g.pos rV (by decide +kernel) (by refine(?_:6<bz);decide +kernel))).trans ab)),g.put2 (a7:=.tail (.eC l k r) U) (λm hm=>by
  rcases cY.mp hm with rfl|hm
  ·exact ao
  ·rw[bT.mp hm];exact aP) aD,.two⟩
end
def gi(ρ aA:List Nat):Prop:=∃l,aA=ρ++l
structure lI(φ:Nat->Str)(β σ:aq)(ρ aA:List Nat)(G:bq):Prop where
 ext:gi ρ aA
 b5:bD φ σ aA G
 le:bx β σ
inductive PW{α bN:Type}(φ:Nat->Str)(β:aq)(ρ:List Nat)(P:α->List Nat->bN->aq->Prop)(a:α)(G:bq)(b:bN)(af:aq):Prop
 |mk(aA:List Nat)(e:lI φ β af ρ aA G)(p:P a aA b af):PW φ β ρ P a G b af
def bB{α bN:Type}(φ:Nat->Str)(β σ:aq)(ρ:List Nat)(r:bW α)(m:M bN)(P:α->List Nat->bN->aq->Prop):Prop:=match r with
 |.ok a G=>Wp σ m (PW φ β ρ P a G)
 |.bad=>True
section
variable {φ:Nat->Str}{β σ af eF aC:aq}{ρ aA e3:List Nat}{G cJ:bq}{d i j n m:Nat}{α p0 bN uA:Type}
theorem gi.refl:gi ρ ρ:=⟨[],(lP _).symm⟩
theorem gi.trans(h:gi ρ aA)(h':gi aA e3):gi ρ e3:=by obtain⟨l,rfl⟩:=h;obtain⟨l',rfl⟩:=h';exact⟨l++l',jM ..⟩
theorem gi.snoc{a:Nat}:gi ρ (ρ++[a]):=⟨[a],ab⟩
theorem gi.ad(h:gi ρ aA)(aR:i<ρ.length):ad aA i=ad ρ i:=by
 obtain⟨l,rfl⟩:=h;unfold Mine.Internal.ad;rw[w6,qW aR,<-w6]
theorem gi.len(h:gi ρ aA):ρ.length<=aA.length:=by obtain⟨l,rfl⟩:=h;rw[dM];exact g0 ..
variable {r:bW α}{f:α->bq->bW p0}{m:M bN}{k:bN->M uA}{P:α->List Nat->bN->aq->Prop}{Q:p0->List Nat->uA->aq->Prop}
theorem lI.trans(h:lI φ β σ ρ aA G)(h':lI φ aC af aA e3 cJ)(aj:bx β af):lI φ β af ρ e3 cJ:=⟨h.ext.trans h'.ext,h'.b5,aj⟩
theorem bB.bindB(h:bB φ β σ ρ r m P)(ao:∀a G aA b af,lI φ β af ρ aA G->P a aA b af->bB φ β af aA (f a G) (k b) Q):bB φ β σ ρ (r.bind f) (m>>=k) Q:=by
 induction r with
 |ok a G=>
  refine aE λkk=>?_;obtain⟨b,af,e,aA,h1,p⟩:=(h:Wp σ m _);refine kk ?_;have ao:=ao a G aA b af h1 p;refine(?_:bB φ β σ ρ (f a G) (m>>=k) Q)
  revert ao
  induction f a G with
  |ok wt cJ=>exact λao=>aG e (Wp.mono (ao:Wp af (k b) _) λc eF aU=>by obtain⟨e3,h2,va⟩:=aU;exact⟨e3,h1.trans h2 h2.le,va⟩)
  |bad=>exact λae=>aS
 |bad=>exact aS
theorem bB.lift(h:bB φ σ σ ρ r m P)(al:bx β σ):bB φ β σ ρ r m P:=by
 induction r with
 |ok a G=>exact Wp.mono (h:Wp _ _ _) λb af aU=>by obtain⟨aA,e,p⟩:=aU;exact⟨aA,⟨e.ext,e.b5,al.trans e.le⟩,p⟩
 |bad=>exact aS
theorem bB.mono{wK:α->List Nat->bN->aq->Prop}(h:bB φ β σ ρ r m P)(aL:∀a G aA b af,lI φ β af ρ aA G->P a aA b af->wK a aA b af):bB φ β σ ρ r m wK:=by
 induction r with
 |ok a G=>exact Wp.mono (h:Wp σ m _) λb af aU=>by obtain⟨aA,e,p⟩:=aU;exact⟨aA,e,aL _ _ _ _ _ e p⟩
 |bad=>exact aS
theorem bB.bind(h:bB φ σ σ ρ r m P)(al:bx β σ)(ao:∀a G aA b af,lI φ β af ρ aA G->bx σ af->P a aA b af->bB φ β af aA (f a G) (k b) Q):bB φ β σ ρ (r.bind f) (m>>=k) Q:=by
 exact((h.mono λa G aA b af e p=>(⟨e.le,p⟩:bx σ af/\P a aA b af)).lift al:bB φ β σ ρ r m λa aA b af=>bx σ af/\P a aA b af).bindB λa G aA b af e p=>ao a G aA b af e p.1 p.2
theorem a9{r:bW p0}{b:bN}(h:m σ=.ok b af)(ao:bB φ β af ρ r (k b) Q):bB φ β σ ρ r (m>>=k) Q:=by
 induction r with
 |ok a G=>exact aG h (ao:Wp _ _ _)
 |bad=>exact aS
theorem f7{h4:Type}{o:Option h4}{f:h4->bW α}(h:∀a,o=I a->bB φ β σ ρ (f a) m P):bB φ β σ ρ (dT o f) m P:=by
 induction o with
 |none=>exact aS
 |some a=>exact h a ab
theorem sa{c:Bool}{r dn:bW α}(h:c=ak->bB φ β σ ρ dn m P)(h':c=aH->bB φ β σ ρ r m P):bB φ β σ ρ (Bool.rec r dn c) m P:=by
 induction c with
 |true=>exact h ab
 |false=>exact h' ab
theorem pM{b:Bool}{n:M bN}(h:b=ak)(ao:bB φ β σ ρ r m P):bB φ β σ ρ r (M.cond b m n) P:=by subst h;exact ao
theorem lE{b:Bool}{n:M bN}(h:b=aH)(ao:bB φ β σ ρ r n P):bB φ β σ ρ r (M.cond b m n) P:=by subst h;exact ao
theorem CG{b c:Bool}{r dn:bW α}{n:M bN}(e:b=c)(h:c=ak->bB φ β σ ρ dn m P)(h':c=aH->bB φ β σ ρ r n P):bB φ β σ ρ (Bool.rec r dn c) (M.cond b m n) P:=by
 subst e
 induction b with
 |true=>exact h ab
 |false=>exact h' ab
theorem om{s s':Str}{n:M bN}(h:(s==s')=ak)(ao:bB φ β σ ρ r m P):bB φ β σ ρ r (cmp .Eq (.str s) (.str s')>>=λt=>truth t>>=λb=>M.cond b m n) P:=a9 k7 (a9 (m:=truth _) ab (pM h ao))
theorem ik{s s':Str}{n:M bN}(h:(s==s')=aH)(ao:bB φ β σ ρ r n P):bB φ β σ ρ r (cmp .Eq (.str s) (.str s')>>=λt=>truth t>>=λb=>M.cond b m n) P:=a9 k7 (a9 (m:=truth _) ab (lE h ao))
theorem H5{a:α}{b:bN}(h:m σ=.ok b af)(he:lI φ β af ρ aA G)(hp:P a aA b af):bB φ β σ ρ (.ok a G) m P:=⟨b,af,h,aA,he,hp⟩
theorem f6{a:α}{b:bN}(hg:bD φ σ ρ G)(aj:bx β σ)(hp:P a ρ b σ):bB φ β σ ρ (.ok a G) (cv b:M bN) P:=H5 ab ⟨.refl,hg,aj⟩ hp
theorem t5{ej:M bN}(h:m=ej)(ao:bB φ β σ ρ r ej P):bB φ β σ ρ r m P:=h ▸ ao
theorem bW.aN{r:bW α}:(r.bind λa G=>.ok a G)=r:=by cases r <;> rfl
theorem bB.last{Q:α->List Nat->uA->aq->Prop}(h:bB φ σ σ ρ r m P)(al:bx β σ)(ao:∀a G aA b af,lI φ β af ρ aA G->bx σ af->P a aA b af->bB φ β af aA (.ok a G) (k b) Q):bB φ β σ ρ r (m>>=k) Q:=by
 have h2:=bB.bind (f:=λa G=>.ok a G) h al ao;rw[bW.aN]at h2;exact h2
inductive Rh{S X:Type}(φ:Nat->Str)(β:aq)(ρ:List Nat)(F:List X->S->bq->bW α)(aW:S->List Nat->Loc->aq->Prop)(r:bW α)(xs:List X)(loc:Loc)(σ:aq):Prop
 |mk(s:S)(G:bq)(aA:List Nat)(e:lI φ β σ ρ aA G)(i:aW s aA loc σ)(h:F xs s G=r):Rh φ β ρ F aW r xs loc σ
theorem wD{S X:Type}{C:Cfg}{target:Expr}{body:List Stmt}{ns:ct}{bA:Src}{K:a6×Loc->M bN}{fu:Loc->M bN}{loc:Loc}{F:List X->S->bq->bW α}{g:X->V}{xs:List X}{J:aq->Prop}(dK:(C.calm&&gz bA target)=ak)(hw:Walks bA (xs.map g) J)
  (aW:S->List Nat->Loc->aq->Prop) (e7:∀s ρ loc σ,aW s ρ loc σ->J σ) (s₀:S) (aV:aW s₀ ρ loc σ) (hg:bD φ σ ρ G) (aj:bx β σ)
  (step:∀x uD s G ρ loc σ,x∈xs->bD φ σ ρ G->bx β σ->aW s ρ loc σ->∃b3:bW S,F (x::uD) s G=b3.bind (F uD)/\bB φ β σ ρ b3 (bindTo (stLoc ns) target (g x) loc>>=cm C body ns) λs' aA b af=>b.1=.next/\aW s' aA b.2 af)
  (fin:∀s G aA loc σ,gi ρ aA->bD φ σ aA G->bx β σ->aW s aA loc σ->bB φ β σ aA (F [] s G) (fu loc) P):bB φ β σ ρ (F xs s₀ G) (eT C target body bA ns loc>>=dA K fu) P:=by
 induction aP:F xs s₀ G with
 |bad=>exact aS
 |ok a aiJ=>
 refine(?_:Wp σ _ _);refine Cz dK hw (λi loc σ=>Rh φ β ρ F aW (.ok a aiJ) (xs.drop i) loc σ) (λi loc σ aU=>by obtain⟨s,G,aA,h1,h2,_⟩:=aU;exact e7 s aA loc σ h2) ⟨s₀,G,ρ,⟨.refl,hg,aj⟩,aV,aP⟩ (λi v loc σ aK aU=>?_) (λloc σ aU=>?_)
 ·refine aE λkk=>?_;obtain⟨s,G,aA,h1,h2,h3⟩:=aU;obtain⟨x,aI,rfl⟩:=hr.mp ((ki ..).symm.trans aK);obtain⟨b3,ax,w⟩:=step x (xs.drop (i+1)) s G aA loc σ (g4 aI) h1.b5 h1.le h2;rw[wd aI,ax]at h3;refine kk ?_;clear kk ax
  induction b3 with
  |bad=>cases h3
  |ok s' cJ=>
   refine Wp.mono (w:Wp _ _ _) λb af aU=>?_;obtain⟨e3,cP,eS,ml⟩:=aU;obtain⟨eU,bJ⟩:=b;cases(eS:eU=.next);exact⟨s',cJ,e3,h1.trans cP cP.le,ml,h3⟩
 ·obtain⟨s,G,aA,h1,h2,h3⟩:=aU;rw[c3,Dz]at h3;have w:=fin s G aA loc σ h1.ext h1.b5 h1.le h2;rw[h3]at w;exact Wp.mono (w:Wp _ _ _) λb af aU=>by obtain⟨e3,cP,eS⟩:=aU;exact⟨e3,h1.trans cP cP.le,eS⟩
end
section
variable {φ:Nat->Str}{β σ af eF aC:aq}{ρ aA e3:List Nat}{G cJ:bq}{d i j k n m t q:Nat}{v:V}{α bN:Type}
theorem h7{h4:Type}{o:Option h4}{f:h4->Option α}{b:α}{C:Prop}(h:opt o f=I b)(k:∀a,o=I a->f a=I b->C):C:=by
 induction o with
 |none=>exact bh h
 |some a=>exact k a ab h
theorem Wc{c:Bool}{x:Option α}{b:α}{C:Prop}(h:(Bool.rec x U c:Option α)=I b)(k:c=aH->x=I b->C):C:=by
 induction c with
 |true=>exact bh h
 |false=>exact k ab h
theorem EW{c:Bool}{x:Option α}{b:α}{C:Prop}(h:(Bool.rec U x c:Option α)=I b)(k:c=ak->x=I b->C):C:=by
 induction c with
 |false=>exact bh h
 |true=>exact k ab h
theorem sH{w:TW}(h:iN G t=I w):∃b,gt G t=I (.tail w b):=h7 h λa7 e h=>by
 induction a7 with
 |eu=>exact bh h
 |tail w b=>cases h;exact⟨b,e⟩
theorem xC{w:gV}(h:q9 G t=I w):∃b,gt G t=I (.eu w b):=h7 h λa7 e h=>by
 induction a7 with
 |tail=>exact bh h
 |eu w b=>cases h;exact⟨b,e⟩
theorem Jn(h1:tt loc σ=.ok ak af)(h2:bd loc af=.ok (.next,bJ) eF):hP tt bd (k+1) loc σ=hP tt bd k bJ eF:=
 (aN (f:=λc=>M.cond c (bd loc>>=_) _) h1).trans (show(bd loc>>=_) af=_ from aN h2)
theorem Jl(h1:tt loc σ=.ok aH af):hP tt bd (k+1) loc σ=.ok (.next,loc) af:=aN h1
theorem JT(h:uL (n+1) G i=I t){C:Prop}(fC:∀a7,gt G i=I a7->a7.pG=U->i=t->C)(gC:∀a7 j,gt G i=I a7->a7.pG=I j->uL n G j=I t->C):C:=
 h7 (o:=gt G i) (f:=λa7:dZ=>Option.rec (motive:=λae=>Option Nat) (I i) (uL n G) a7.pG) h λa7 e h=>by
  revert h
  induction aO:a7.pG with
  |none=>intro h;exact fC a7 e aO (mQ h)
  |some j=>intro h;exact gC a7 j e aO h
theorem T3:∀{n i:Nat},uL n G i=I t->∃a7,gt G t=I a7:=by
 intro n
 induction n with
 |zero=>intro i h;exact bh h
 |succ n au=>exact λh=>JT h (λa7 e ae q=>⟨a7,q ▸ e⟩) λae az bS fc h=>au h
theorem T2(g:bD φ σ ρ G):∀{n i:Nat},uL n G i=I t->hP (λl=>d4 (av d) (fh se) oq.names l (ev (av d) (fh se) oq.names l)) (cm (av d) (bU se) oq.names) n [I (.ref (ad ρ i))] σ=.ok (.next,[I (.ref (ad ρ t))]) σ:=by
 intro n
 induction n with
 |zero=>intro i h;exact bh h
 |succ n au=>
  intro i h;refine JT h (λa7 e aO q=>?_) λa7 j e aO h=>(Jn (af:=σ) ?_ ?_).trans (au h)
  ·subst q;refine Jl ?_;rw[P4];refine(aN (E1 g e)).trans ?_;rw[aO];rfl
  ·rw[P4];refine(aN (E1 g e)).trans ?_;rw[aO];rfl
  ·rw[aeb];refine(aN (E1 g e)).trans ?_;rw[aO];rfl
theorem w_top(g:bD φ σ ρ G)(h:iy G i=I t):aX (d+1) "top" [.ref (ad ρ i)] σ=.ok (.ref (ad ρ t)) σ:=by
 rw[aec];refine(aN (m:=oG _ _ _ _ _) (z3 (T2 g h))).trans ?_;rw[G5,aed];rfl
theorem q4(g:bD φ σ ρ G)(h:iy G i=I t):t<ρ.length:=by
 obtain⟨_,e⟩:=T3 h;rw[g.len];exact g.lt e
def fB(φ:Nat->Str)(ρ:List Nat)(fs:Row):Tab:=fs.map λp=>(.inr (φ p.1),.ref (ad ρ p.2))
def hW(q:Nat)(fs:Row):Prop:=∀p∈fs,cl p.1=q
def cW(φ:Nat->Str):Prop:=∀i j,cl i=cl j->i<j->strLt (φ i) (φ j)=ak
theorem Ew{s:Str}:strLt s s=aH:=jI (aj2 _)
theorem cW.inj(c:cW φ)(ay:cl i=cl j)(e:φ i=φ j):i=j:=by
 have key:∀{i j:Nat},cl i=cl j->φ i=φ j->¬i<j:=λ{i j} ay e h=>by
  have:=c i j ay h;rw[e,Ew]at this;exact fU this
 exact lO (w5 (key ay.symm e.symm)) (w5 (key ay e))
theorem yc{p:Nat×Nat}{fs:Row}{l:Nat}:lk (p::fs) l=Bool.rec (lk fs l) (I p.2) (Nat.beq p.1 l):=rfl
theorem xv{fs:Row}{l:Nat}(c:cW φ)(a8:hW q fs)(aj:cl l=q):ez (fB φ ρ fs) (.inr (φ l))=(lk fs l).map λt=>V.ref (ad ρ t):=by
 induction fs with
 |nil=>rfl
 |cons p fs au=>
  unfold ez fB at au ⊢;rw[eE,su,yc];refine(?_:Option.map _ (match decide ((Sum.inr (φ p.1):Key)=.inr (φ l)) with|true=>_|false=>_)=_);by_cases e:p.1=l
  ·rw[kg (by rw[e]),mw e];rfl
  ·rw[jI (λr=>e (c.inj ((a8 p b8).trans aj.symm) (Dn r))),kP e];exact au λq aL=>a8 q (da _ aL)
theorem Cf{l:Tab}{k:Key}(h:ez l k=U):lx l k v=l++[(k,v)]:=by
 unfold lx;rw[bH]at ⊢;intro bu;obtain⟨p,hp,e⟩:=I7.mp bu;unfold ez at h;have:=List.find?_eq_none.mp (ajy.mp h) p hp;exact this e
theorem EH{o o':O}:(σ++[o]).set σ.length o'=σ++[o']:=by rw[ajR _ _ (cI _),lN];rfl
theorem GI{fs:Row}{l:Nat}:e6 fs l=(lk fs l).isSome:=by
 induction fs with
 |nil=>rfl
 |cons p fs au=>
  refine(?_:(Bool.rec (e6 fs l) ak (Nat.beq p.1 l):Bool)=_);rw[yc,au];cases Nat.beq p.1 l <;> rfl
theorem aak{fs:Row}{l:Nat}(h:e6 fs l=aH):lk fs l=U:=by rw[GI]at h;exact ajv.mp (zY.mp h)
theorem Aq{l:Nat}{acc:Row}(h:rf l acc=ak)(bu:hW q acc):∃dG,hW dG acc/\cl l=dG:=by
 induction acc using List.casesOn with
 |nil=>exact⟨cl l,nofun,ab⟩
 |cons p acc=>exact⟨q,bu,(uq h).symm.trans (bu p b8)⟩
theorem hW.snoc{acc:Row}{p:Nat×Nat}(bu:hW q acc)(h:cl p.1=q):hW q (acc++[p]):=λr aP=>(hs.mp aP).elim (bu r) λaP=>by rw[bT.mp aP];exact h
inductive lD(G:bq):Nat->Nat->Row->Row->Nat->Prop
 |stop{n r t:Nat}{acc:Row}(w:TW)(b:Option Nat)(h1:iy G r=some t)(e:gt G t=some (.tail w b))(hw:(w.word==aB "label")=false):lD G (n+1) r acc acc t
 |next{n r bX t:Nat}{acc fs:Row}(l k dn:Nat)(b:Option Nat)(h1:iy G r=some bX)(e:gt G bX=some (.tail (.eC l k dn) b))(aM:lk acc l=none)(h2:rf l acc=true)(h:lD G n dn (acc++[(l,bX)]) fs t):lD G (n+1) r acc fs t
theorem VZ:∀{n r:Nat}{acc fs:Row},K0 n G r acc=I (fs,t)->lD G n r acc fs t:=by
 intro n
 induction n with
 |zero=>intro r acc fs h;exact bh h
 |succ n au=>
  intro r acc fs h;refine h7 (o:=iy G r) h λbX h1 h=>h7 (o:=iN G bX) h λw h2 h=>?_;obtain⟨b,e⟩:=sH h2
  induction w with
  |eC l k dn=>exact Wc (c:=e6 acc l) h λh3 h=>EW (c:=rf l acc) h λbf h=>.next l k dn b h1 e (aak h3) bf (au h)
  |gK=>cases h;exact .stop _ b h1 e (by decide +kernel)
  |fin=>cases h;exact .stop _ b h1 e (by decide +kernel)
theorem lD.lo{n r:Nat}{acc fs:Row}(h:lD G n r acc fs t):∀{q:Nat},hW q acc->∃q,hW q fs:=by
 induction h with
 |stop _ _ _ _ _=>exact λh=>⟨_,h⟩
 |next l k dn b h1 e aM h2 h au=>
  intro q bu;obtain⟨dG,h3,bf⟩:=Aq h2 bu;exact au (h3.snoc bf)
theorem lD.top{n r:Nat}{acc fs:Row}(h:lD G n r acc fs t):∃bX,iy G r=I bX:=by
 induction h with
 |stop _ _ h1 _ _=>exact⟨_,h1⟩
 |next _ _ _ _ h1 _ _ _ _ _=>exact⟨_,h1⟩
theorem VY{n r:Nat}{acc fs:Row}(c:cW φ)(g:bD φ σ ρ G){x:V}(h:lD G n r acc fs t):∀{bX v q:Nat},iy G r=I bX->hW q acc->acc.length+n<=1000 ->
  ∃v',hP (λl=>d4 (av (d+1)) (fh sf) ot.names l (ev (av (d+1)) (fh sf) ot.names l)) (cm (av (d+1)) (bU sf) ot.names) n [I x,I (.ref σ.length),I (.ref (ad ρ bX)),U] (σ++[O.dict v (fB φ ρ acc)]) =
   .ok (.next,[I x,I (.ref σ.length),I (.ref (ad ρ t)),U]) (σ++[O.dict v' (fB φ ρ fs)]):=by
 induction h with
 |@stop n r t acc w b h1 e hw=>
  intro bX v q aY bu aj;obtain rfl:=mQ (h1.symm.trans aY);refine⟨v,Jl (by rw[P6];exact(aN (h6 (g.push (o:=.dict v (fB φ ρ acc))) e)).trans ((aN k7).trans ((aN (m:=truth _) ab).trans (dR (λb=>Res.ok b _) hw))))⟩
 |@next n r bX t acc fs l k dn b h1 e aM h2 h au=>
  intro Ka v q aY bu aj;obtain rfl:=mQ (h1.symm.trans aY);refine aE λkk=>?_;obtain⟨bc,yp⟩:=h.top;obtain⟨dG,bu,aL⟩:=Aq h2 bu;refine kk ?_;have aM:ez (fB φ ρ acc) (.inr (φ l))=U:=by rw[xv c bu aL,aM];rfl
  have Hi:fB φ ρ acc++[(.inr (φ l),.ref (ad ρ bX))]=fB φ ρ (acc++[(l,bX)]):=by unfold fB;rw[h0];rfl
  have g3:=g.push (o:=.dict (v+1) (fB φ ρ (acc++[(l,bX)])));refine aE λkk=>?_;obtain⟨v',au⟩:=au (v:=v+1) yp (bu.snoc aL) (by rw[dM,zS,Dv,zO 1];exact aj);refine kk ?_;refine⟨v',(Jn (af:=σ++[O.dict v (fB φ ρ acc)]) ?_ ?_).trans au⟩
  ·rw[P6];exact(aN (h6 (g.push (o:=.dict v (fB φ ρ acc))) e)).trans ab
  ·rw[aef];refine(aN (Wq g.push e)).trans ((aN (EX (key:=.inr (φ l)) b2 g.pos ab (by unfold fB;rw[c3];exact fz (b7 (g0 _ _) aj) (by decide +kernel)))).trans ?_);rw[EH,Cf aM,Hi];exact(aN (Li g3 e)).trans ((aN (w_top g3 yp)).trans ab)
theorem Wa{r:Nat}(h:restOf G t=I r):∃b,gt G t=I (.eu (.dc r) b):=h7 h λa7 e h=>by
 induction a7 with
 |tail=>exact bh h
 |eu w b=>induction w with
  |dc r=>cases h;exact⟨b,e⟩
  |_=>exact bh h
inductive PU(G:bq)(i:Nat)(fs:Row)(t:Nat):Prop
 |mk(s r:Nat)(b:Option Nat)(h1:iy G i=some s)(h2:gt G s=some (.eu (.dc r) b))(h3:lD G 5 r [] fs t):PU G i fs t
theorem xO{fs:Row}(h:rowOf G i=I (fs,t)):PU G i fs t:=h7 h λs h1 h=>h7 h λr h2 h=>by
 obtain⟨b,h3⟩:=Wa h2;exact⟨s,r,b,h1,h3,VZ h⟩
theorem DT{fs:Row}(c:cW φ)(g:bD φ σ ρ G)(h:rowOf G i=I (fs,t)) :
  ∃v,aX (d+2) "row_of" [.ref (ad ρ i)] σ=.ok (.tup [.ref σ.length,.ref (ad ρ t)]) (σ++[O.dict v (fB φ ρ fs)]):=by
 refine aE λkk=>?_;obtain⟨s,r,b,h1,h2,h3⟩:=xO h;have g2:=g.push (o:=.dict 0 (fB φ ρ []));obtain⟨bc,yp⟩:=h3.top;obtain⟨v,e⟩:=VY (d:=d) (x:=.ref (ad ρ i)) (v:=0) (q:=0) c g h3 yp nofun (by decide);refine kk ⟨v,?_⟩;rw[aeg];refine(aN (m:=bP _) ab).trans ((aN (w_top g2 h1)).trans ((aN (Li g2 h2)).trans ((aN (w_top g2 yp)).trans ((aN (m:=oG _ _ _ _ _) (z3 e)).trans ?_))));rw[G5,aeh];rfl
theorem uW{fs:Row}(h:rowOf G i=I (fs,t)):∃q,hW q fs:=by
 obtain⟨_,_,_,_,_,h3⟩:=xO h;exact h3.lo (q:=0) nofun
theorem LC{fs os:Row}{dG:Nat}(h:vd fs os=ak)(a8:hW q fs)(ho:hW dG os):∃q,hW q fs/\hW q os:=by
 induction fs using List.casesOn with
 |nil=>exact⟨dG,nofun,ho⟩
 |cons p fs=>
  obtain⟨eH,h1,h2⟩:=Aq h ho;have:eH=q:=h2.symm.trans (a8 p b8);subst this;exact⟨eH,a8,h1⟩
end
section
variable {φ:Nat->Str}{β σ af eF aC:aq}{ρ aA e3:List Nat}{G cJ:bq}{d i j k l n m t x:Nat}{v:V}{α bN:Type}{fs:Row}{q:Nat}
noncomputable def gV.vz:gV->Bool
 |.dc _=>ak
 |_=>aH
theorem DV{w:gV}:(w.word==aB "record")=w.vz:=by
 induction w with
 |gK=>exact(by decide +kernel:(aB "unknown" == aB "record")=aH)
 |num=>exact(by decide +kernel:(aB "number" == aB "record")=aH)
 |dc r=>exact(by decide +kernel:(aB "record" == aB "record")=ak)
theorem Ut{w:TW}:(w.word==aB "unknown")=w.tc:=by
 induction w with
 |gK=>exact(by decide +kernel:(aB "unknown" == aB "unknown")=ak)
 |fin=>exact(by decide +kernel:(aB "end" == aB "unknown")=aH)
 |eC _ _ _=>exact(by decide +kernel:(aB "label" == aB "unknown")=aH)
theorem Uu{w:TW}:(w.word==aB "end")=w.fS:=by
 induction w with
 |gK=>exact(by decide +kernel:(aB "unknown" == aB "end")=aH)
 |fin=>exact(by decide +kernel:(aB "end" == aB "end")=ak)
 |eC _ _ _=>exact(by decide +kernel:(aB "label" == aB "end")=aH)
theorem sG{a:Nat}{l:List V}(h:σ[a]? =I (.list l)):i1 σ (k+1) a=(g6 (i1 σ k) l).map .list:=by
 show(match σ[a]? with|some (.list l)=>(g6 (i1 σ k) l).map PyData.list|_=>U)=_;rw[h]
theorem Ub{a:Nat}{c:Str}(h:σ[a]? =I (.inst c j)):i1 σ k a=U:=by
 induction k with
 |zero=>rfl
 |succ k=>
  refine(?_:(match σ[a]? with|some (.list l)=>(g6 (i1 σ k) l).map PyData.list|_=>U)=_);rw[h]
theorem Th{a c:Nat}{ws:List Nat}(bu:σ[a]? =I (.list (ws.map V.ref)))(hw:∀m∈ws,(oy λc j=>σ[m]? =I (.inst c j)))(ay:σ[c]? =I (.list [])):eG σ (.ref a) (.ref c)=I ws.isEmpty:=by
 have aO:toPy σ (.ref c)=I (.list []):=sG (k:=3) ay;unfold eG;rw[aO]
 induction ws using List.casesOn with
 |nil=>
  rw[show toPy σ (.ref a)=I (.list []) from sG (k:=3) bu];rfl
 |cons w ws=>
  obtain⟨q,j,aL⟩:=hw w b8;have ax:toPy σ (.ref a)=U:=by
   rw[show toPy σ (.ref a)=_ from sG (k:=3) bu,eE];refine(?_:Option.map _ (match i1 σ 3 w,g6 _ _ with|some d,some ds=>I (d::ds)|_,_=>U)=U);rw[Ub aL];rfl
  rw[ax];refine(?_:yS σ a (.ref c)=_);unfold yS;have cL:hh σ a=U:=by unfold hh;rw[bu]
  have hy:listAt σ a=I ((w::ws).map V.ref):=by unfold listAt;rw[bu]
  have iR:listAt σ c=I []:=by unfold listAt;rw[ay]
  dsimp only;rw[cL,hy,iR];rfl
def c8(ρ:List Nat)(ws:List Nat):List V:=ws.map λw=>.ref (ad ρ w)
theorem aaL(g:bD φ σ ρ G){ws:List Nat}(h:∀m∈ws,m<G.len):∀m∈ws.map (ad ρ),(oy λc j=>σ[m]? =I (.inst c j)):=λm hm=>by
 refine aE λkk=>?_;obtain⟨w,hw,rfl⟩:=iK.mp hm;obtain⟨c,k,e⟩:=g.inst (h w hw);exact kk ⟨_,_,e⟩
theorem Fv{y:Nat}{r:List Nat}:mem (y::r) x=(Nat.beq y x || mem r x):=by
 refine(?_:(Bool.rec (mem r x) ak (Nat.beq y x):Bool)=_);cases Nat.beq y x <;> rfl
theorem DX(g:bD φ σ ρ G){ms:List Nat}(aI:x<G.len)(hm:∀m∈ms,m<G.len):iM σ (.ref (ad ρ x)) (c8 ρ ms)=I (mem ms x):=by
 induction ms with
 |nil=>rfl
 |cons m ms au=>
  refine aE λkk=>?_;obtain⟨_,_,ax⟩:=g.inst aI;obtain⟨_,_,aO⟩:=g.inst (hm m b8);refine kk ?_;refine(?_:(match eG σ (.ref (ad ρ m)) (.ref (ad ρ x)),iM σ (.ref (ad ρ x)) (c8 ρ ms) with|some e,some t=>I (e || t)|_,_=>U)=_);rw[z8 aO ax,au λm m9=>hm m (da _ m9),Fv,Cs g (hm m b8) aI]
def C1(fs:Row):Prop:=∀p∈fs,lk fs p.1=I p.2
theorem X8{p:Nat×Nat}:lk (fs++[p]) l=(lk fs l).or (if p.1=l then I p.2 else U):=by
 induction fs with
 |nil=>
  refine(?_:(Bool.rec U (I p.2) (Nat.beq p.1 l):Option Nat)=_);by_cases e:p.1=l
  ·rw[bj e,mw e];rfl
  ·rw[bH e,kP e];rfl
 |cons r fs au=>rw[R9,yc,yc,au];cases Nat.beq r.1 l <;> rfl
theorem lD.m5{n r:Nat}{acc fs:Row}(h:lD G n r acc fs t):C1 acc->pR (C1 fs) (fs.length<=acc.length+n) (∃a7,gt G t=I a7):=by
 induction h with
 |stop w b h1 e hw=>exact λbu=>⟨bu,g0 _ _,_,e⟩
 |next l k dn b h1 e aM h2 h au=>
  intro bu;obtain⟨cL,df,vD⟩:=au λp hp=>by
   rw[X8];rcases hs.mp hp with hp|hp
   ·rw[bu p hp];rfl
   ·rw[bT.mp hp,aM,ajw];exact bj ab
  rw[dM,zS,Dv,zO 1]at df;exact⟨cL,df,vD⟩
theorem sM(h:rowOf G i=I (fs,t)):pR (C1 fs) (fs.length<=5) (∃a7,gt G t=I a7):=by
 refine aE λkk=>?_;obtain⟨_,_,_,_,_,h3⟩:=xO h;obtain⟨h1,h2,bf⟩:=h3.m5 nofun;exact kk ⟨h1,by simpa using h2,bf⟩
theorem vt(h:lb G t=I k):wU λl r b=>gt G t=I (.tail (.eC l k r) b):=h7 h λw e h=>by
 obtain⟨b,e⟩:=sH e
 induction w with
 |eC l c6 r=>cases h;exact⟨_,_,_,e⟩
 |_=>exact bh h
theorem FL(g:bD φ σ ρ G)(h:lb G t=I k):k<G.len:=by
 obtain⟨l,r,b,e⟩:=vt h;exact g.wf _ _ e k (oB _ b8)
theorem Yr{ks:List Nat}:∀{fs:Row},vr G fs=I ks->ks=fs.map (λp=>(lb G p.2).getD 0)/\∀p∈fs,∃k,lb G p.2=I k:=by
 intro fs
 induction fs generalizing ks with
 |nil=>intro h;cases h;exact⟨ab,nofun⟩
 |cons p fs au=>
  intro h;refine h7 (o:=lb G p.2) h λk h1 h=>h7 (o:=vr G fs) h λYq h2 h=>?_;obtain⟨cL,df⟩:=au h2;cases h;refine⟨by rw[eE,h1,<-cL];rfl,λq aL=>?_⟩;rcases cY.mp aL with rfl|aL
  ·exact⟨k,h1⟩
  ·exact df q aL
theorem keys_map:((fB φ ρ fs).map λp=>l3 p.1)=fs.map λp=>V.str (φ p.1):=by unfold fB;rw[iv];rfl
theorem Us{p:Nat×Nat}(c:cW φ)(lo:hW q fs)(m5:C1 fs)(hp:p∈fs):ez (fB φ ρ fs) (.inr (φ p.1))=I (.ref (ad ρ p.2)):=by rw[xv c lo (lo p hp),m5 p hp];rfl
structure hO(φ:Nat->Str)(σ:aq)(ρ:List Nat)(G:bq)(ws ms:List Nat)(B:Nat)(aC:aq):Prop where
 ax:aC[σ.length]? =I (.list (c8 ρ ws.reverse))
 aO:aC[σ.length+1]? =I (.list (c8 ρ ms))
 hm:∀m∈ms,m<G.len
 hw:∀m∈ws,m<G.len
 len:ms.length+ws.length+B<=2000
 g:bD φ aC ρ G
 le:bx σ aC
noncomputable abbrev t2:=Option V×Option V×Option V
noncomputable def hL(n x a:Nat)(s:t2):Loc:=[I (.ref n),I (.ref x),I (.ref a),I (.ref (a+1)),s.1,s.2.1,s.2.2,U,U]
inductive HoldsI(φ:Nat->Str)(σ:aq)(ρ:List Nat)(G:bq)(n x:Nat)(b:Bool)(k:Nat)(aC:aq):Loc->Prop
 |mk(ws ms:List Nat)(s:t2)(S:hO φ σ ρ G ws ms (6*k) aC)(h:tj k G x ws ms=some b):HoldsI φ σ ρ G n x b k aC (hL (ad ρ n) (ad ρ x) σ.length s)
structure Q9(φ:Nat->Str)(σ:aq)(ρ:List Nat)(G:bq)(aC:aq):Prop where
 b5:bD φ aC ρ G
 le:bx σ aC
def C4(φ:Nat->Str)(σ:aq)(ρ:List Nat)(G:bq)(n x:Nat)(b:Bool)(k:Nat):a6×Loc->aq->Prop:=HV (λk loc aC=>HoldsI φ σ ρ G n x b k aC loc) (λr aC=>cf AV aC (cN r) (fy (.bool b) (Q9 φ σ ρ G))) (k+1)
section
variable {b:Bool}{ws ms ks:List Nat}{last B:Nat}{loc:Loc}
theorem HoldsI.turn(h:HoldsI φ σ ρ G n x b k aC loc):C4 φ σ ρ G n x b k (.next,loc) aC:=⟨k,jK _,h⟩
theorem M9(g:bD φ aC ρ G)(le:bx σ aC):C4 φ σ ρ G n x b k (.ret (.bool b),loc) aC:=ja (α:=V) (.mk ⟨g,le⟩)
theorem hO.hG(S:hO φ σ ρ G ws ms B aC):ms.length<bz:=fz (b7 (b7 (g0 _ _) (g0 _ _)) S.len) (by decide +kernel:2000<bz)
theorem hO.push(S:hO φ σ ρ G ws ms B aC):hO φ σ ρ G ws ms B (aC++[o]):=⟨cK S.ax,cK S.aO,S.hm,S.hw,S.len,S.g.push,S.le.new⟩
theorem hO.less{Rw:Nat}(S:hO φ σ ρ G ws ms B aC)(h:Rw<=B):hO φ σ ρ G ws ms Rw aC:=⟨S.ax,S.aO,S.hm,S.hw,b7 (zN h _) S.len,S.g,S.le⟩
theorem hO.add(S:hO φ σ ρ G ws ms (B+1) aC)(aY:t<G.len):hO φ σ ρ G ws (ms++[t]) B (aC.set (σ.length+1) (.list (c8 ρ ms++[.ref (ad ρ t)]))):=
 ⟨ea (w0 _) S.ax,by rw[fg S.aO];unfold c8;rw[h0];rfl,λm hm=>(hs.mp hm).elim (S.hm m) λhm=>by rw[bT.mp hm];exact aY,S.hw,by rw[dM,zS];have:=S.len;exact gq 0xFA1F098A10900000400007D0F8421300A400021 ab this,S.g.oR S.aO,S.le.hQ (jL _)⟩
theorem hO.cut(S:hO φ σ ρ G (i::ws) ms B aC):aC[σ.length]? =I (.list (c8 ρ ws.reverse++[.ref (ad ρ i)])):=by
 rw[S.ax];unfold c8;rw[List.reverse_cons,h0];rfl
theorem hO.pop(S:hO φ σ ρ G (i::ws) ms B aC):hO φ σ ρ G ws ms B (aC.set σ.length (.list (c8 ρ ws.reverse))):=
 ⟨fg S.ax,ea (fZ (jK _)) S.aO,S.hm,λm hm=>S.hw m (da _ hm),by have:=S.len;rw[gy]at this;exact gq 0x1F43E13148000400007D0F84C10940400021 ab this,S.g.oR S.ax,S.le.hQ (cI _)⟩
theorem hO.ext(S:hO φ σ ρ G ws ms (B+5) aC)(ao:ks.length<=5)(i6:∀m∈ks,m<G.len):hO φ σ ρ G (ks.reverse++ws) ms B (aC.set σ.length (.list (c8 ρ ws.reverse++c8 ρ ks))):=
 ⟨by rw[fg S.ax];unfold c8;rw[List.reverse_append,List.reverse_reverse,h0],ea (fZ (jK _)) S.aO,S.hm,λm hm=>(hs.mp hm).elim (λhm=>i6 m (R3.mp hm)) (S.hw m),by rw[dM,Dy];have:=S.len;exact FD 0xFA1F09CC401400080000FA1F09427018A00042509021 ab ao this,S.g.oR S.ax,S.le.hQ (cI _)⟩
theorem ZF{a:Nat}{qe:Option V}(c:cW φ)(aV:0<σ.length)(S:hO φ σ ρ G ws ms (6*k+5) aC)(cC:aC[a]? =I (.dict i (fB φ ρ fs)))(aP:rowOf G t=I (fs,last))(i6:vr G fs=I ks)(i7:tj k G x (ks.reverse++ws) ms=I b) :
  Wp aC (Qi (d+2) (.ref (ad ρ n)) (.ref (ad ρ x)) (.ref σ.length) (.ref (σ.length+1)) (.ref (ad ρ t)) (I (.ref a)) qe) (C4 φ σ ρ G n x b k):=by
 refine aE λkk=>?_;obtain⟨q,lo⟩:=uW aP;obtain⟨m5,hlen,_⟩:=sM aP;obtain⟨Gr,Np⟩:=Yr i6;refine kk (aG (jk S.ax ab) (aG (m:=bE _) ab (aG (Le cC) ?_)));refine aG (u4 (X:=Nat×Nat) (xs:=fs) (g:=λp=>V.str (φ p.1)) (L:=λo=>[U,o.map λp=>V.str (φ p.1),I (.ref a)]) (f:=λp=>.ref (ad ρ ((lb G p.2).getD 0))) ab (by rw[<-keys_map (ρ:=ρ)];exact Jr λaC F7=>by subst F7;unfold nD;rw[cC]) afA (afB ..) (b7 hlen (by decide +kernel)) (λae az=>afD ..) (afz _) λp aL=>?_) ?_
 ·refine aE λkk=>?_;obtain⟨gc,yu⟩:=Np p aL;obtain⟨_,_,_,eq⟩:=vt yu;refine kk ?_;rw[afC,yu];exact(aN (m:=bE _) ab).trans ((aN (u1 (key:=.inr (φ p.1)) cC ab (Us c lo m5 aL))).trans ((aN (u0 S.g eq)).trans ab))
 rw[show fs.map (λp=>V.ref (ad ρ ((lb G p.2).getD 0)))=c8 ρ ks by rw[Gr];unfold c8;rw[iv];rfl];have kH:ks.length<=5:=by rw[Gr,c3];exact hlen
 refine aG (Wx (cK S.ax) b2 aV (fZ (dy S.ax)) ?_) (cD (HoldsI.turn (.mk _ ms (_,_,_) (S.push.ext kH λm hm=>?_) i7)))
 ·unfold c8;rw[c3,c3,Dy];have:=S.len;exact b7 (by exact FD 0x3E87C24300200003E87C2509CC2018A00042509021 ab kH this:ws.length+ks.length<=2000) (by decide +kernel)
 ·rw[Gr]at hm;refine aE λkk=>?_;obtain⟨p,hp,rfl⟩:=iK.mp hm;obtain⟨gc,yu⟩:=Np p hp;refine kk ?_;rw[yu];exact FL S.g yu
theorem ZE{dO qe:Option V}(c:cW φ)(aV:0<σ.length)(S:hO φ σ ρ G ws ms (6*k+6) aC)(aY:t<G.len)(aI:x<G.len)(aP:rowOf G t=I (fs,last))(al:last=x->b=ak)(ao:¬last=x->∃ks,vr G fs=I ks/\tj k G x (ks.reverse++ws) (ms++[t])=I b) :
  Wp aC (c1 (dP (av (d+2)) (.ref (σ.length+1)) "append")>>=λG0=>runM (av (d+2)) "append" G0 (.ref (σ.length+1)) [.ref (ad ρ t)]>>=λUI=>aX (d+2) "row_of" [.ref (ad ρ t)]>>=λEl=>bindTo (stLoc i0.names) (cy (cO (bU (cO (bU nt) 2)) 1)) El [I (.ref (ad ρ n)),I (.ref (ad ρ x)),I (.ref σ.length),I (.ref (σ.length+1)),I (.ref (ad ρ t)),dO,qe,U,U]>>=CL (d+2)) (C4 φ σ ρ G n x b k):=by
 refine aE λkk=>?_;obtain⟨_,_,⟨ld,ZS⟩⟩:=sM aP;have oj:=S.add aY;obtain⟨v,bK⟩:=DT (d:=d) c oj.g aP;have t2:=oj.push (o:=.dict v (fB φ ρ fs));refine kk (aG (jk S.aO ab) (aG (k8 S.aO (so _) (by unfold c8;rw[c3];exact S.hG)) (aG bK ?_)));rw[afE];refine aG (m:=cv _) ab (fJ (afG ..) (aG (m:=bE _) ab (aG (B2 t2.g (S.g.lt ZS) aI) (aG (m:=truth _) ab ?_))));by_cases jt:last=x
 ·rw[mw jt,al jt];exact hM ab (cD (M9 t2.g t2.le))
 rw[kP jt];refine aE λkk=>?_;obtain⟨ks,i6,i7⟩:=ao jt;refine kk ?_;exact hN ab (ZF c aV t2 b2 aP i6 i7)
inductive C5(k:Nat)(G:bq)(x t:Nat)(ws ms:List Nat):Bool->Prop
 |bG(e:t=x):C5 k G x t ws ms true
 |skip(b:Bool)(sw:gV)(be:Option Nat)(e:¬t=x)(cu:gt G t=some (.eu sw be))(ay:sw.vz=false\/mem ms t=true)(h:tj k G x ws ms=some b):C5 k G x t ws ms b
 |row(b:Bool)(r:Nat)(be:Option Nat)(fs:Row)(last:Nat)(e:¬t=x)(cu:gt G t=some (.eu (.dc r) be))(ay:mem ms t=false)(aP:rowOf G t=some (fs,last))(al:last=x->b=true)(ao:¬last=x->∃ks,vr G fs=some ks/\tj k G x (ks.reverse++ws) (ms++[t])=some b):C5 k G x t ws ms b
theorem rk{c:Bool}{a b:Option α}{r:α}{C:Prop}(h:(Bool.rec a b c:Option α)=I r)(fC:c=aH->a=I r->C)(gC:c=ak->b=I r->C):C:=by
 induction c with
 |false=>exact fC ab h
 |true=>exact gC ab h
theorem Fn{i j:Nat}(h:Nat.beq i j=aH):¬i=j:=λe=>by rw[mw e]at h;exact nE h
theorem ZG{w:Nat}(h:tj (k+1) G x (w::ws) ms=I b):∃t,iy G w=I t/\C5 k G x t ws ms b:=
 h7 (o:=iy G w) h λt h1 h=>⟨t,h1,rk (c:=Nat.beq t x) h (λe h=>h7 (o:=q9 G t) h λsw h2 h=>by
  obtain⟨be,cu⟩:=xC h2;replace e:=Fn e
  induction sw with
  |gK=>exact .skip b _ be e cu (.inl ab) h
  |num=>exact .skip b _ be e cu (.inl ab) h
  |dc r=>exact rk (c:=mem ms t) h (λhm h=>h7 (o:=rowOf G t) h λp h2 h=>.row b r be p.1 p.2 e cu hm h2 (λq=>rk (c:=Nat.beq p.2 x) h (λdG ae=>absurd q (Fn dG)) λae h=>by cases h;rfl) λq=>rk (c:=Nat.beq p.2 x) h (λae h=>h7 h λks h1 h2=>⟨ks,h1,h2⟩) λdG ae=>absurd (uq dG) q) λhm h=>.skip b _ be e cu (.inr hm) h) λe h=>by
  cases h;exact .bG (uq e)⟩
theorem M8{sw:gV}{be:Option Nat}{dO qe:Option V}{E:V->aq->Prop}{Q:a6×Loc->aq->Prop}(S:hO φ σ ρ G ws ms B aC)(cu:gt G t=I (.eu sw be))
  (h:cf E aC (M.cond (sw.vz && !(mem ms t)) (c1 (dP (av (d+2)) (.ref (σ.length+1)) "append")>>=λG0=>runM (av (d+2)) "append" G0 (.ref (σ.length+1)) [.ref (ad ρ t)]>>=λUI=>aX (d+2) "row_of" [.ref (ad ρ t)]>>=λEl=>bindTo (stLoc i0.names) (cy (cO (bU (cO (bU nt) 2)) 1)) El [I (.ref (ad ρ n)),I (.ref (ad ρ x)),I (.ref σ.length),I (.ref (σ.length+1)),I (.ref (ad ρ t)),dO,qe,U,U]>>=CL (d+2)) (pure (a6.next,[I (.ref (ad ρ n)),I (.ref (ad ρ x)),I (.ref σ.length),I (.ref (σ.length+1)),I (.ref (ad ρ t)),dO,qe,U,U]):M (a6×Loc))) Q) :
  cf E aC (Qj (d+2) (.ref (ad ρ n)) (.ref (ad ρ x)) (.ref σ.length) (.ref (σ.length+1)) (.ref (ad ρ t)) dO qe) Q:=by
 refine cQ (a:=sw.vz && !(mem ms t)) (af:=aC) ((aN (h6 S.g cu)).trans ((aN k7).trans ((aN (m:=truth _) ab).trans ?_))) h;rw[show(dZ.eu sw be).word=sw.word from ab,DV]
 induction sw.vz with
 |false=>rfl
 |true=>
  refine(aN (EY S.aO (DX S.g (S.g.lt cu) S.hm))).trans ((aN (m:=truth _) ab).trans ?_);cases mem ms t <;> rfl
theorem JB(c:cW φ)(g:bD φ σ ρ G)(aM:n<G.len)(aI:x<G.len)(h:hold G n x=I b) :
  Wp σ (aX (d+3) "holds" [.ref (ad ρ n),.ref (ad ρ x)]) (fy (.bool b) (Q9 φ σ ρ G)):=by
 have aV:=g.pos;have hlen:(σ++[Mine.Internal.O.list [V.ref (ad ρ n)]]).length=σ.length+1:=by simp
 refine cf.wp ?_;rw[afy];refine cQ (m:=bP _) ab (cQ (m:=bP _) ab ?_);rw[hlen];refine adV (λk loc aC=>HoldsI φ σ ρ G n x b k aC loc) (k:=60) (.mk [n] [] (U,U,U) ⟨cK b2,by rw[<-hlen];exact b2,nofun,λm hm=>by rw[bT.mp hm];exact aM,(by decide:0+1+6*60<=2000),g.push.push,bx.push.new⟩ h) ?_;intro k loc aC hI
 induction hI with
 |mk ws ms s S i7=>
 induction k using Nat.casesOn with
 |zero=>cases i7
 |succ k=>
 have t4:=S.push (o:=.list []);have ev:eG (aC++[O.list []]) (.ref σ.length) (.ref aC.length)=I ws.isEmpty:=by
  have:=Th (ws:=ws.reverse.map (ad ρ)) (by rw[iv];exact t4.ax) (aaL t4.g λm hm=>S.hw m (R3.mp hm)) b2;rw[this];cases ws <;> simp
 unfold hL;rw[afw];refine cQ (m:=bP _) ab (cQ (AB ev) (cQ (m:=truth _) ab (ja ?_)))
 induction ws using List.casesOn with
 |nil=>
  rw[bH (show ¬(!([]:List Nat).isEmpty)=ak from nofun),afF];cases i7;exact ja (.mk ⟨t4.g,t4.le⟩)
 |cons m ws=>
 rw[bj (show(!(m::ws).isEmpty)=ak from ab),afx];refine aE λkk=>?_;obtain⟨t,aY,dK⟩:=ZG i7;have oj:=t4.pop;have d6:=g.len ▸ q4 g aY;refine kk (cQ (jk t4.cut ab) (cQ (Wm t4.cut aV) (cQ (w_top oj.g aY) (cQ (B2 oj.g d6 aI) (cQ (m:=truth _) ab ?_)))));clear kk i7
 induction dK with
 |bG e=>
  rw[mw e];exact PI ab (ja (M9 oj.g oj.le))
 |skip b sw be e cu ay i7=>
  rw[kP e];refine zj ab (M8 (d:=d) oj cu (zj ?_ (ja (HoldsI.turn (.mk ws ms (_,_,_) (oj.less (g0 ..)) i7)))));rcases ay with ay|ay
  ·rw[ay];rfl
  ·rw[ay,Bool.not_true,Bool.and_false]
 |row b r be fs last e cu ay aP al ao=>
  rw[kP e];exact zj ab (M8 (d:=d) oj cu (PI (by rw[ay];rfl) (ZE c aV oj d6 aI aP al ao).oH))
end
end
section
variable {φ:Nat->Str}{β σ af eF aC:aq}{ρ aA e3:List Nat}{G cJ:bq}{d i j k l n m t x one other now:Nat}{v:V}{α bN:Type}{fs:Row}{q:Nat}
def jY{α:Type}:α->List Nat->V->aq->Prop:=λae az b bS=>b=.none
theorem ad2(g:bD φ σ ρ G)(aj:bx β σ)(bw:j<G.len):bB φ β σ ρ (setB i j G) (d5 (av d) "became" (.ref (ad ρ j)) (.ref (ad ρ i))) λae az bS fc=>True:=f7 λa7 e=>by
 obtain⟨af,h1,h2,h3⟩:=SQ (d:=d) g e bw;exact H5 h1 ⟨.refl,h2,aj.trans h3⟩ aS
theorem zp(g:bD φ σ ρ G)(aj:bx β σ)(bw:j<G.len):bB φ β σ ρ (setB i j G) (d5 (av d) "became" (.ref (ad ρ j)) (.ref (ad ρ i))>>=λae=>(pure V.none:M V)) jY:=
 bB.last (ad2 g .refl bw) aj λa G aA b af e ae az=>f6 e.b5 e.le ab
theorem S8(c:cW φ)(g:bD φ σ ρ G)(h1:one<G.len):bB φ σ σ ρ (za one other G) (aX (d+4) "become" [.ref (ad ρ one),.ref (ad ρ other),.int now]) jY:=by
 refine f7 λw hw=>?_;obtain⟨b,e⟩:=xC hw;have h2:=g.lt e;rw[afR];have no:∀{w':gV},w'=w->w'.vz=aH->bB φ σ σ ρ (setB one other G) ((cc (av (d+3)) "word" (.ref (ad ρ other))>>=λUA=>cmp .Eq UA (V.str "record")>>=λUz=>truth Uz>>=λadu=>M.cond adu (aX (d+3) "holds" [.ref (ad ρ other),.ref (ad ρ one)]>>=λUy=>truth Uy>>=λadt=>M.cond adt (pure ak:M Bool) (pure aH:M Bool)) (pure aH:M Bool))>>=λadv=>M.cond adv (M.bad:M V) (Qm (d+3) (.ref (ad ρ one)) (.ref (ad ρ other)) (.int now))) jY:=λ{w'} hw h=>by
  subst hw;refine a9 (b:=aH) (af:=σ) ((aN (h6 g e)).trans ((aN k7).trans ((aN (m:=truth _) ab).trans ?_))) (zp g .refl h2);rw[show(dZ.eu w' b).word=w'.word from ab,DV,h];rfl
 induction w with
 |gK=>exact no ab ab
 |num=>exact no ab ab
 |dc r=>
  refine f7 λq aL=>sa (λae=>aS) λfb=>?_;subst fb;refine aE λkk=>?_;obtain⟨af,ax,⟨cB,le⟩⟩:=(JB (d:=d) c g h2 h1 aL).v;refine kk (a9 (b:=aH) (af:=af) ((aN (h6 g e)).trans ((aN k7).trans ((aN (m:=truth _) ab).trans ?_))) (lE ab (zp cB le h2)));rw[show(dZ.eu (.dc r) b).word=(gV.dc r).word from ab,DV];exact(aN ax).trans ab
noncomputable def bF(φ:Nat->Str)(ls:List Nat):List V:=ls.map λl=>.str (φ l)
theorem Mu{p:Nat}(h:yg G fs l=I p):oy λt r=>oy λl' b=>(lk fs l=I t)/\(gt G t=I (.tail (.eC l' p r) b)):=h7 h λt h1 h=>by
 obtain⟨l',r,b,e⟩:=vt h;exact⟨t,r,l',b,h1,e⟩
theorem Uq(c:cW φ)(lo:hW q fs)(aj:cl l=q)(h:lk fs l=I t):ez (fB φ ρ fs) (.inr (φ l))=I (.ref (ad ρ t)):=by rw[xv c lo aj,h];rfl
theorem Ur(h:gi ρ aA)(a8:∀p∈fs,p.2<ρ.length):fB φ aA fs=fB φ ρ fs:=zR λp hp=>by rw[h.ad (a8 p hp)]
structure e2(φ:Nat->Str)(q:Nat)(σ:aq)(ρ:List Nat)(a:Nat)(fs:Row):Prop where
 at_:∃v,σ[a]? =I (.dict v (fB φ ρ fs))
 lo:hW q fs
 lt:∀p∈fs,p.2<ρ.length
theorem e2.le{a:Nat}(h:e2 φ q σ ρ a fs)(le:bx σ af)(e:gi ρ aA):e2 φ q af aA a fs:=by
 obtain⟨v,h1⟩:=h.at_;exact⟨⟨v,by rw[Ur e h.lt];exact le.dict h1⟩,h.lo,λp hp=>di (h.lt p hp) e.len⟩
theorem e2.get{a:Nat}(c:cW φ)(h:e2 φ q σ ρ a fs)(aj:cl l=q)(e:lk fs l=I t):item (.ref a) (.str (φ l)) σ=.ok (.ref (ad ρ t)) σ:=by
 refine aE λkk=>?_;obtain⟨v,h1⟩:=h.at_;refine kk ?_;exact u1 (key:=.inr (φ l)) h1 ab (Uq c h.lo aj e)
theorem Mm(h:lk fs l=I t):(l,t)∈fs:=by
 induction fs with
 |nil=>exact bh h
 |cons p fs au=>exact rk (c:=Nat.beq p.1 l) h (λae h=>da _ (au h)) λe h=>(by cases h;rw[<-uq e];exact b8:(l,t)∈p::fs)
theorem e2.Mn{a:Nat}(h:e2 φ q σ ρ a fs)(e:lk fs l=I t):t<ρ.length:=h.lt _ (Mm e)
theorem bW.assoc{h4:Type}{r:bW α}{f:α->bq->bW bN}{h:bN->bq->bW h4}:(r.bind f).bind h=r.bind λa G=>(f a G).bind h:=by cases r <;> rfl
theorem qc{h4:Type}{o:Option α}{f:α->bW bN}{h:bN->bq->bW h4}:(dT o f).bind h=dT o λa=>(f a).bind h:=by cases o <;> rfl
def qj(a:Nat)(ρ:List Nat)(b:V)(_:aq):Prop:=b=.ref (ad ρ a)/\a<ρ.length
theorem jb{a7:dZ}{m:M V}(g:bD φ σ ρ G)(aj:bx β σ)(h:G.len<1000->Made φ σ ρ G a7 (m σ)):bB φ β σ ρ (gO a7 G) m qj:=sa (λaD=>by
 refine aE λkk=>?_;obtain⟨a,af,e,cB,le⟩:=h (sq (nx aD));refine kk ?_;refine H5 e ⟨.snoc,cB,aj.trans le⟩ ⟨?_,?_⟩
 ·rw[<-g.len,Cx]
 ·rw[dM,g.len];exact jK _) λae=>aS
theorem acZ{ls:List Nat}:y6 fs t G (l::ls)=(dT (yg G fs l) λp=>dT (hold G p t) λb=>Bool.rec (.ok () G) .bad b).bind λae G=>y6 fs t G ls:=by
 refine(?_:(dT _ λp=>dT _ λb=>_)=_);rw[qc];refine dR _ (funext λp=>?_);rw[qc];refine dR _ (funext λb=>?_);cases b <;> rfl
theorem adb{ls:List Nat}{r:Nat}:Cp fs (l::ls) r G=(dT (yg G fs l) λp=>gO (.tail (.eC l p r) U) G).bind (Cp fs ls):=by
 refine(?_:(dT _ λp=>_)=_);rw[qc];rfl
theorem S6{a b:Nat}{ls:List Nat}{x:V}{fin:Loc->M V}{P:Unit->List Nat->V->aq->Prop}{kk:Unit->bq->bW Unit}(c:cW φ)(g:bD φ σ ρ G)(aj:bx β σ)(al:σ[b]? =I (.list (bF φ ls)))(vM:∀l∈ls,cl l=q)(aP:e2 φ q σ ρ a fs)(aY:t<ρ.length)
  (Z3:∀o cJ aA af,gi ρ aA->bD φ af aA cJ->bx β af->bx σ af->bB φ β af aA (kk () cJ) (fin [I (.ref (ad ρ t)),I (.ref a),I (.ref b),I x,I (.int now),o,U,U,U,U,U]) P) :
  bB φ β σ ρ ((y6 fs t G ls).bind kk) (eT (av (d+3)) (cy wJ) (bU wJ) (.lst b) lG.names (I (.ref (ad ρ t))::I (.ref a)::I (.ref b)::I x::I (.int now)::n_6)>>=dA cN fin) P:=by
 refine wD (F:=λls (_:Unit) G=>(y6 fs t G ls).bind kk) (xs:=ls) (g:=λl=>.str (φ l)) (J:=bx σ) ab (kq λaC h=>h.list al) (λae aA loc af=>∃o,pR (loc=[I (.ref (ad ρ t)),I (.ref a),I (.ref b),I x,I (.int now),o,U,U,U,U,U]) (bx σ af) (gi ρ aA)) (λae az bS fc aU=>by obtain⟨_,_,h,_⟩:=aU;exact h) () ⟨_,ab,.refl,.refl⟩ g aj ?_ ?_
 ·intro l Mg _ cJ aA loc af hm cB gu ⟨o,ax,le,ex⟩;subst ax;refine⟨_,by rw[acZ,bW.assoc],?_⟩;rw[afU];have j0:=vM l hm;refine f7 λp hp=>f7 λq aL=>sa (λae=>aS) λfb=>?_;subst fb;refine aE λkk=>?_;obtain⟨bX,r,l',kR,h1,h2⟩:=Mu hp;obtain⟨cz,ax,⟨g2,du⟩⟩:=(JB (d:=d) c cB (cB.wf _ _ h2 p (oB _ b8)) (cB.len ▸ di aY ex.len) aL).v;replace ax:=(ex.ad aY ..) ▸ ax;exact kk (a9 ((aP.le le ex).get c j0 h1) (a9 (u0 cB h2) (a9 ax (a9 (m:=truth _) ab (lE ab (f6 g2 (gu.trans du) ⟨ab,_,ab,le.trans du,ex⟩))))))
 ·intro _ cJ aA loc af _ cB gu ⟨o,ax,le,ex⟩;subst ax;exact Z3 o cJ aA af ex cB gu le
theorem JG{a b be:Nat}{ls:List Nat}(c:cW φ)(g:bD φ σ ρ G)(al:σ[b]? =I (.list (bF φ ls)))(vM:∀l∈ls,cl l=q)(aP:e2 φ q σ ρ a fs)(aY:t<ρ.length)(yE:be<ρ.length) :
  bB φ σ σ ρ (HC t fs ls be G) (aX (d+4) "become_row" [.ref (ad ρ t),.ref a,.ref b,.ref (ad ρ be),.int now]) jY:=by
 rw[afS];refine a9 (kx al) (S6 c g .refl al vM aP aY λo kZ sz c4 qw g1 ae dU=>?_);rw[afW];refine a9 (Wl (dU.list al)) ?_;have hw:Walks (.rev b (bF φ ls).length) (ls.reverse.map λl=>V.str (φ l)) (bx σ):=by
  rw[ajY];exact SM (λaC h=>h.list al) ab
 refine wD (F:=λls r G=>(Cp fs ls r G).bind λr G=>setB t r G) (J:=bx σ) ab hw (λs aA loc af=>∃o,uo (loc=[I (.ref (ad ρ t)),I (.ref a),I (.ref b),I (.ref (ad ρ be)),I (.int now),o,I (.ref (ad aA s)),U,U,U,U]) (bx σ af) (gi ρ aA) (s<aA.length)) (λae az bS fc aU=>by obtain⟨_,_,h,_,_⟩:=aU;exact h) be ⟨_,by rw[qw.ad yE],dU,qw,di yE qw.len⟩ g1 dU ?_ ?_
 ·intro l Mg s cJ aA loc af hm cB gu ⟨o,ax,le,ex,aD⟩;subst ax;refine⟨_,by rw[adb,bW.assoc],?_⟩;rw[afT];refine f7 λp hp=>?_;refine aE λkk=>?_;obtain⟨bX,r,l',kR,h1,h2⟩:=Mu hp;have cL:=(aP.le le ex).get c (vM l (R3.mp hm)) h1;obtain⟨u,cF⟩:=sP (d:=d+3) cB h2;refine kk (a9 cL (a9 (u0 cB h2) (a9 cL (a9 cF ?_))));refine bB.last (jb cB .refl (w_field (d:=d+1) cB (cB.wf _ _ h2 p (oB _ b8)) (cB.len ▸ aD))) gu λs' ow nz v cz he du aU=>?_;obtain⟨aK,gD⟩:=aU;subst aK;exact f6 he.b5 he.le ⟨ab,_,ab,le.trans du,ex.trans he.ext,gD⟩
 ·intro s cJ aA loc af _ cB gu ⟨o,ax,le,ex,aD⟩;subst ax;rw[afV,<-ex.ad aY];exact zp cB gu (cB.len ▸ aD)
end
section
variable {φ:Nat->Str}{β σ af eF aC:aq}{ρ aA e3:List Nat}{G cJ:bq}{d i j k l n m t x one other now:Nat}{v:V}{α bN:Type}{fs os:Row}{ls:List Nat}{q:Nat}
theorem Vo{a b:Str}(h:strLt a b=ak):strLt b a=aH:=jI λh'=>aj2 _ (aj1 h' (qS h))
theorem cW.lt(c:cW φ)(ay:cl i=cl j):strLt (φ i) (φ j) = !Nat.ble j i:=by
 rcases Nat.lt_trichotomy i j with h|h|h
 ·rw[c i j ay h,zY.mpr (λe=>qT.mpr (nx e) h)];rfl
 ·subst h;rw[Ew,IZ (cI _)];rfl
 ·rw[Vo (c j i ay.symm h),IZ (pW h)];rfl
theorem E6{y:Nat}:putN x (y::ls)=Bool.rec (y::putN x ls) (x::y::ls) (Nat.ble x y):=rfl
theorem WH:i∈putN x ls->i=x\/i∈ls:=by
 induction ls with
 |nil=>intro h;exact .inl (bT.mp h)
 |cons y r au=>
  rw[E6]
  induction Nat.ble x y with
  |true=>exact cY.mp
  |false=>
   intro h;rcases cY.mp h with rfl|h
   ·exact .inr b8
   ·exact(au h).imp id (da _)
theorem uR:i∈ew ls->i∈ls:=by
 induction ls with
 |nil=>exact id
 |cons y r au=>exact λh=>(WH h).elim (λe=>e ▸ b8) λh=>da _ (au h)
theorem WG(c:cW φ)(aI:cl x=q)(h:∀l∈ls,cl l=q):lY (φ x) (ls.map φ)=(putN x ls).map φ:=by
 induction ls with
 |nil=>rfl
 |cons y r au=>
  rw[eE,sQ,c.lt ((h y b8).trans aI.symm),E6,au λl aj=>h l (da _ aj)];cases Nat.ble x y <;> rfl
theorem Vw(c:cW φ)(h:∀l∈ls,cl l=q):jj (ls.map φ)=(ew ls).map φ:=by
 induction ls with
 |nil=>rfl
 |cons y r au=>
  refine(?_:lY (φ y) (jj (r.map φ))=_);have h':∀l∈r,cl l=q:=λl aj=>h l (da _ aj);rw[au h',WG c (h y b8) λl aj=>h' l (uR aj)];rfl
theorem adQ:allStrs (bF φ ls)=I (ls.map φ):=by
 induction ls with
 |nil=>rfl
 |cons y r au=>
  refine(?_:(allStrs (bF φ r)).map _=_);rw[au];rfl
theorem uQ(c:cW φ)(h:∀l∈ls,cl l=q):xE (bF φ ls)=I (bF φ (ew ls)):=by
 unfold xE;rw[adQ,RP,Vw c h];unfold bF;rw[iv];rfl
theorem e2.has{a:Nat}(c:cW φ)(h:e2 φ q σ ρ a fs)(aj:cl l=q):cmp .NotIn (.str (φ l)) (.ref a) σ=.ok (.bool (!e6 fs l)) σ:=by
 refine aE λkk=>?_;obtain⟨v,h1⟩:=h.at_;refine kk ?_;rw[Wn (key:=.inr (φ l)) h1 ab,xv c h.lo aj];rw[GI];cases lk fs l <;> rfl
theorem e2.aaj{a:Nat}(c:cW φ)(h:e2 φ q σ ρ a fs)(aj:cl l=q):cmp .In (.str (φ l)) (.ref a) σ=.ok (.bool (e6 fs l)) σ:=by
 refine aE λkk=>?_;obtain⟨v,h1⟩:=h.at_;refine kk ?_;rw[Wv (key:=.inr (φ l)) h1 ab,xv c h.lo aj];rw[GI];cases lk fs l <;> rfl
theorem e2.list{a:Nat}(h:e2 φ q σ ρ a fs):oe (.ref a) σ=.ok (.ref σ.length) (σ++[O.list (bF φ (fs.map (·.1)))]):=by
 refine aE λkk=>?_;obtain⟨v,h1⟩:=h.at_;refine kk ?_;rw[Wo h1,keys_map];unfold bF;rw[iv];rfl
def ET(fs os:Row)(w w':TW)(G:bq)(l:Nat):bW Unit:=Bool.rec (Bool.rec (.ok () G) .bad (!e6 fs l&&w.fS)) .bad (!e6 os l&&w'.fS)
theorem K2{w w':TW}:nJ fs os w w' G (l::ls)=(ET fs os w w' G l).bind λae G=>nJ fs os w w' G ls:=by
 unfold ET;refine(?_:(Bool.rec (Bool.rec (nJ fs os w w' G ls) (Bool.rec .bad (nJ fs os w w' G ls) (e6 fs l)) w.fS) (Bool.rec .bad (Bool.rec (nJ fs os w w' G ls) (Bool.rec .bad (nJ fs os w w' G ls) (e6 fs l)) w.fS) (e6 os l)) w'.fS:bW Unit)=_);cases e6 fs l <;> cases e6 os l <;> cases w.fS <;> cases w'.fS <;> rfl
theorem yV{p:Nat}{A:TW}(g:bD φ σ ρ G)(hp:iN G p=I A):(cc (av d) "word" (.ref (ad ρ p))>>=λt=>cmp .Eq t (V.str "end")>>=λt=>truth t) σ=.ok A.fS σ:=by
 refine aE λkk=>?_;obtain⟨b,e⟩:=sH hp;refine kk ?_;refine(aN (h6 g e)).trans ((aN k7).trans ?_);rw[show(dZ.tail A b).word=A.word from ab,Uu];rfl
theorem K1{a p:Nat}{A:TW}(c:cW φ)(g:bD φ σ ρ G)(bu:e2 φ q σ ρ a fs)(aj:cl l=q)(hp:iN G p=I A) :
  (cmp .NotIn (.str (φ l)) (.ref a)>>=λt=>truth t>>=λb=>M.cond b (cc (av d) "word" (.ref (ad ρ p))>>=λt=>cmp .Eq t (V.str "end")>>=λt=>truth t>>=λb=>M.cond b (pure ak:M Bool) (pure aH:M Bool)) (pure aH:M Bool)) σ=.ok (!e6 fs l&&A.fS) σ:=by
 refine(aN (bu.has c aj)).trans ((aN (m:=truth _) ab).trans ?_)
 induction e6 fs l with
 |true=>rfl
 |false=>
  refine(aN (m:=cc _ _ _>>=λt=>cmp .Eq t _>>=λt=>truth t) (yV g hp)).trans ?_;cases A.fS <;> rfl
inductive PV(a b p q:Nat)(aC:aq)(ρ:List Nat)(u:Unit):List Nat->Loc->aq->Prop
 |mk(o:Option V):PV a b p q aC ρ u ρ [some (.ref a),some (.ref p),some (.ref b),some (.ref q),o,none,none,none] aC
theorem SR{a b p r:Nat}{A B:TW}(c:cW φ)(g:bD φ σ ρ G)(bu:e2 φ q σ ρ a fs)(al:e2 φ q σ ρ b os)(tn:fs.length<=5)(vI:os.length<=5)(hp:iN G p=I A)(aL:iN G r=I B) :
  bB φ σ σ ρ (nJ fs os A B G (ew (fs.map (·.1)++os.map (·.1)))) (aX (d+2) "need_room" [.ref a,.ref (ad ρ p),.ref b,.ref (ad ρ r)]) λae aA v az=>v=.none/\aA=ρ:=by
 rw[aeG];have hlo:∀l∈fs.map (·.1)++os.map (·.1),cl l=q:=λl aj=>by
  rcases hs.mp aj with aj|aj
  ·obtain⟨p,hp,rfl⟩:=iK.mp aj;exact bu.lo p hp
  ·obtain⟨p,hp,rfl⟩:=iK.mp aj;exact al.lo p hp
 refine a9 bu.list (a9 (al.le bx.push .refl).list ?_);have hlen:(fs.map (·.1)++os.map (·.1)).length<=10:=by rw[dM,c3,c3];exact fk 0xA09480080A12842509021 ab tn vI
 have Nk:∀ls:List Nat,(bF φ ls).length=ls.length:=λls=>c3 ..;have rK:bF φ (fs.map (·.1))++bF φ (os.map (·.1))=bF φ (fs.map (·.1)++os.map (·.1)):=(h0 ..).symm;refine a9 (u5 (cK b2) b2 (by rw[<-dM,rK,Nk];exact b7 hlen (by decide +kernel))) ?_;rw[rK];refine a9 (uZ b2 (by rw[Nk];exact jW 0x81E084240040A09021 ab hlen) (uQ c hlo)) ?_;generalize b4:((((σ++[O.list (bF φ (fs.map (·.1)))])++[O.list (bF φ (os.map (·.1)))])++[O.list (bF φ (fs.map (·.1)++os.map (·.1)))]):aq)=c4;have dU:bx σ (c4++[O.list (bF φ (ew (fs.map (·.1)++os.map (·.1))))]):=by subst b4;exact bx.push.new.new.new
 have g1:bD φ (c4++[O.list (bF φ (ew (fs.map (·.1)++os.map (·.1))))]) ρ G:=by subst b4;exact g.push.push.push.push
 have ax:(c4++[O.list (bF φ (ew (fs.map (·.1)++os.map (·.1))))])[c4.length]? =I (.list (bF φ (ew (fs.map (·.1)++os.map (·.1))))):=b2;generalize c4++[O.list (bF φ (ew (fs.map (·.1)++os.map (·.1))))]=cz at dU g1 ax;refine a9 (kx ax) ?_;refine wD (F:=λls (_:Unit) G=>nJ fs os A B G ls) (g:=λl=>.str (φ l)) (J:=λaC=>aC=cz) ab (kq λaC h=>by subst h;exact ax) (PV a b (ad ρ p) (ad ρ r) cz ρ) (λae az bS fc aU=>by cases aU;rfl) () (.mk _) g1 dU ?_ ?_
 ·intro l Mg _ cJ aA loc af hm cB gu aR
  induction aR with
  |mk o=>
  refine⟨_,K2,?_⟩;have j0:=hlo l (uR hm);rw[aeH];refine sa (λae=>aS) λh1=>sa (λae=>aS) λh2=>?_;have ax:=K1 (d:=d+1) c g1 (al.le dU .refl) j0 aL;have aO:=K1 (d:=d+1) c g1 (bu.le dU .refl) j0 hp;rw[h1]at ax;rw[h2]at aO;refine a9 ax (lE ab ?_);exact a9 aO (lE ab (f6 cB gu ⟨ab,.mk _⟩))
 ·intro _ cJ aA loc af _ cB gu aR
  induction aR with
  |mk o=>
  rw[aeI];exact f6 cB gu ⟨ab,ab⟩
end
section
variable {φ:Nat->Str}{β σ af eF aC:aq}{ρ aA e3:List Nat}{G cJ:bq}{d i j k l n m t x one other now:Nat}{v:V}{α bN:Type}{fs os:Row}{ls:List Nat}{q:Nat}
theorem lD.lt{n r:Nat}{acc fs:Row}(g:bD φ σ ρ G)(h:lD G n r acc fs t):(∀p∈acc,p.2<G.len)->∀p∈fs,p.2<G.len:=by
 induction h with
 |stop _ _ _ _ _=>exact id
 |next l k dn b h1 e aM h2 h au=>exact λbu=>au λp hp=>(hs.mp hp).elim (bu p) λhp=>by rw[bT.mp hp];exact g.lt e
inductive PT(φ:Nat->Str)(q:Nat)(σ:aq)(ρ:List Nat)(G:bq)(fs:Row)(r:Res V)(v:V):Prop
 |mk(af:aq)(h1:r=.ok (.tup [.ref σ.length,v]) af)(h2:bD φ af ρ G)(h3:bx σ af)(bf:e2 φ q af ρ σ.length fs):PT φ q σ ρ G fs r v
theorem Av(c:cW φ)(g:bD φ σ ρ G)(h:rowOf G i=I (fs,t))(lo:hW q fs):PT φ q σ ρ G fs (aX (d+2) "row_of" [.ref (ad ρ i)] σ) (.ref (ad ρ t)):=by
 refine aE λkk=>?_;obtain⟨v,e⟩:=DT (d:=d) c g h;obtain⟨_,_,_,_,_,h3⟩:=xO h;exact kk ⟨_,e,g.push,.push,⟨v,b2⟩,lo,λp hp=>g.len ▸ h3.lt g nofun p hp⟩
theorem KZ(g:bD φ σ ρ G)(h:rowOf G i=I (fs,t)):t<ρ.length:=by
 obtain⟨_,_,⟨_,e⟩⟩:=sM h;rw[g.len];exact g.lt e
theorem FI:m4 fs os=(fs.filter λp=>!e6 os p.1).map (·.1):=by
 induction fs with
 |nil=>rfl
 |cons p fs au=>
  refine(?_:(Bool.rec (p.1::m4 fs os) (m4 fs os) (e6 os p.1):List Nat)=_);rw[akc,au];cases e6 os p.1 <;> rfl
theorem Bf(lo:hW q fs):∀l∈m4 fs os,cl l=q:=λl aj=>by
 replace aj:=(FI ..) ▸ aj;obtain⟨p,hp,rfl⟩:=iK.mp aj;exact lo p (ajW.mp hp).1
theorem Mt:(fs.filter λp=>!e6 os p.1).map (λp=>V.str (φ p.1))=bF φ (m4 fs os):=by
 unfold bF;rw[FI,iv];rfl
theorem Ms:(m4 fs os).length<=fs.length:=by
 rw[FI,c3];exact aj5 ..
theorem e2.walk{a:Nat}(h:e2 φ q σ ρ a fs):∃v,(el (.ref a) σ=.ok (.keys a v (bF φ (fs.map (·.1)))) σ)/\(Walks (.keys a v (bF φ (fs.map (·.1)))) (fs.map λp=>V.str (φ p.1)) λaC=>aC=σ):=by
 obtain⟨v,h1⟩:=h.at_;have e:bF φ (fs.map (·.1))=fs.map λp=>V.str (φ p.1):=by unfold bF;rw[iv];rfl
 refine⟨v,?_,?_⟩
 ·rw[Le h1,keys_map,e]
 ·rw[e];exact Jr λaC F7=>by subst F7;unfold nD;rw[h1]
structure Rs(φ:Nat->Str)(c:Nat)(σ:aq)(ρ:List Nat)(a b:Nat)(p q:Row×Nat):Prop where
 bl:e2 φ c σ ρ a p.1
 cw:e2 φ c σ ρ b q.1
 la:p.1.length<=5
 o8:q.1.length<=5
 q6:p.2<ρ.length
 bb:q.2<ρ.length
section
variable {a b be cs:Nat}{p q:Row×Nat}{x y:V}
theorem Rs.le(h:Rs φ cs σ ρ a b p q)(le:bx σ af)(e:gi ρ aA):Rs φ cs af aA a b p q:=⟨h.bl.le le e,h.cw.le le e,h.la,h.o8,di h.q6 e.len,di h.bb e.len⟩
theorem D9{t:Nat}{A:TW}(g:bD φ σ ρ G)(hp:iN G t=I A):(cc (av d) "word" (.ref (ad ρ t))>>=λt=>cmp .Eq t (V.str "unknown")>>=λt=>truth t) σ=.ok A.tc σ:=by
 refine aE λkk=>?_;obtain⟨b,e⟩:=sH hp;refine kk ?_;refine(aN (h6 g e)).trans ((aN k7).trans ?_);rw[show(dZ.tail A b).word=A.word from ab,Ut];rfl
theorem Jv(c:cW φ)(g:bD φ σ ρ G)(aj:bx β σ)(h:Rs φ cs σ ρ a b p q)(al:be<ρ.length) :
  bB φ β σ ρ (K8 p q be G) (H8 (d+4) x y (.int now) (I (.ref a)) (I (.ref (ad ρ p.2))) (I (.ref b)) (I (.ref (ad ρ q.2))) (.ref (ad ρ be))) jY:=by
 refine f7 λA aQ=>a9 (m:=bE _) ab (a9 (m:=cc _ _ _>>=λt=>cmp .Eq t _>>=λt=>truth t) (D9 g aQ) (CG ab (λcF=>?_) λcF=>f6 g aj ab));obtain⟨v,aT,hw⟩:=h.cw.walk;refine a9 (m:=bE _) ab (a9 (m:=bE _) ab (a9 (m:=bE _) ab (a9 aT ?_)));refine a9 (xS (X:=Nat×Nat) (p:=λr=>!e6 p.1 r.1) (f:=λr=>V.str (φ r.1)) (L:=λo=>[U,o.map λr=>V.str (φ r.1),I (.ref a)]) ab hw afl (afm ..) (b7 h.o8 (by decide +kernel)) (λae az=>afo ..) (λr aP=>?_) λr ae az=>by rw[afn];rfl) ?_
 ·rw[afk];exact(aN (m:=bE _) ab).trans ((aN (h.bl.has c (h.cw.lo r aP))).trans ((aN (m:=truth _) ab).trans ab))
 rw[Mt];refine a9 (uZ b2 (by unfold bF;rw[c3];exact fz Ms (fz h.o8 (by decide))) (uQ c (Bf h.cw.lo))) ?_;have le:bx σ ((σ++[O.list (bF φ (m4 q.1 p.1))])++[O.list (bF φ (ew (m4 q.1 p.1)))]):=bx.push.new;exact bB.last (JG (d:=d) c g.push.push b2 (λl aj=>Bf h.cw.lo l (uR aj)) (h.le le .refl).cw h.q6 al) (aj.trans le) λae cJ aA az af he bS fc=>f6 he.b5 he.le ab
theorem Jw(c:cW φ)(g:bD φ σ ρ G)(aj:bx β σ)(h:Rs φ cs σ ρ a b p q)(al:be<ρ.length) :
  bB φ β σ ρ (EU p q be G) (H9 (d+4) x y (.int now) (I (.ref a)) (I (.ref (ad ρ p.2))) (I (.ref b)) (I (.ref (ad ρ q.2))) (.ref (ad ρ be))) jY:=by
 refine f7 λA aQ=>a9 (m:=bE _) ab (a9 (m:=cc _ _ _>>=λt=>cmp .Eq t _>>=λt=>truth t) (D9 g aQ) ?_)
 induction A.tc with
 |false=>exact lE ab (Jv c g aj h al)
 |true=>
 refine pM ab ?_;obtain⟨v,aT,hw⟩:=h.bl.walk;refine a9 (m:=bE _) ab (a9 (m:=bE _) ab (a9 (m:=bE _) ab (a9 aT ?_)));refine a9 (xS (X:=Nat×Nat) (p:=λr=>!e6 q.1 r.1) (f:=λr=>V.str (φ r.1)) (L:=λo=>[U,o.map λr=>V.str (φ r.1),I (.ref b)]) ab hw afg (afh ..) (b7 h.la (by decide +kernel)) (λae az=>afj ..) (λr aP=>?_) λr ae az=>by rw[afi];rfl) ?_
 ·rw[aff];exact(aN (m:=bE _) ab).trans ((aN (h.cw.has c (h.bl.lo r aP))).trans ((aN (m:=truth _) ab).trans ab))
 rw[Mt];refine a9 (uZ b2 (by unfold bF;rw[c3];exact fz Ms (fz h.la (by decide))) (uQ c (Bf h.bl.lo))) ?_;have le:bx σ ((σ++[O.list (bF φ (m4 p.1 q.1))])++[O.list (bF φ (ew (m4 p.1 q.1)))]):=bx.push.new;have h':=h.le le .refl;refine bB.bind (JG (d:=d) c g.push.push b2 (λl aj=>Bf h.bl.lo l (uR aj)) h'.bl h.bb al) (aj.trans le) λae cJ aA az af he FG bS=>?_;rw[<-he.ext.ad h.q6,<-he.ext.ad h.bb,<-he.ext.ad al];exact Jv c he.b5 he.le (h'.le FG he.ext) (di al he.ext.len)
theorem V0{w w':TW}:nJ fs os w w' G ls=.ok () G\/nJ fs os w w' G ls=.bad:=by
 induction ls with
 |nil=>exact .inl ab
 |cons l ls au=>
  rw[K2];unfold ET
  induction (!e6 os l&&w'.fS) with
  |true=>exact .inr ab
  |false=>induction (!e6 fs l&&w.fS) with
   |true=>exact .inr ab
   |false=>exact au
theorem V9{A B:TW}:Ax p q A B G=Bool.rec (Bool.rec (Aw p q G) (setB q.2 p.2 G) (A.fS&&B.fS)) (.ok () G) (Nat.beq p.2 q.2):=by
 unfold Ax;cases A.fS <;> cases B.fS <;> rfl
theorem SS(c:cW φ)(g:bD φ σ ρ G)(aj:bx β σ)(h:Rs φ cs σ ρ a b p q):bB φ β σ ρ (Aw p q G) (Qe (d+4) x y (.int now) (I (.ref a)) (I (.ref (ad ρ p.2))) (I (.ref b)) (I (.ref (ad ρ q.2)))) jY:=by
 refine bB.bind (jb g .refl (DR (d:=d+2) g)) aj λbe sk mS v fA vS gB aU=>?_;obtain⟨aK,al⟩:=aU;subst aK;have bf:=h.le gB vS.ext;have gP:=vS.b5;rw[<-vS.ext.ad h.q6,<-vS.ext.ad h.bb];refine f7 λA aQ=>f7 λB hB=>?_;have t3:∀{be:Nat},be<mS.length->bB φ β fA mS (EU p q (Bool.rec be q.2 B.fS) sk) (Ia (d+4) x y (.int now) (I (.ref a)) (I (.ref (ad mS p.2))) (I (.ref b)) (I (.ref (ad mS q.2))) (.ref (ad mS be))) jY:=λ{be} al=>by
  refine a9 (m:=bE _) ab (a9 (m:=cc _ _ _>>=λt=>cmp .Eq t _>>=λt=>truth t) (yV gP hB) ?_)
  induction B.fS with
  |true=>exact pM ab (a9 (m:=bE _) ab (Jw c gP vS.le bf bf.bb))
  |false=>exact lE ab (Jw c gP vS.le bf al)
 refine a9 (m:=bE _) ab (a9 (m:=cc _ _ _>>=λt=>cmp .Eq t _>>=λt=>truth t) (yV gP aQ) ?_);unfold Pk
 induction A.fS with
 |true=>exact pM ab (a9 (m:=bE _) ab (t3 bf.q6))
 |false=>exact lE ab (t3 al)
theorem SU{A B:TW}(c:cW φ)(g:bD φ σ ρ G)(aj:bx β σ)(h:Rs φ cs σ ρ a b p q)(aQ:iN G p.2=I A)(hB:iN G q.2=I B):bB φ β σ ρ (Ax p q A B G) (bE (I (V.ref (ad ρ p.2)))>>=λU2=>bE (I (V.ref (ad ρ q.2)))>>=λU1=>cmp .Eq U2 U1>>=λU0=>truth U0>>=λadC=>M.cond adC (pure V.none:M V) (Qf (d+4) x y (.int now) (I (.ref a)) (I (.ref (ad ρ p.2))) (I (.ref b)) (I (.ref (ad ρ q.2))))) jY:=by
 rw[V9];refine a9 (m:=bE _) ab (a9 (m:=bE _) ab (a9 (B2 g (g.len ▸ h.q6) (g.len ▸ h.bb)) (a9 (m:=truth _) ab (CG ab (λae=>f6 g aj ab) λae=>?_))));refine a9 (b:=A.fS&&B.fS) (af:=σ) ?_ (CG ab (λae=>?_) λae=>SS c g aj h)
 ·refine(aN (m:=bE _) ab).trans ((aN (m:=cc _ _ _>>=λt=>cmp .Eq t _>>=λt=>truth t) (yV g aQ)).trans ?_)
  induction A.fS with
  |false=>rfl
  |true=>
   refine(?_:(bE (I (V.ref (ad ρ q.2)))>>=λU5=>cc (av (d+4)) "word" U5>>=λU4=>cmp .Eq U4 (V.str "end")>>=λU3=>truth U3>>=λadD=>M.cond adD (pure ak:M Bool) (pure aH:M Bool)) σ=_);refine(aN (m:=bE _) ab).trans ((aN (m:=cc _ _ _>>=λt=>cmp .Eq t _>>=λt=>truth t) (yV g hB)).trans ?_);cases B.fS <;> rfl
 ·refine aE λkk=>?_;obtain⟨_,pA⟩:=sH aQ;obtain⟨_,wb⟩:=sH hB;obtain⟨u,cF⟩:=sP (d:=d+4) g pA;obtain⟨u',yn⟩:=sP (d:=d+4) g wb;obtain⟨af,ax,cB,le⟩:=z4 (d:=d+4) (u':=min u u') g pA;exact kk (a9 (m:=bE _) ab (a9 cF (a9 (m:=bE _) ab (a9 yn (a9 (m:=lz _ _) ab (a9 (m:=bE _) ab (a9 ax (a9 (m:=bE _) ab (a9 (m:=bE _) ab (zp cB (aj.trans le) (g.len ▸ h.q6)))))))))))
theorem SV(c:cW φ)(g:bD φ σ ρ G):bB φ σ σ ρ (K7 one other G) (aX (d+5) "join_rests" [.ref (ad ρ one),.ref (ad ρ other),.int now]) jY:=by
 rw[afe];refine f7 λp hp=>f7 λq aL=>sa (λay=>f7 λA aQ=>f7 λB hB=>?_) λae=>aS;refine aE λkk=>?_;obtain⟨_,s7⟩:=uW hp;obtain⟨_,s6⟩:=uW aL;obtain⟨cs,s7,s6⟩:=LC ay s7 s6;obtain⟨c4,ax,g1,dU,dN⟩:=Av (d:=d+2) c g hp s7;obtain⟨cz,aO,g2,du,ef⟩:=Av (d:=d+2) c g1 aL s6;have h2:Rs φ cs cz ρ σ.length c4.length p q:=⟨dN.le du .refl,ef,(sM hp).2,(sM aL).2,KZ g hp,KZ g aL⟩;have w:=SR (d:=d+2) c g2 h2.bl h2.cw h2.la h2.o8 aQ hB;rcases(V0 (fs:=p.1) (os:=q.1) (w:=A) (w':=B) (G:=G) (ls:=ew (p.1.map (·.1)++q.1.map (·.1)))) with e|e
 ·rw[e]at w;obtain⟨_,eQ,c7,z1,he,aK,hi⟩:=(w:Wp _ _ _);subst aK hi;rw[e]at kk;refine kk (a9 ax ?_);rw[afq];refine a9 (m:=cv _) ab (t5 (afs ..) (a9 aO ?_));rw[afp];exact a9 (m:=cv _) ab (t5 (afr ..) (a9 (m:=bE _) ab (a9 (m:=bE _) ab (a9 (m:=bE _) ab (a9 (m:=bE _) ab (a9 c7 (SU c he.b5 ((dU.trans du).trans he.le) (h2.le he.le .refl) aQ hB)))))))
 ·rw[e]at kk;exact kk aS
end
end
section
variable {φ:Nat->Str}{β σ af eF aC:aq}{ρ aA e3:List Nat}{G cJ:bq}{d i j k l n m t x one other now:Nat}{v:V}{α bN:Type}{fs os:Row}{ls done:List Nat}{q:Nat}
theorem Td(c:cW φ)(h:∀x∈ls,cl x=cl l):iM σ (.str (φ l)) (bF φ ls)=I (mem ls l):=by
 induction ls with
 |nil=>rfl
 |cons y r au=>
  refine(?_:(match eG σ (.str (φ y)) (.str (φ l)),iM σ (.str (φ l)) (bF φ r) with|some e,some t=>I (e || t)|_,_=>U)=_);rw[au λx aI=>h x (da _ aI),Fv];refine(?_:I ((φ y==φ l) || mem r l)=_);have:(φ y==φ l)=Nat.beq y l:=by
   by_cases e:y=l
   ·rw[mw e,e,jJ]
   ·rw[kP e,wY];exact λq=>e (c.inj (h y b8) q)
  rw[this]
theorem Ua{f:Nat->Option PyData}:g6 f (bF φ ls)=I (ls.map λl=>PyData.str (φ l)):=by
 induction ls with
 |nil=>rfl
 |cons s ss au=>
  refine(?_:(match mU f (.str (φ s)),g6 f (bF φ ss) with|some d,some ds=>I (d::ds)|_,_=>U)=_);rw[au];rfl
theorem JK{k j:Nat}(h:σ[k]? =I (.list (bF φ ls)))(h':σ[j]? =I (.list [])):eG σ (.ref k) (.ref j)=I ls.isEmpty:=by
 unfold eG;rw[show toPy σ (.ref k)=_ from sG (k:=3) h,show toPy σ (.ref j)=_ from sG (k:=3) h',Ua]
 induction ls using List.casesOn with
 |nil=>rfl
 |cons s ss=>
  refine(?_:(if min (PyData.list (PyData.str (φ s)::ss.map λl=>PyData.str (φ l))).depth (PyData.list []).depth<=200 then I (PyData.eqv (.list (.str (φ s)::ss.map λl=>PyData.str (φ l))) (.list [])) else U)=_);rw[bj (b7 (RV _ _) (by decide +kernel))];rfl
theorem Hv:both fs os done=(fs.filter λp=>e6 os p.1 && !mem done p.1).map (·.1):=by
 induction fs with
 |nil=>rfl
 |cons p fs au=>
  refine(?_:(Bool.rec (both fs os done) (Bool.rec (p.1::both fs os done) (both fs os done) (mem done p.1)) (e6 os p.1):List Nat)=_);rw[akc,au];cases e6 os p.1 <;> cases mem done p.1 <;> rfl
theorem Pc(lo:hW q fs):∀l∈both fs os done,cl l=q:=λl aj=>by
 rw[Hv]at aj;obtain⟨p,hp,rfl⟩:=iK.mp aj;exact lo p (ajW.mp hp).1
theorem adf:(fs.filter λp=>e6 os p.1 && !mem done p.1).map (λp=>V.str (φ p.1))=bF φ (both fs os done):=by
 unfold bF;rw[Hv,iv];rfl
theorem ade:(both fs os done).length<=fs.length:=by rw[Hv,c3];exact aj5 ..
theorem Xk(h:sV done fs=ak)(lo:hW q fs)(p:Nat×Nat)(hp:p∈fs):∀l∈done,cl l=cl p.1:=by
 induction done with
 |nil=>exact nofun
 |cons l done au=>
  replace h:(Bool.rec aH (sV done fs) (rf l fs):Bool)=ak:=h
  induction e:rf l fs with
  |false=>replace h:=(e ..) ▸ h;exact fU h
  |true=>
   replace h:=(e ..) ▸ h;intro x aI;rcases cY.mp aI with rfl|aI
   ·obtain⟨dG,h1,h2⟩:=Aq e lo;exact h2.trans (h1 p hp).symm
   ·exact au h x aI
def xm(J:Nat->Nat->bq->bW Unit)(fs os:Row)(done:List Nat)(G:bq)(l:Nat):bW (Option (List Nat)):=(An J fs os l G).bind λae G=>.ok (I (done++[l])) G
def TJ(J:Nat->Nat->bq->bW Unit)(fs os:Row)(done:List Nat)(G:bq):List Nat->bW (Option (List Nat))
 |[]=>.ok U G
 |l::_=>xm J fs os done G l
def Ee(J:Nat->Nat->bq->bW Unit)(one other:Nat)(done:List Nat)(G:bq):bW (Option (List Nat)):=
 dT (rowOf G one) λp=>dT (rowOf G other) λq=>Bool.rec .bad (TJ J p.1 q.1 done G (ew (both p.1 q.1 done))) (vd p.1 q.1&&sV done p.1)
noncomputable def adR(K:List Nat->bq->bW Unit)(o:Option (List Nat))(G:bq):bW Unit:=match o with
 |none=>.ok () G
 |some d=>K d G
theorem VE{J:Nat->Nat->bq->bW Unit}:p8 J one other (n+1) done G=(Ee J one other done G).bind (adR (p8 J one other n)):=by
 unfold Ee;rw[qc];refine dR (dT _) (funext λp=>?_);rw[qc];refine dR (dT _) (funext λq=>?_);refine(?_:(Bool.rec .bad (List.rec (.ok () G) (λl ae az=>(An J p.1 q.1 l G).bind λae G=>p8 J one other n (done++[l]) G) (ew (both p.1 q.1 done))) (vd p.1 q.1&&sV done p.1):bW Unit)=_)
 induction (vd p.1 q.1&&sV done p.1) with
 |false=>rfl
 |true=>
  induction ew (both p.1 q.1 done) using List.casesOn with
  |nil=>rfl
  |cons l r=>
   refine(?_:_=(xm J p.1 q.1 done G l).bind _);unfold xm;rw[bW.assoc];rfl
def JoinOk(φ:Nat->Str)(now d:Nat)(J:Nat->Nat->bq->bW Unit):Prop:=∀{σ:aq}{ρ:List Nat}{G:bq}{i j:Nat},bD φ σ ρ G->i<ρ.length->j<ρ.length->bB φ σ σ ρ (J i j G) (aX d "join" [.ref (ad ρ i),.ref (ad ρ j),.int now]) jY
noncomputable abbrev zo:=Option V×Option V×Option V×Option V×Option V
noncomputable def uU(x y now a:Nat)(s:zo):Loc:=[I (.ref x),I (.ref y),I (.int now),I (.ref a),s.1,s.2.1,s.2.2.1,s.2.2.2.1,s.2.2.2.2,U,U,U,U]
inductive zk(φ:Nat->Str)(x y now a n:Nat):Option (List Nat)->List Nat->a6×Loc->aq->Prop
 |stop{ρ:List Nat}{σ:aq}(s:zo):zk φ x y now a n none ρ (.ret .none,uU x y now a s) σ
 |more{ρ:List Nat}{σ:aq}(done:List Nat)(s:zo)(e:σ[a]? =some (.list (bF φ done)))(len:done.length=n+1):zk φ x y now a n (some done) ρ (.next,uU x y now a s) σ
section
variable {J:Nat->Nat->bq->bW Unit}{x y a b fI dq:Nat}{qe sX:Option V}{s:zo}
def TG(d:Nat)(Tq Tp Tr Tt D3 D2 Ts xy:V):M (a6×Loc):=(item D3 xy>>=λVg=>cc (av d) "use" Vg>>=λVf=>item D2 xy>>=λVe=>cc (av d) "use" Ve>>=λVd=>lz Vf Vd>>=λEs=>item D3 xy>>=λVc=>d5 (av d) "use" Es Vc>>=λae=>item D2 xy>>=λVb=>d5 (av d) "use" Es Vb>>=λae=>(pure (a6.next,[I Tq,I Tp,I Tr,I Tt,I D3,I D2,I xy,I Ts,I Es,U,U,U,U]):M (a6×Loc)))
theorem TF{bX:Nat}(c:cW φ)(g:bD φ σ ρ G)(aj:bx β σ)(dN:e2 φ q σ ρ fI fs)(ef:e2 φ q σ ρ dq os)(j0:cl l=q)(aY:lk fs l=I t)(mc:lk os l=I bX)(cC:σ[a]? =I (.list (bF φ (done++[l])))) :
  bB φ β σ ρ (.ok (I (done++[l])) G) (TG d (.ref x) (.ref y) (.int now) (.ref a) (.ref fI) (.ref dq) (.ref b) (.str (φ l))) (zk φ x y now a done.length):=by
 refine aE λkk=>?_;obtain⟨a7,n3⟩:=g.ex (g.len ▸ dN.Mn aY);obtain⟨vl,BA⟩:=g.ex (g.len ▸ ef.Mn mc);obtain⟨u,cF⟩:=sP (d:=d) g n3;obtain⟨u',yn⟩:=sP (d:=d) g BA;obtain⟨z0,ob,lr,vp⟩:=z4 (d:=d) (u':=min u u') g n3;obtain⟨uz,tM,aaO,Mp⟩:=z4 (d:=d) (u':=min u u') lr BA;exact kk (a9 (dN.get c j0 aY) (a9 cF (a9 (ef.get c j0 mc) (a9 yn (a9 (m:=lz _ _) ab (a9 (dN.get c j0 aY) (a9 ob (a9 ((ef.le vp .refl).get c j0 mc) (a9 tM (f6 aaO ((aj.trans vp).trans Mp) (.more (done++[l]) (_,_,_,_,_) (Mp.list (vp.list cC)) dM)))))))))))
theorem TC{ey:List Nat}(c:cW φ)(e7:JoinOk φ now (d+2) J)(g:bD φ σ ρ G)(aj:bx β σ)(bu:β.length<=a)(aV:0<a)(cC:σ[a]? =I (.list (bF φ done)))(nc:done.length<=100)(dN:e2 φ q σ ρ fI fs)(ef:e2 φ q σ ρ dq os)(gQ:σ[b]? =I (.list (bF φ (l::ey))))(j0:cl l=q) :
  bB φ β σ ρ (xm J fs os done G l) (Qc (d+2) (.ref x) (.ref y) (.int now) (.ref a) (.ref fI) (.ref dq) qe (.ref b) sX) (zk φ x y now a done.length):=by
 unfold xm An;rw[qc];refine f7 λt aY=>?_;rw[qc];refine f7 λbX mc=>?_;rw[qc];refine f7 λk ao=>?_;rw[qc];refine f7 λc6 iU=>?_;refine a9 (jS (x:=.str (φ l)) gQ (by decide) ab) (a9 (jk cC ab) (a9 (k8 cC aV (by unfold bF;rw[c3];exact fz nc (by decide +kernel))) ?_));rw[show bF φ done++[.str (φ l)]=bF φ (done++[l]) by unfold bF;rw[h0];rfl];have ey:∀{b:Nat}{os:Row},e2 φ q σ ρ b os->e2 φ q (σ.set a (.list (bF φ (done++[l])))) ρ b os:=λ{b os} h=>by
  obtain⟨v,aK⟩:=h.at_;exact⟨⟨v,ea (λq=>by subst q;replace aK:=(cC ..) ▸ aK;cases aK) aK⟩,h.lo,h.lt⟩
 have gP:=g.oR (o:=.list (bF φ (done++[l]))) cC;have BB:bx β (σ.set a (.list (bF φ (done++[l])))):=aj.hQ bu;have OA:=fg (o':=.list (bF φ (done++[l]))) cC;replace dN:=ey dN;replace ef:=ey ef;generalize σ.set a (.list (bF φ (done++[l])))=fA at gP BB OA dN ef;refine aE λkk=>?_;obtain⟨_,_,_,dB⟩:=vt ao;obtain⟨_,_,_,ack⟩:=vt iU;exact kk (a9 (dN.get c j0 aY) (a9 (u0 gP dB) (a9 (ef.get c j0 mc) (a9 (u0 gP ack) (bB.bind (e7 gP (gP.len ▸ FL gP ao) (gP.len ▸ FL gP iU)) BB λae C8 sy az d0 he iB bS=>TF (d:=d+2) c he.b5 he.le (dN.le iB he.ext) (ef.le iB he.ext) j0 aY mc (iB.list OA))))))
theorem TH{bA:Src}{loc:Loc}(c:cW φ)(dK:((av d).calm&&gz bA (eO iZ))=ak)(hw:Walks bA (fs.map λp=>V.str (φ p.1)) λaC=>aC=σ)(fw:eL iH.names loc (bM iZ).names=pure [U,U,I (.ref a),I (.ref dq)])(lo:hW q fs)(lf:fs.length<=bz)(ef:e2 φ q σ ρ dq os)(cC:σ[a]? =I (.list (bF φ done)))(hd:sV done fs=ak) :
  gw (av d) (e0 iZ) (eO iZ) (eZ iZ) (bM iZ) bA iH.names loc σ=.ok (.ref σ.length) (σ++[O.list (bF φ (both fs os done))]):=by
 rw[<-adf];refine xS (X:=Nat×Nat) (p:=λr=>e6 os r.1 && !mem done r.1) (f:=λr=>V.str (φ r.1)) (L:=λo=>[U,o.map λr=>V.str (φ r.1),I (.ref a),I (.ref dq)]) dK hw ae8 fw lf (λae az=>afb ..) (λr aP=>?_) λr ae az=>by rw[afa];rfl
 rw[ae7];refine(aN (ef.aaj c (lo r aP))).trans ((aN (m:=truth _) ab).trans ?_)
 induction e6 os r.1 with
 |false=>rfl
 |true=>
  refine(aN (EY cC (Td c (Xk hd lo r aP)))).trans ((aN (m:=truth _) ab).trans ?_);cases mem done r.1 <;> rfl
theorem SN(c:cW φ)(e7:JoinOk φ now (d+2) J)(g:bD φ σ ρ G)(aj:bx β σ)(bu:β.length<=a)(aV:0<a)(cC:σ[a]? =I (.list (bF φ done)))(nc:done.length<=100) :
  bB φ β σ ρ (Ee J one other done G) (cm (av (d+2)) (bU nr) iH.names (uU (ad ρ one) (ad ρ other) now a s)) (zk φ (ad ρ one) (ad ρ other) now a done.length):=by
 refine f7 λp hp=>f7 λq aL=>sa (λay=>t5 (ae5 ..) (aE λkk=>?_)) λae=>aS;obtain⟨fs,iy⟩:=p;obtain⟨os,akT⟩:=q;obtain⟨ay,hd⟩:=xb.mp ay;obtain⟨_,s7⟩:=uW hp;obtain⟨_,s6⟩:=uW aL;obtain⟨cs,s7,s6⟩:=LC ay s7 s6;obtain⟨c4,ax,g1,dU,dN⟩:=Av (d:=d) c g hp s7;obtain⟨cz,aO,g2,du,ef⟩:=Av (d:=d) c g1 aL s6;replace dN:=dN.le du .refl;have B7:=du.list (dU.list cC);have lf:=(sM hp).2;obtain⟨v,aT,hw⟩:=dN.walk;refine kk (a9 ax (a9 gn (a9 aO (a9 gn (a9 aT (a9 (TH c ab hw (ae9 ..) dN.lo (b7 lf (by decide +kernel)) ef B7 hd) (a9 (uZ b2 (by unfold bF;rw[c3];exact fz ade (fz lf (by decide))) (uQ c (Pc dN.lo))) (a9 (m:=bP _) ab (a9 (u3 (JK (cK b2) b2)) (a9 (m:=truth _) ab ?_))))))))));have hlo:∀l∈ew (both fs os done),cl l=cs:=λl aj=>Pc dN.lo l (uR aj);have gr:bx cz (((cz++[O.list (bF φ (both fs os done))])++[O.list (bF φ (ew (both fs os done)))])++[O.list []]):=bx.push.new.new;have g3:bD φ (((cz++[O.list (bF φ (both fs os done))])++[O.list (bF φ (ew (both fs os done)))])++[O.list []]) ρ G:=g2.push.push.push;have eX:(((cz++[O.list (bF φ (both fs os done))])++[O.list (bF φ (ew (both fs os done)))])++[O.list []])[(cz++[O.list (bF φ (both fs os done))]).length]? =I (.list (bF φ (ew (both fs os done)))):=cK b2;generalize ((cz++[O.list (bF φ (both fs os done))])++[O.list (bF φ (ew (both fs os done)))])++[O.list []]=eQ at gr g3 eX;have BC:=aj.trans (dU.trans (du.trans gr))
 revert hlo eX
 induction ew (both fs os done) using List.casesOn with
 |nil=>exact λae az=>pM ab (f6 g3 BC (.stop (I (.ref σ.length),I (.ref c4.length),s.2.2.1,I (.ref (cz++[O.list (bF φ (both fs os done))]:aq).length),s.2.2.2.2)))
 |cons l ey=>exact λhlo eX=>lE ab (TC c e7 g3 BC bu aV (gr.list B7) nc (dN.le gr .refl) (ef.le gr .refl) eX (hlo l b8))
theorem VD(c:cW φ)(e7:JoinOk φ now (d+2) J)(bu:β.length<=a)(aV:0<a):∀(n:Nat) {σ:aq}{ρ:List Nat}{G:bq}{done:List Nat}{s:zo},bD φ σ ρ G->bx β σ->σ[a]? =I (.list (bF φ done))->done.length+n<=100->one<ρ.length->other<ρ.length ->
  bB φ β σ ρ (p8 J one other n done G) (hP (λl=>d4 (av (d+2)) (fh nr) iH.names l (ev (av (d+2)) (fh nr) iH.names l)) (cm (av (d+2)) (bU nr) iH.names) n (uU (ad ρ one) (ad ρ other) now a s))
   λae az r bS=>∃loc,r=(.ret .none,loc):=by
 intro n
 induction n with
 |zero=>intros;exact aS
 |succ n au=>
  intro σ ρ G done s g aj cC nc h1 h2;rw[VE];unfold hP;refine a9 (b:=ak) (af:=σ) (by unfold uU;rw[ae4];rfl) (pM ab (bB.bindB (SN c e7 g aj bu aV cC (by exact fk 0xC9E09020193C1084A020021 ab nc)) λo cJ aA r af he aU=>?_))
  induction aU with
  |stop s=>exact f6 he.b5 he.le ⟨_,ab⟩
  |more acC s aO eN=>
   refine(?_:bB _ _ _ _ (p8 J one other n acC cJ) (hP _ _ n (uU (ad ρ one) (ad ρ other) now a s)) _);rw[<-he.ext.ad h1,<-he.ext.ad h2];exact au he.b5 he.le aO (by exact gq 0x193C1298010042401822193C1084A020021 ab nc eN) (di h1 he.ext.len) (di h2 he.ext.len)
end
theorem SP{J:Nat->Nat->bq->bW Unit}(c:cW φ)(e7:JoinOk φ now (d+2) J)(g:bD φ σ ρ G)(h1:one<ρ.length)(h2:other<ρ.length):bB φ σ σ ρ (p8 J one other 5 [] G) (aX (d+3) "join_shared" [.ref (ad ρ one),.ref (ad ρ other),.int now]) jY:=by
 rw[ae6];refine a9 (m:=bP _) ab ?_;have h:=VD (β:=σ) (a:=σ.length) (done:=[]) (s:=(U,U,U,U,U)) c e7 (cI _) g.pos 5 (g.push (o:=.list [])) bx.push b2 (by decide) h1 h2;have h':bB φ σ (σ++[O.list []]) ρ (p8 J one other 5 [] G) (oG (av (d+2)) (fh nr) (bU nr) iH.names (I (.ref (ad ρ one))::I (.ref (ad ρ other))::I (.int now)::I (.ref σ.length)::n_9)) λae az r bS=>∃loc,r=(.ret .none,loc):=by
  revert h
  induction p8 J one other 5 [] G with
  |ok a cJ=>exact λaU=>by obtain⟨b,af,e,h⟩:=aU;exact⟨b,af,z3 e,h⟩
  |bad=>exact λae=>aS
 have h2:=bB.bindB (f:=λa G=>.ok a G) (k:=dA cN (Qd (d+2))) (Q:=jY) h' λae cJ aA r af he aU=>by obtain⟨loc,aP⟩:=aU;subst aP;exact f6 (b:=V.none) he.b5 he.le ab
 replace h2:=(bW.aN ..) ▸ h2;exact h2
end
section
variable {φ:Nat->Str}{β σ af eF aC:aq}{ρ aA e3:List Nat}{G cJ:bq}{d i j k l n m t x one other now:Nat}{v:V}{α bN:Type}{fs os:Row}{ls done:List Nat}
theorem Ar:(aB "unknown" == aB "unknown")=ak:=by decide +kernel
theorem KI:(aB "number" == aB "unknown")=aH:=by decide +kernel
theorem EM:(aB "record" == aB "unknown")=aH:=by decide +kernel
theorem VM:(aB "number" == aB "record")=aH:=by decide +kernel
theorem VL:(aB "record" == aB "record")=ak:=by decide +kernel
theorem XA:(!(aB "number" == aB "number"))=aH:=by decide +kernel
theorem Xz:(!(aB "record" == aB "record"))=aH:=by decide +kernel
theorem Jz{AS:V}(g:bD φ σ ρ G)(aj:bx β σ):bB φ β σ ρ (mergeF one other G) (CK (d+1) (.ref (ad ρ one)) (.ref (ad ρ other)) AS) jY:=by
 refine f7 λt aY=>f7 λbX mc=>?_;refine a9 (w_top g aY) (a9 (w_top g mc) (a9 (Xw g (g.len ▸ q4 g aY) (g.len ▸ q4 g mc)) (a9 (m:=truth _) ab ?_)));refine sa (λe=>lE (by rw[e];rfl) (f6 g aj ab)) λe=>pM (by rw[e];rfl) (aE λkk=>?_);obtain⟨a7,n3⟩:=g.ex (g.len ▸ q4 g aY);obtain⟨vl,BA⟩:=g.ex (g.len ▸ q4 g mc);obtain⟨u,cF⟩:=sP (d:=d+1) g n3;obtain⟨u',yn⟩:=sP (d:=d+1) g BA;obtain⟨z0,ob,lr,vp⟩:=z4 (d:=d+1) (u':=min u u') g n3;exact kk (a9 cF (a9 yn (a9 (m:=lz _ _) ab (a9 ob (zp lr (aj.trans vp) (g.len ▸ q4 g aY))))))
theorem JA(c:cW φ):∀(n d:Nat),JoinOk φ now (d+2*n+5) (MF n):=by
 intro n
 induction n with
 |zero=>intro d σ ρ G i j _ _ _;exact aS
 |succ n au=>
  intro d σ ρ G i j g h1 h2;rw[(by exact lO (fk 0x42308C251088000005084250084400020 ab) (fk 0x1421094021100008461184A21100000020 ab):d+2*(n+1)+5=(d+2*n+3+3)+1),afd];refine f7 λt aY=>f7 λbX mc=>?_;have hy:=q4 g aY;have iR:=q4 g mc;refine a9 (w_top (d:=d+2*n+5) g aY) (a9 (w_top (d:=d+2*n+5) g mc) (a9 (B2 g (g.len ▸ hy) (g.len ▸ iR)) (a9 (m:=truth _) ab (CG ab (λae=>f6 g .refl ab) λae=>f7 λA aQ=>f7 λB hB=>?_))));refine aE λkk=>?_;obtain⟨alw,pA⟩:=xC aQ;obtain⟨alv,wb⟩:=xC hB;refine kk ?_;clear kk aQ hB;have pG:∀{t bX:Nat},t<G.len->bB φ σ σ ρ (za t bX G) (aX (d+2*n+3+3) "become" [.ref (ad ρ t),.ref (ad ρ bX),.int now]>>=λae=>(pure V.none:M V)) jY:=λaR=>bB.last (S8 (d:=d+2*n+2) c g aR) .refl λae cJ aA az af he bS fc=>f6 he.b5 he.le ab
  induction A with
  |gK=>exact a9 (h6 g pA) (om Ar (pG (g.len ▸ hy)))
  |num=>
   refine a9 (h6 g pA) (ik KI (a9 (h6 g wb) ?_))
   induction B with
   |gK=>exact om Ar (pG (g.len ▸ iR))
   |num=>exact ik KI (a9 (h6 g pA) (a9 (h6 g wb) (a9 EZ (a9 (m:=truth _) ab (lE XA (a9 (h6 g pA) (ik VM (Jz (d:=d+2*n+5) g .refl:bB φ σ σ ρ (mergeF t bX G) (CK (d+2*n+3+3) (.ref (ad ρ t)) (.ref (ad ρ bX)) (.int now)) jY))))))))
   |dc=>exact aS
  |dc r=>
   refine a9 (h6 g pA) (ik EM (a9 (h6 g wb) ?_))
   induction B with
   |gK=>exact om Ar (pG (g.len ▸ iR))
   |num=>exact aS
   |dc dn=>
    refine ik EM (a9 (h6 g pA) (a9 (h6 g wb) (a9 EZ (a9 (m:=truth _) ab (lE Xz (a9 (h6 g pA) (om VL ?_)))))));refine bB.bind (SP (d:=d+2*n+3) c (au d) g hy iR) .refl λae C8 sy az d0 he bS fc=>?_;rw[<-he.ext.ad hy,<-he.ext.ad iR];refine bB.bind (SV (d:=d+2*n+1) c he.b5) he.le λae alB akz az z0 BG bS fc=>?_;rw[<-BG.ext.ad (di hy he.ext.len),<-BG.ext.ad (di iR he.ext.len)];exact Jz (d:=d+2*n+5) BG.b5 BG.le
end
def l0(φ:Nat->Str):qM->List V->V
 |.num z,_=>.tup [.str "number",.int z]
 |.fT i,_=>.tup [.str "input",.int i]
 |.make ls,ps=>.tup [.str "make",.tup ((ls.zip ps).map λp=>.tup [.str (φ p.1),p.2])]
 |.get l,ps=>.tup (.str "get" :: (ps++[.str (φ l)]))
 |.put l,ps=>.tup (.str "put" :: (ps.take 1 ++ .str (φ l)::ps.drop 1))
 |.call,ps=>.tup [.str "call",.str "f",.tup ps]
def gk(φ:Nat->Str):Nat->cG->V
 |0,_=>.none
 |n+1,b=>l0 φ b.yK (b.parts.map (gk φ n))
def d3(σ af:aq):Prop:=(∃l,af=σ++l)
section
variable {φ:Nat->Str}{σ af eF:aq}{d n k:Nat}{v x y:V}{w w':Str}{l ps:List V}{o:O}
theorem d3.refl:d3 σ σ:=⟨[],(lP _).symm⟩
theorem d3.trans(h:d3 σ af)(h':d3 af eF):d3 σ eF:=by
 obtain⟨l,rfl⟩:=h;obtain⟨m,rfl⟩:=h';exact⟨l++m,jM ..⟩
theorem d3.push:d3 σ (σ++[o]):=⟨_,ab⟩
theorem d3.new(h:d3 σ af):d3 σ (af++[o]):=h.trans .push
theorem d3.at(h:d3 σ af)(e:σ[n]? =I o):af[n]? =I o:=by
 obtain⟨l,rfl⟩:=h;rw[qW (dy e)];exact e
theorem d3.len(h:d3 σ af):σ.length<=af.length:=by
 obtain⟨l,rfl⟩:=h;rw[dM];exact g0 ..
theorem d3.nU(h:d3 σ af):bx σ af:=⟨h.len,λe ae=>h.at e⟩
theorem d3.b5{ρ:List Nat}{G:bq}(h:d3 σ af)(g:bD φ σ ρ G):bD φ af ρ G:=g.le h.len λe=>h.at e
theorem u6{β:Type}{m ej:M β}:(cmp .Eq (.str w) (.str w)>>=λt=>truth t>>=λb=>M.cond b m ej) σ=m σ:=by
 show(M.cond (w==w) m ej) σ=_;rw[jJ];rfl
theorem jm{β:Type}{m ej:M β}(h:(w==w')=aH):(cmp .Eq (.str w) (.str w')>>=λt=>truth t>>=λb=>M.cond b m ej) σ=ej σ:=by
 show(M.cond (w==w') m ej) σ=_;rw[h];rfl
theorem AP{u:Str}(h:(w==w')=aH)(h':(w==u)=aH):(cmp .Eq (.str w) (.str w')>>=λdj=>truth dj>>=λmA=>M.cond mA (pure ak:M Bool) (cmp .Eq (.str w) (.str u)>>=λgm=>truth gm>>=λqC=>M.cond qC (pure ak:M Bool) (pure aH:M Bool))) σ=.ok aH σ:=(jm h).trans (jm h')
theorem acJ{β:Type}{m ej:M β}{b:Bool}(h:b=ak):(M.cond b m ej) σ=m σ:=by subst h;rfl
theorem Hl{β:Type}{m ej:M β}{b:Bool}(h:b=aH):(M.cond b m ej) σ=ej σ:=by subst h;rfl
theorem Ff{α:Type}:∀{l:List α},(l.length==1)=ak->(∃p,l=[p])
 |[p],_=>⟨p,ab⟩
theorem Ed{α:Type}:∀{l:List α},(l.length==2)=ak->(oy λp q=>l=[p,q])
 |[p,q],_=>⟨p,q,ab⟩
theorem L2{α:Type}:∀{l:List α},(l.length==0)=ak->l=[]
 |[],_=>rfl
theorem SY{f:qM}(h:ze f ps.length=ak):aX (d+1) "parts_of" [l0 φ f ps] σ=.ok (.ref σ.length) (σ++[O.list ps]):=by
 rw[aey]
 induction f with
 |num z=>
  cases L2 h;refine(aN gn).trans ((jm (by decide +kernel)).trans ?_);exact(jm (by decide +kernel)).trans ((jm (by decide +kernel)).trans ((aN (AP (by decide +kernel) (by decide +kernel))).trans ((Hl ab).trans ((jm (by decide +kernel)).trans ab))))
 |fT i=>
  cases L2 h;refine(aN gn).trans ((jm (by decide +kernel)).trans ?_);exact(jm (by decide +kernel)).trans ((jm (by decide +kernel)).trans ((aN (AP (by decide +kernel) (by decide +kernel))).trans ((Hl ab).trans ((jm (by decide +kernel)).trans ab))))
 |make ls=>
  obtain⟨h1,h2⟩:=xb.mp h;have h1:ps.length=ls.length:=beq_iff_eq.mp h1;have h2:ps.length<=30:=qS h2;refine(aN gn).trans (u6.trans ((aN jl).trans ((aN (m:=el _) ab).trans ?_)));refine(aN (u4 (X:=Nat×V) (xs:=ls.zip ps) (g:=λp=>V.tup [.str (φ p.1),p.2]) (f:=λp=>p.2) (L:=λo=>[U,o.map λp=>.str (φ p.1),o.map λp=>p.2]) ab jO aeA (aeB ..) ?_ (λae az=>aeD ..) (aez _) λp ae=>by rw[aeC];rfl)).trans ?_
  ·rw[aj3];exact b7 (RV _ _) (b7 h2 (by decide +kernel))
  ·rw[show(ls.zip ps).map (λp=>p.2)=ps from List.map_snd_zip (by rw[h1];exact cI _)];rfl
 |get l=>
  obtain⟨p,rfl⟩:=Ff h;refine(aN gn).trans ((jm (by decide +kernel)).trans ?_);exact u6.trans ((aN jl).trans ab)
 |put l=>
  obtain⟨p,q,rfl⟩:=Ed h;refine(aN gn).trans ((jm (by decide +kernel)).trans ?_);exact(jm (by decide +kernel)).trans (u6.trans ((aN jl).trans ((aN (xR (by decide) ab)).trans ab)))
 |call=>
  refine(aN gn).trans ((jm (by decide +kernel)).trans ?_);exact(jm (by decide +kernel)).trans ((jm (by decide +kernel)).trans ((aN (AP (by decide +kernel) (by decide +kernel))).trans ((Hl ab).trans (u6.trans ((aN qa).trans ab)))))
theorem vf{b:cG}(h:i4 (n+1) b=ak):ze b.yK b.parts.length=ak/\∀p∈b.parts,i4 n p=ak:=by
 refine hK h λh1 h2=>?_;exact⟨h1,ec.mp h2⟩
theorem DU{b:cG}(h:i4 (n+1) b=ak):aX (d+1) "parts_of" [gk φ (n+1) b] σ=.ok (.ref σ.length) (σ++[O.list (b.parts.map (gk φ n))]):=SY (by rw[c3];exact(vf h).1)
noncomputable def qf(i:Nat):V:=.int i
def gM(q:Place):V:=.tup (q.map qf)
theorem G3{o:List Place}:∀{fP:List (List Place)}{k:Nat},flat k (fP++[o])=flat k fP++o.map (λq=>(k+fP.length)::q):=by
 intro ey
 induction ey with
 |nil=>
  intro k;refine(?_:o.map _++[]=_);rw[lP];rfl
 |cons o' fP G3=>
  intro k;refine(?_:o'.map _++flat (k+1) (fP++[o])=(o'.map _++flat (k+1) fP)++_);rw[G3,jM,gy,Dv,zO 1]
theorem G4{q:Place}:∀{fP:List (List Place)}{k:Nat},q∈flat k fP->(wU λi o r=>pR (fP[i]? =I o) (r∈o) (q=(k+i)::r)):=by
 intro ey
 induction ey with
 |nil=>intro k h;exact(nomatch h)
 |cons o fP G4=>
  intro k h;rcases hs.mp (show q∈o.map _++flat (k+1) fP from h) with h|h
  ·obtain⟨r,aP,rfl⟩:=iK.mp h;exact⟨0,o,r,ab,aP,ab⟩
  ·obtain⟨i,o',r,h1,h2,rfl⟩:=G4 h;exact⟨i+1,o',r,h1,h2,by rw[Dv,zO 1]⟩
theorem aa2{o:List Place}{fP:List (List Place)}{k i:Nat}(h:fP[i]? =I o):o.length<=(flat k fP).length:=by
 induction fP generalizing k i with
 |nil=>exact bh h
 |cons o' fP au=>
  refine(?_:_<=(o'.map _++flat (k+1) fP).length);rw[dM,c3]
  induction i using Nat.casesOn with
  |zero=>cases h;exact g0 ..
  |succ i=>have:=au (k:=k+1) h;lia
theorem aa1{fP:List (List Place)}{i:Nat}:(flat 0 (fP.take i)).length<=(flat 0 fP).length:=by
 have h:∀(fP:List (List Place)) (i k:Nat),(flat k (fP.take i)).length<=(flat k fP).length:=by
  intro fP
  induction fP with
  |nil=>intro i k;rw[List.take_nil];exact cI _
  |cons o fP au=>
   intro i k
   induction i using Nat.casesOn with
   |zero=>exact iu _
   |succ i=>
    refine(?_:(o.map _++flat (k+1) (fP.take i)).length<=(o.map _++flat (k+1) fP).length);rw[dM,dM];have:=au i (k+1);lia
 exact h _ _ _
theorem Lr:∀{n:Nat}{b:cG},∀q∈eg n b,q.length<=n:=by
 intro n
 induction n with
 |zero=>intro b q h;exact(nomatch h)
 |succ n au=>
  intro b q aL;refine aE λkk=>?_;rcases hs.mp (show q∈flat 0 (b.parts.map (eg n))++[[]] from aL) with aL|aL
  ·obtain⟨i,o,r,h1,h2,rfl⟩:=G4 aL;replace h1:=(ki ..) ▸ h1;obtain⟨p,_,rfl⟩:=hr.mp h1;refine kk ?_;exact pV (au r h2)
  ·refine kk ?_;rw[bT.mp aL];exact iu _
theorem SX:∀{n d:Nat}{σ:aq}{b:cG},i4 n b=ak->(eg n b).length<=100000->n<=1000->Wp σ (aX (d+n+1) "places_of" [gk φ n b]) λr af=>(∃k,pR (r=.ref k) (af[k]? =I (.list ((eg n b).map gM))) (d3 σ af)):=by
 intro n
 induction n with
 |zero=>intro d σ b h;cases h
 |succ n au=>
  intro d σ b h hlen aM;replace hlen:=(dM ..) ▸ (show eg (n+1) b=flat 0 (b.parts.map (eg n))++[[]] from ab ..) ▸ hlen;have me:bz=16777216:=rfl;rw[aek];refine aG (m:=bP _) ab (aG (DU (d:=d+n) h) (aG (Ln b2) ?_));refine Cz (l:=(b.parts.map (gk φ n)).mapIdx λ(i:Nat) x=>V.tup [.int i,x]) (J:=λaC=>aC[(σ++[O.list []]:aq).length]? =I (.list (b.parts.map (gk φ n)))) aej (Js λae h=>h)
   (λi loc af=>wU λrA cj dO=>pR (loc=[I (gk φ (n+1) b),I (.ref rA),cj,dO,U,U,U]) (af[rA]? =I (.list ((flat 0 ((b.parts.map (eg n)).take i)).map gM))) (d3 (σ++[O.list []]++[O.list (b.parts.map (gk φ n))]) af)) (λi loc af aU=>by obtain⟨_,_,_,_,_,a⟩:=aU;exact a.at b2) ⟨_,_,_,ab,cK b2,.refl⟩ ?_ ?_
  ·rintro i v loc af aK ⟨rA,cj,dO,rfl,j3,a⟩;replace aK:=(ajx ..) ▸ (ki ..) ▸ (R8 ..) ▸ aK;refine aE λkk=>?_;obtain⟨p,hp,rfl⟩:=hr.mp aK;refine kk ?_;have ho:(b.parts.map (eg n))[i]? =I (eg n p):=by rw[ki,hp];rfl
   have vI:=aa2 (k:=0) ho;have M0:=aa1 (fP:=b.parts.map (eg n)) (i:=i+1);have M4:flat 0 ((b.parts.map (eg n)).take (i+1))=flat 0 ((b.parts.map (eg n)).take i)++(eg n p).map (λq=>i::q):=by
    rw[List.take_add_one,ho];show flat 0 ((b.parts.map (eg n)).take i++[eg n p])=_;rw[G3,Dx,Ds (by exact pW (dy ho)),lM]
   have ZA:=g4 hp;refine(?_:Wp af (bindTo _ _ (.tup [.int i,gk φ n p]) _>>=_) _);rw[ael];refine aE λkk=>?_;obtain⟨_,c4,fb,fC,rfl,ax,a1⟩:=au (d:=d) (σ:=af) (((vf h).2) p ZA) (b7 ‹(eg n p).length<=_› (b7 (g0 _ _) ‹_<=100000›)) (by lia);refine kk ?_;refine aG fb (aG (kx ax) ?_);refine aG (u4 (X:=Place) (xs:=eg n p) (g:=gM) (f:=λq=>gM (i::q)) (L:=λo=>[U,o.map gM,I (.int i)]) ab (kq λaC h=>by rw[h];exact ax) aen (aeo ..) (by rw[me];lia) (λae az=>aeq ..) (aem _) λq aL=>?_) ?_
   ·rw[aep];refine(aN (a:=V.tup (.int i::q.map qf)) (af:=c4) ?_).trans ab;show(if [V.int i].length+(q.map qf).length<=bz then pure (V.tup ([V.int i]++q.map qf)) else M.bad:M V) c4=_;rw[bj (by rw[c3,me];have:=Lr (n:=n) (b:=p) q aL;exact(by lia:1+q.length<=16777216))];rfl
   ·rw[show(eg n p).map (λq=>gM (i::q))=((eg n p).map λq=>i::q).map gM by rw[iv];rfl];replace M0:=(c3 ..) ▸ (dM ..) ▸ (M4 ..) ▸ M0;refine aG (u5 (cK (a1.at j3)) b2 (by rw[c3,c3,c3,me];lia)) (cD ⟨_,_,_,ab,?_,a.trans (a1.trans (d3.push.new))⟩);rw[M4,h0];exact b2
  ·rintro loc af ⟨rA,cj,dO,rfl,j3,a⟩;rw[aer];replace j3:=(I1 ..) ▸ (oD (c3 (f:=eg n) ..)) ▸ (c3 ..) ▸ (R6 ..) ▸ j3;refine aG (m:=bP _) ab (aG (u5 (cK j3) b2 (by rw[c3,me];exact b7 (hlen:(flat 0 (b.parts.map (eg n))).length+1<=100000) (by decide))) (cD ⟨_,ab,?_,d3.push.new.trans (a.trans d3.push.new)⟩));rw[show eg (n+1) b=flat 0 (b.parts.map (eg n))++[[]] from ab,h0];exact b2
theorem Xn{l:List cG}:∀{i:Nat},Fl l i=l[i]?:=by
 induction l with
 |nil=>intro i;rfl
 |cons x r au=>
  intro i
  induction i using Nat.casesOn with
  |zero=>rfl
  |succ i=>exact au
theorem S9{n:Nat}{b c:cG}{q:Place}(al:i4 n b=ak)(h:HL q b=I c):Wp σ (aX (d+2) "at_place" [gk φ n b,gM q]) λr af=>(∃m,pR (r=gk φ (m+1) c) (i4 (m+1) c=ak) (d3 σ af)):=by
 rw[af0];refine aG (m:=el _) ab (Cz (l:=q.map qf) (J:=λae=>True) ab jO (λi loc af=>wU λm kR o=>uo (loc=[I (gk φ m kR),I (gM q),o,U]) (i4 m kR=ak) (HL (q.drop i) kR=I c) (d3 σ af)) (λae az bS fc=>aS) ⟨n,b,_,ab,al,h,.refl⟩ ?_ ?_)
 ·rintro i u loc af cF ⟨m,kR,o,rfl,iV,h',a⟩;replace cF:=(ki ..) ▸ cF;obtain⟨z,hz,rfl⟩:=hr.mp cF;replace h':=(wd hz ..) ▸ h';refine h7 (o:=Fl kR.parts z) h' λp hp h'=>?_;replace hp:=(Xn ..) ▸ hp
  induction m using Nat.casesOn with
  |zero=>cases iV
  |succ m=>
   rw[af1];exact aG (DU iV) (aG (jS (x:=gk φ m p) b2 (kj z) (by rw[ki,Int.toNat_natCast,hp];rfl)) (cD ⟨m,p,_,ab,(vf iV).2 p (g4 hp),h',a.new⟩))
 ·rintro loc af ⟨m,kR,o,rfl,iV,h',a⟩;replace h':=(Dz ..) ▸ (c3 ..) ▸ h';rw[af2];cases h'
  induction m using Nat.casesOn with
  |zero=>cases iV
  |succ m=>exact cD ⟨m,ab,iV,a⟩
end
noncomputable def Fd:Option Nat->V
 |some i=>.int i
 |none=>.none
mutual
noncomputable def bV(φ:Nat->Str):a4->V
 |.num=>.tup [.str "number"]
 |.blank i=>.tup [.str "blank",.int i]
 |.dc fs r=>.tup [.str "record",.tup (AK φ fs),Fd r]
noncomputable def AK(φ:Nat->Str):List (Nat×a4)->List V
 |[]=>[]
 |p::fs=>.tup [.str (φ p.1),bV φ p.2]::AK φ fs
end
theorem nM{φ:Nat->Str}{fs:List (Nat×a4)}:AK φ fs=fs.map λp=>.tup [.str (φ p.1),bV φ p.2]:=by
 induction fs with
 |nil=>rfl
 |cons p fs au=>rw[AK,au];rfl
structure hq(k:Nat)(σ af:aq):Prop where
 len:σ.length<=af.length
 at_:∀{n:Nat}{o:O},n≠k->σ[n]? =I o->rB o=aH->af[n]? =I o
def rZ(ρ:List Nat)(dw:fY):Tab:=dw.map λp=>(.inl p.1,.ref (ad ρ p.2))
structure mO(σ:aq)(ρ:List Nat)(kb:Nat)(dw:fY):Prop where
 at_:∃v,σ[kb]? =I (.dict v (rZ ρ dw))
 lt:∀p∈dw,p.2<ρ.length
section
variable {φ:Nat->Str}{β σ af eF aC:aq}{ρ aA e3:List Nat}{G cJ:bq}{d i j k kb l n m t x one other now:Nat}{v:V}{α bN:Type}{fs os:Row}{ls done:List Nat}{dw:fY}{o:O}
theorem bx.l1(h:bx σ af):hq k σ af:=⟨h.len,λae e f=>h.at_ e f⟩
theorem hq.refl:hq k σ σ:=⟨cI _,λae e az=>e⟩
theorem hq.trans(h:hq k σ af)(h':hq k af eF):hq k σ eF:=⟨b7 h.len h'.len,λaM e f=>h'.at_ aM (h.at_ aM e f) f⟩
theorem hq.set:hq k σ (σ.set k o):=⟨by rw[kB];exact cI _,λaM e ae=>ea (λq=>aM q.symm) e⟩
theorem mO.le(h:mO σ ρ kb dw)(le:bx σ af)(e:gi ρ aA):mO af aA kb dw:=by
 obtain⟨v,h1⟩:=h.at_;refine⟨⟨v,?_⟩,λp hp=>di (h.lt p hp) e.len⟩;rw[show rZ aA dw=rZ ρ dw from zR λp hp=>by rw[e.ad (h.lt p hp)]];exact le.dict h1
theorem Pf:ez (rZ ρ dw) (.inl (i:Int))=(lk dw i).map λt=>V.ref (ad ρ t):=by
 induction dw with
 |nil=>rfl
 |cons p dw au=>
  unfold ez rZ at au ⊢;rw[eE,su,yc];refine(?_:Option.map _ (match decide ((Sum.inl (p.1:Int):Key)=.inl (i:Int)) with|true=>_|false=>_)=_);by_cases e:p.1=i
  ·rw[kg (by rw[e]),mw e];rfl
  ·rw[jI (λq=>e (DB (ajk q))),kP e];exact au
structure Iw(σ:aq)(kb:Nat)(a:Nat×fY)(ρ:List Nat)(b:V)(af:aq):Prop where
 val:b=.ref (ad ρ a.1)
 lt:a.1<ρ.length
 dw:mO af ρ kb a.2
 le:hq kb σ af
theorem JF{p:Nat×fY}{C:Cfg}{K:V->M V}{r:bW α}{P:α->List Nat->V->aq->Prop}(g:bD φ σ ρ G)(aj:bx β σ)(ao:β.length<=kb)(aV:0<kb)(al:mO σ ρ kb dw)(hp:y0 dw i j=I p)(bw:j<ρ.length)
  (next:∀af,bD φ af ρ G->bx β af->mO af ρ kb p.2->p.1<ρ.length->hq kb σ af->bB φ β af ρ r (K (.ref (ad ρ p.1))) P):bB φ β σ ρ r (runM C "setdefault" .iz (.ref kb) [.int i,.ref (ad ρ j)]>>=K) P:=by
 refine aE λkk=>?_;obtain⟨v,e⟩:=al.at_;refine kk ?_;refine EW (c:=Nat.ble dw.length 99) hp λhlen hp=>?_;replace hlen:=sq (nx hlen)
 induction h:lk dw i with
 |some t=>
  replace hp:=(h ..) ▸ hp;cases hp;refine a9 (Wz (key:=.inl (i:Int)) e ab (by rw[Pf,h];rfl)) (next σ g aj al (al.lt _ (Mm h)) .refl)
 |none=>
  replace hp:=(h ..) ▸ hp;cases hp;have aM:ez (rZ ρ dw) (.inl (i:Int))=U:=by rw[Pf,h];rfl
  refine a9 (Wy (key:=.inl (i:Int)) e aV ab aM (by unfold rZ;rw[c3];exact w1 hlen (by decide +kernel))) (next _ (g.sL e) (aj.hQ ao) ⟨⟨v+1,?_⟩,λq aL=>?_⟩ bw .set)
  ·rw[Cf aM,fg e];unfold rZ;rw[h0];rfl
  ·rcases hs.mp aL with aL|aL
   ·exact al.lt q aL
   ·rw[bT.mp aL];exact bw
theorem aaU{R:a4->fY->bq->bW (Nat×fY)}{p:Nat×a4}{ps:List (Nat×a4)}{s:Nat×fY}:rS R (p::ps) s G=((R p.2 s.2 G).bind λq G=>(gO (.tail (.eC p.1 q.1 s.1) U) G).bind λt G=>.ok (t,q.2) G).bind (rS R ps):=by
 rw[bW.assoc];refine dR (bW.bind _) (funext λq=>funext λG=>?_);rw[bW.assoc];rfl
theorem JE{R:a4->fY->bq->bW (Nat×fY)}{fQ:V}(ao:β.length<=kb)(aV:0<kb)
  (au:∀{k:a4}{dw:fY}{G:bq}{σ:aq}{ρ:List Nat},bD φ σ ρ G->bx β σ->mO σ ρ kb dw->bB φ β σ ρ (R k dw G) (aX (d+2) "fresh" [bV φ k,.ref kb,.int now]) (Iw σ kb))
  {fs:List (Nat×a4)}{s:Nat×fY}(g:bD φ σ ρ G) (aj:bx β σ) (al:mO σ ρ kb s.2) (aD:s.1<ρ.length) (ZV:item fQ (.int 1) σ=.ok (.tup (fs.map λp=>.tup [.str (φ p.1),bV φ p.2])) σ) (kH:hq kb aC σ) :
  bB φ β σ ρ (rS R fs.reverse s G) (CM (d+2) fQ (.ref kb) (.int now) (.ref (ad ρ s.1))) (Iw aC kb):=by
 unfold CM;refine a9 ZV (a9 (m:=uY _) ab ?_);refine wD (F:=λfs s G=>rS R fs s G) (J:=λae=>True) (g:=λp:Nat×a4=>.tup [.str (φ p.1),bV φ p.2]) ab (by rw[<-ajY];exact jO) (λs aA loc af=>oy λcj dO=>uo (loc=(I fQ::I (.ref kb)::I (.int now)::I (.ref (ad aA s.1))::cj::dO::n_7)) (s.1<aA.length) (mO af aA kb s.2) (hq kb aC af)) (λae az bS fc p2=>aS) s ⟨_,_,ab,aD,al,kH⟩ g aj ?_ ?_
 ·intro p ps s cJ aA loc af hm cB gu ⟨cj,dO,ax,gD,iV,Gs⟩;subst ax;refine⟨_,aaU,?_⟩;rw[afL];refine bB.bindB (au cB gu iV) λq kZ sz v c4 he aL=>?_;obtain⟨rfl,Bu,Zy,Bt⟩:=aL;rw[<-he.ext.ad gD];refine bB.bind (jb he.b5 .refl (w_field (d:=d) he.b5 (he.b5.len ▸ Bu) (he.b5.len ▸ di gD he.ext.len))) he.le λt ow nz v cz fF du aK=>?_;obtain⟨rfl,aY⟩:=aK;exact f6 fF.b5 fF.le ⟨ab,_,_,ab,aY,Zy.le du fF.ext,Gs.trans (Bt.trans du.l1)⟩
 ·intro s cJ aA loc af _ cB gu ⟨cj,dO,ax,gD,iV,Gs⟩;subst ax;rw[afM];refine bB.bind (jb cB .refl (uE (d:=d+1) cB (.dc s.1) now (λm hm=>by rw[bT.mp hm];exact cB.len ▸ gD))) gu λt ow nz v cz fF du aK=>?_;obtain⟨rfl,aY⟩:=aK;exact f6 fF.b5 fF.le ⟨ab,aY,iV.le du fF.ext,Gs.trans du.l1⟩
theorem JD(ao:β.length<=kb)(aV:0<kb):∀{n d:Nat}{k:a4}{dw:fY}{G:bq}{σ:aq}{ρ:List Nat},bD φ σ ρ G->bx β σ->mO σ ρ kb dw->bB φ β σ ρ (pw n k dw G) (aX (d+n+2) "fresh" [bV φ k,.ref kb,.int now]) (Iw σ kb):=by
 intro n
 induction n with
 |zero=>intro d k dw G σ ρ _ _ _;exact aS
 |succ n au=>
  intro d k dw G σ ρ g aj al;rw[show d+(n+1)+2=(d+n+2)+1 by exact lO (fk 0x844129000008210940400020 ab) (fk 0x1042128080004220948000020 ab),afK]
  induction k using a4.casesOn with
  |num=>
   refine(?_:bB φ β σ ρ ((gO (.eu .num U) G).bind λi G=>.ok (i,dw) G) _ _);refine a9 gn (om (by decide +kernel) ?_);refine bB.bind (jb g .refl (uE (d:=d+n+1) g .num now nofun)) aj λt ow nz v cz fF du aK=>?_;obtain⟨rfl,aY⟩:=aK;exact f6 fF.b5 fF.le ⟨ab,aY,al.le du fF.ext,du.l1⟩
  |blank i=>
   refine(?_:bB φ β σ ρ ((gO (.eu .gK U) G).bind λj G=>dT (y0 dw i j) λp=>.ok p G) _ _);refine a9 gn (ik (by decide +kernel) ?_);obtain⟨v,e⟩:=al.at_;refine a9 gn (om (by decide +kernel) (a9 (Ld e) (a9 jl ?_)));refine bB.bind (jb g .refl (DS (d:=d+n) g)) aj λt ow nz v cz fF du aK=>?_;obtain⟨rfl,aY⟩:=aK;refine f7 λp hp=>?_;exact JF fF.b5 fF.le ao aV (al.le du fF.ext) hp aY λeQ g3 BC tv ZC ZX=>f6 g3 BC ⟨ab,ZC,tv,du.l1.trans ZX⟩
  |dc fs r=>
   show bB φ β σ ρ ((gO (.tail .fin U) G).bind λe G=>match r with
    |some i=>(gO (.tail .gK U) G).bind λj G=>dT (y0 dw i j) λp=>rS (pw n) fs.reverse p G
    |none=>rS (pw n) fs.reverse (e,dw) G) _ _
   refine a9 gn (ik (by decide +kernel) ?_);refine a9 gn (ik (by decide +kernel) ?_);refine bB.bind (jb g .refl (w_end (d:=d+n+1) g now)) aj λe ow nz v cz fF du aK=>?_;obtain⟨rfl,aY⟩:=aK;have jv:=al.le du fF.ext;have j0:=fF.le
   induction r with
   |none=>
    refine a9 qa (a9 AA (a9 (m:=truth _) ab (lE ab ?_)));exact JE (d:=d+n) ao aV au fF.b5 j0 jv aY (nM ▸ jl) du.l1
   |some i=>
    refine a9 qa (a9 AA (a9 (m:=truth _) ab (pM ab ?_)));obtain⟨v,e⟩:=jv.at_;refine a9 (Ld e) (a9 qa ?_);refine bB.bind (jb fF.b5 .refl (DR (d:=d+n) fF.b5)) j0 λt zA z1 v eQ pl gr aK=>?_;obtain⟨rfl,Zu⟩:=aK;refine f7 λp hp=>?_;exact JF pl.b5 pl.le ao aV (jv.le gr pl.ext) hp Zu λfA gP BB tu ZB BE=>JE (d:=d+n) ao aV au gP BB tu ZB (nM ▸ jl) (du.l1.trans (gr.l1.trans BE))
end
noncomputable def tG(a b c e f:V):List (Str×V):=[("known",a),("body",b),("order",c),("inputs",e),("at",f)]
structure fX(σ:aq)(G2 kk dd dI cn:Nat)(hl:V):Prop where
 at_:(∃j,σ[G2]? =I (.inst "Found" j)/\σ[j]? =I (.bI (tG (.ref kk) hl (.ref dd) (.ref dI) (.ref cn))))
noncomputable def L6:List Str×List Str:=(["__init__", "result", "go", "taken", "asked", "called"],["known", "body", "order", "inputs", "at"])
noncomputable def ep(φ:Nat->Str)(p:List a4×a4):V:=.tup [.tup (p.1.map (bV φ)),bV φ p.2]
def nu(φ:Nat->Str)(σ:aq)(kk:Nat)(kn:Known):Prop:=oy λv t=>σ[kk]? =I (.dict v t)/\∀p,kn=I p->ez t (.inr ("f" : Str))=I (ep φ p)
section
variable {φ:Nat->Str}{β σ af eF aC:aq}{ρ aA e3:List Nat}{G cJ:bq}{d i j k kb l n m t x one other now:Nat}{v:V}{α bN:Type}{fs os:Row}{ls done ks ins:List Nat}{dw:fY}{o:O}{kn:Known}
variable {self kk dd dI cn gc:Nat}{body:V}
theorem od:(av d).cls "Found" = I L6:=rfl
theorem fX.le(h:fX σ self kk dd dI cn body)(l:bx σ af):fX af self kk dd dI cn body:=by obtain⟨j,ax,aO⟩:=h.at_;exact⟨j,l.at_ ax ab,l.at_ aO ab⟩
theorem fX.known(h:fX σ self kk dd dI cn body):cc (av d) "known" (.ref self) σ=.ok (.ref kk) σ:=by obtain⟨_,ax,aO⟩:=h.at_;exact nL ax aO od (by decide +kernel) ab
theorem fX.adh(h:fX σ self kk dd dI cn body):cc (av d) "body" (.ref self) σ=.ok body σ:=by obtain⟨_,ax,aO⟩:=h.at_;exact nL ax aO od (by decide +kernel) ab
theorem fX.order(h:fX σ self kk dd dI cn body):cc (av d) "order" (.ref self) σ=.ok (.ref dd) σ:=by obtain⟨_,ax,aO⟩:=h.at_;exact nL ax aO od (by decide +kernel) ab
theorem fX.MO(h:fX σ self kk dd dI cn body):cc (av d) "inputs" (.ref self) σ=.ok (.ref dI) σ:=by obtain⟨_,ax,aO⟩:=h.at_;exact nL ax aO od (by decide +kernel) ab
theorem fX.at(h:fX σ self kk dd dI cn body):cc (av d) "at" (.ref self) σ=.ok (.ref cn) σ:=by obtain⟨_,ax,aO⟩:=h.at_;exact nL ax aO od (by decide +kernel) ab
theorem fX.tag{nm:Str}(h:fX σ self kk dd dI cn body)(aM:(L6.1.contains nm&&((tG (.ref kk) body (.ref dd) (.ref dI) (.ref cn)).lookup nm).isNone)=ak):c1 (dP (av d) (.ref self) nm) σ=.ok (.own "Found") σ:=by obtain⟨_,ax,aO⟩:=h.at_;exact Lc ax aO od aM
theorem mW{c nm full:Str}{o:V}{as:List V}(h:jr c nm=full):runM (av d) nm (.own c) o as=aX d full (o::as):=by subst h;rfl
theorem nu.le(h:nu φ σ kk kn)(l:bx σ af):nu φ af kk kn:=by obtain⟨v,t,e,h⟩:=h;exact⟨v,t,l.dict e,h⟩
theorem hq.list{k n:Nat}{l:List V}(h:hq k σ af)(aM:n≠k)(e:σ[n]? =I (.list l)):af[n]? =I (.list l):=h.at_ aM e ab
theorem x8(h:gi ρ aA)(ao:∀k∈ks,k<ρ.length):c8 aA ks=c8 ρ ks:=zR λk iU=>by rw[h.ad (ao k iU)]
theorem CE{h4:Type}{r:bW α}{f:α->bq->bW h4}{b:h4}{C:Prop}(h:r.bind f=.ok b cJ)(k:∀a G,r=.ok a G->f a G=.ok b cJ->C):C:=by
 induction r with
 |ok a G=>exact k a G ab h
 |bad=>cases h
theorem aaV{k:a4}{eB:List a4}{hf:List Nat}{lA:fY}{C:Prop}(h:tF (k::eB) dw G=.ok (hf,lA) cJ)(kk:∀p kZ tb,pw 6 k dw G=.ok p kZ->tF eB p.2 kZ=.ok (tb,lA) cJ->hf=p.1::tb->C):C:=
 CE (r:=pw 6 k dw G) h λp kZ h1 h=>CE (r:=tF eB p.2 kZ) h λq ow h2 h=>by cases h;exact kk p kZ q.1 h1 h2 ab
theorem Wp.Aa{m:M α}{Q:α->aq->Prop}(h:Wp σ (m>>=λv=>cv v) Q):Wp σ m Q:=by
 obtain⟨a,aC,e,q⟩:=h
 induction h:m σ with
 |ok b s=>have:=(aN h).symm.trans e;cases this;exact⟨a,aC,h,q⟩
 |exc b s=>have:=(e1 h).symm.trans e;cases this
 |bad=>have:=(cS h).symm.trans e;cases this
theorem bB.ext{r:bW α}{m:M bN}{P:α->List Nat->bN->aq->Prop}(h:bB φ β σ aA r m P)(e:gi ρ aA):bB φ β σ ρ r m P:=by
 induction r with
 |ok a G=>exact Wp.mono (h:Wp _ _ _) λb af aU=>by obtain⟨e3,he,p⟩:=aU;exact⟨e3,⟨e.trans he.ext,he.b5,he.le⟩,p⟩
 |bad=>exact aS
theorem Wi{a b:Nat}{l m:List V}(h:σ[a]? =I (.list l))(h':σ[b]? =I (.list m)):mT (.ref a) (.ref b) σ=.ok (.zip (.lst a) (.lst b) σ.length) (σ++[.cache]):=by
 unfold mT;exact(aN (m:=oE _) (a:=.lst a) (af:=σ) (aN (i2 h))).trans ((aN (m:=oE _) (a:=.lst b) (af:=σ) (aN (i2 h'))).trans ab)
theorem Wh{b:Nat}{l m:List V}(h':σ[b]? =I (.list m)):mT (.tup l) (.ref b) σ=.ok (.zip (.tup l) (.lst b) σ.length) (σ++[.cache]):=by
 unfold mT;exact(aN (m:=oE _) (a:=.tup l) (af:=σ) ab).trans ((aN (m:=oE _) (a:=.lst b) (af:=σ) (aN (i2 h'))).trans ab)
theorem Sr{hf:List Nat}:((c8 ρ ks).zip (c8 ρ hf))=(ks.zip hf).map λp=>(V.ref (ad ρ p.1),V.ref (ad ρ p.2)):=by
 unfold c8;rw[ajQ];rfl
inductive Ru(φ:Nat->Str)(σ:aq)(ρ hf:List Nat)(lA:fY)(G:bq)(r:V)(af:aq):Prop
 |mk(kw:Nat)(aA:List Nat)(e:r=.ref kw)(Om:af[kw]? =some (.list (c8 aA hf)))(AS:kw≠σ.length)(he:lI φ σ af ρ aA G)(al:mO af aA σ.length lA)(bw:∀j∈hf,j<aA.length):Ru φ σ ρ hf lA G r af
inductive Rv(φ:Nat->Str)(σ:aq)(ρ:List Nat)(hf:List Nat)(lA:fY)(G:bq)(r:List a4)(acc:List V)(af:aq):Prop
 |mk(is tb:List Nat)(dw:fY)(cJ:bq)(aA:List Nat)(cC:acc=c8 aA is)(hL:tF r dw cJ=.ok (tb,lA) G)(yw:hf=is++tb)(he:lI φ σ af ρ aA cJ)(al:mO af aA σ.length dw)(aR:∀j∈is,j<aA.length):Rv φ σ ρ hf lA G r acc af
theorem ac2{hf:List Nat}{lA:fY}{eB:List a4}{v1 v2 v3 v4 v5:V}(aV:0<σ.length)(g1:bD φ aC ρ G)(hy:bx σ aC)(fI:mO aC ρ σ.length [])(i7:tF eB [] G=.ok (hf,lA) cJ)(Zr:eB.length<=30) :
  Wp aC (gw (av (d+13)) (e0 jD) (eO jD) (eZ jD) (bM jD) (.vals (eB.map (bV φ))) il.names (I v1::I v2::I v3::I (.int now)::I v4::I v5::I (.ref σ.length)::n_7)) (Ru φ σ ρ hf lA cJ):=by
 refine Wp.Aa (HS (X:=a4) (xs:=eB) (g:=bV φ) (L:=λo=>[U,o.map (bV φ),U,I (.ref σ.length),I (.int now)]) (J:=λae=>True) ab jO agY (agZ ..) (b7 Zr (by decide +kernel)) (λae az=>ag1 ..) (agX _)
  (Rv φ σ ρ hf lA cJ) (λae=>aS) (.mk [] hf [] G ρ ab i7 ab ⟨.refl,g1,hy⟩ fI nofun) (λk r acc af ae aW=>?_) λout af aW=>?_)
 ·refine aE λkk=>?_;obtain⟨is,tb,dw,kZ,aA,cC,hL,yw,he,al,aR⟩:=aW;refine aaV hL λq zA YS h1 h2 h3=>?_;have hw:=JD (β:=σ) (kb:=σ.length) (now:=now) (n:=6) (d:=d+5) (k:=k) (cI _) aV he.b5 he.le al;rw[h1]at hw;obtain⟨_,eF,e,e3,fF,rfl,mf,M5,Bs⟩:=(hw:Wp _ _ _);refine kk (fJ (ag0 ..) (aG e (cD (.mk (is++[q.1]) YS q.2 zA e3 ?_ h2 (by rw[yw,h3,jM];rfl) ⟨he.ext.trans fF.ext,fF.b5,fF.le⟩ M5 λj bw=>(hs.mp bw).elim (λbw=>di (aR j bw) fF.ext.len) λbw=>by rw[bT.mp bw];exact mf))));rw[cC,<-x8 fF.ext aR];unfold c8;rw[h0];rfl
 ·obtain⟨is,tb,dw,kZ,aA,cC,hL,yw,he,al,aR⟩:=aW;cases hL;rw[lP]at yw;subst yw;exact cD (.mk _ aA ab (b2.trans (by rw[cC])) (by have h2:=dy al.at_.choose_spec;exact Nat.ne_of_gt h2) ⟨he.ext,he.b5.push,he.le.new⟩ (al.le .push .refl) aR)
noncomputable def O9(self gc now kb kw a:Nat)(v1 v2 v3:V)(s:Option V×Option V):Loc:=[I (.ref self),I v1,I (.ref gc),I (.int now),I v2,I v3,I (.ref kb),s.1,I (.ref kw),I (.ref a),s.2,U,U,U]
theorem ac1{hf:List Nat}{r:Nat}{kw kb:Nat}{v1 v2 v3:V}{bA:Src}{s:Option V×Option V}(c:cW φ)(g:bD φ aC ρ G)(aj:bx σ aC)(aP:r<ρ.length)(hw:Walks bA ((ks.zip hf).map λp=>V.tup [.ref (ad ρ p.1),.ref (ad ρ p.2)]) (bx aC))(dK:((av (d+13)).calm&&gz bA (cy si))=ak)(d6:∀p∈ks.zip hf,p.1<ρ.length/\p.2<ρ.length) :
  bB φ σ aC ρ ((vw (ks.zip hf) G).bind λae G=>.ok r G) (eT (av (d+13)) (cy si) (bU si) bA il.names (O9 self gc now kb kw (ad ρ r) v1 v2 v3 s)>>=dA cN (Ig (d+13))) qj:=by
 refine wD (F:=λps (_:Unit) G=>(vw ps G).bind λae G=>.ok r G) (xs:=ks.zip hf) (g:=λp=>V.tup [.ref (ad ρ p.1),.ref (ad ρ p.2)]) dK hw
  (λae aA loc af=>oy λs _u=>uo (loc=O9 self gc now kb kw (ad ρ r) v1 v2 v3 s) (bx aC af) (gi ρ aA) (_u=())) (λae az bS fc aU=>by obtain⟨_,_,_,h,_⟩:=aU;exact h) () ⟨s,(),ab,.refl,.refl,ab⟩ g aj ?_ ?_
 ·intro x uD _ cJ aA loc af hm cB gu aU;refine⟨join x.1 x.2 cJ,by rw[show vw (x::uD) cJ=(join x.1 x.2 cJ).bind λae G=>vw uD G from ab,bW.assoc],aE λkk=>?_⟩;obtain⟨s,_,rfl,le,ex,_⟩:=aU;refine kk (t5 (agW ..) ?_);rw[<-ex.ad (d6 x hm).1,<-ex.ad (d6 x hm).2];exact bB.last (JA (now:=now) c 4 d cB (di (d6 x hm).1 ex.len) (di (d6 x hm).2 ex.len)) gu λae ow nz az cz he du bS=>f6 he.b5 he.le ⟨ab,(_,_),(),ab,le.trans du,ex.trans he.ext,ab⟩
 ·intro _ cJ aA loc af _ cB gu aU;refine aE λkk=>?_;obtain⟨s,_,rfl,le,ex,_⟩:=aU;refine kk (t5 (ag3 ..) ?_);rw[<-ex.ad aP];exact f6 cB gu ⟨ab,di aP ex.len⟩
theorem S7{ps:List V}(c:cW φ)(cB:bD φ σ ρ G)(F:fX σ self kk dd dI cn body)(K:nu φ σ kk kn)(aL:σ[gc]? =I (.list (c8 ρ ks)))(i6:∀k∈ks,k<ρ.length)(kG:∀p,kn=I p->p.1.length<=30) :
  bB φ σ σ ρ (uP kn ins .call ks G) (aX (d+14) "Found.called" [.ref self,l0 φ .call ps,.ref gc,.int now]) qj:=by
 refine f7 (o:=kn) (f:=λp=>Hq p ks G) λp hp=>?_;unfold Hq
 induction i7:tF p.1 [] G with
 |bad=>exact aS
 |ok q ow=>
 obtain⟨hf,lA⟩:=q;refine(?_:bB φ σ σ ρ ((pw 6 p.2 lA ow).bind λr G=>(vw (ks.zip hf) G).bind λae G=>.ok r.1 G) _ _);refine aE λkk=>?_;obtain⟨v,t,dB,ao⟩:=K;obtain⟨_,cz,Hi,kw,nz,rfl,Om,AS,fF,jv,Nt⟩:=ac2 (d:=d) (v1:=.ref self) (v2:=l0 φ .call ps) (v3:=.ref gc) (v4:=.tup (p.1.map (bV φ))) (v5:=bV φ p.2) cB.pos (cB.push (o:=.dict 0 [])) bx.push ⟨⟨0,b2⟩,nofun⟩ i7 (kG p hp);refine kk (t5 (agV ..) (a9 F.known (a9 jl (a9 (u1 (key:=.inr ("f" : Str)) dB ab (ao p hp)) ?_))));unfold ep;rw[ag2];refine a9 (m:=cv _) ab (t5 (ag4 ..) (a9 (m:=bP _) ab (a9 (m:=bE _) ab (a9 (m:=el _) ab (a9 Hi (a9 (m:=bE _) ab (bB.ext (bB.bindB (JD (β:=σ) (kb:=σ.length) (now:=now) (n:=6) (d:=d+5) (cI _) cB.pos fF.b5 fF.le jv) λr zA z1 v eQ pl aP=>?_) fF.ext)))))));refine aE λkk=>?_;obtain⟨rfl,mf,M5,Bs⟩:=aP;have Bt:=pl.le.list aL;have Ol:=Bs.list AS Om;have Oj:=fF.ext.trans pl.ext;refine kk (a9 (Wi Bt Ol) (ac1 (s:=(U,U)) c pl.b5.push pl.le.new mf ?_ agU λp hp=>⟨di (i6 _ (R1 hp).1) Oj.len,di (Nt _ (R1 hp).2) pl.ext.len⟩));have:=Jq (J:=bx (eQ++[.cache])) (c:=eQ.length) (DH λaC h=>h.list (cK Bt)) (DH λaC h=>h.list (cK Ol));rw[<-x8 Oj i6,<-x8 pl.ext Nt,Sr,iv]at this;exact this
end
section
variable {φ:Nat->Str}{β σ af eF aC:aq}{ρ aA e3:List Nat}{G cJ:bq}{d i j k kb l n m t x one other now:Nat}{v:V}{α bN:Type}{fs os:Row}{ls done ks ins:List Nat}{dw:fY}{o:O}{kn:Known}
variable {self kk dd dI cn gc:Nat}{body hl:V}{ps:List V}
theorem Fo(aL:σ[gc]? =I (.list (c8 ρ ks)))(h:ks[i]? =I k):item (.ref gc) (.int i) σ=.ok (.ref (ad ρ k)) σ:=jS aL (kj i) (by unfold c8;rw[Int.toNat_natCast,ki,h];rfl)
theorem DQ(g:bD φ σ ρ G){r:Nat}(h:r<ρ.length):(dZ.eu (.dc r) U).wf G.len:=λm hm=>by rw[bT.mp hm];exact g.len ▸ h
theorem JH{r:Nat->Nat->bq->bW Nat}{K:V->V->M V}(c:cW φ)(g:bD φ σ ρ G)(aL:σ[gc]? =I (.list (c8 ρ ks)))(Gw:ks[0]? =I k)(ao:k<ρ.length)(al:∀af,item body (.int 2) af=.ok (.str (φ l)) af)
  (next:∀i dn cJ aA af,lI φ σ af ρ aA cJ->i<aA.length->dn<aA.length->bB φ σ af aA (r i dn cJ) (K (.ref (ad aA i)) (.ref (ad aA dn))) qj) :
  bB φ σ σ ρ ((Cu l k G).bind λp G=>r p.1 p.2 G) (aX (d+13) "unknown_kind" []>>=λJ9=>aX (d+13) "unknown_rest" []>>=λJ8=>item (.ref gc) (.int 0)>>=λUS=>item body (.int 2)>>=λUR=>aX (d+13) "field" [UR,J9,.int now,J8]>>=λUQ=>fv (av (d+13)) "Spot" [(V.str "record"),.int now,UQ]>>=λUP=>aX (d+13) "join" [US,UP,.int now]>>=λakW=>K J9 J8) qj:=by
 unfold Cu;rw[bW.assoc];refine bB.bind (jb g .refl (DS (d:=d+11) g)) .refl λi kZ sz v c4 h1 ae aK=>?_;obtain⟨rfl,aR⟩:=aK;rw[bW.assoc];refine bB.bind (jb h1.b5 .refl (DR (d:=d+11) h1.b5)) h1.le λdn ow nz v cz h2 ae aK=>?_;obtain⟨rfl,aP⟩:=aK;have Gy:=di aR h2.ext.len;rw[<-h2.ext.ad aR,bW.assoc];refine a9 (Fo (h2.le.list aL) Gw) (a9 (al _) ?_);refine bB.bind (jb h2.b5 .refl (w_field (d:=d+11) h2.b5 (h2.b5.len ▸ Gy) (h2.b5.len ▸ aP))) h2.le λt zA z1 v eQ h3 ae aK=>?_;obtain⟨rfl,aY⟩:=aK;rw[bW.assoc];refine bB.bind (jb h3.b5 .refl (uE (d:=d+12) h3.b5 (.dc t) now (DQ h3.b5 aY))) h3.le λs sk mS v fA bf ae aK=>?_;obtain⟨rfl,aD⟩:=aK;have Hb:=(h1.ext.trans h2.ext).trans (h3.ext.trans bf.ext);rw[<-Hb.ad ao,bW.assoc];refine bB.bind (JA c 4 d bf.b5 (di ao Hb.len) aD) bf.le λae C8 sy az d0 cP bS fc=>?_;have eX:=(h3.ext.trans bf.ext).trans cP.ext;rw[<-eX.ad Gy,<-eX.ad aP];exact next i dn C8 sy d0 ⟨Hb.trans cP.ext,cP.b5,cP.le⟩ (di Gy eX.len) (di aP eX.len)
theorem w_get{p:V}(c:cW φ)(g:bD φ σ ρ G)(aL:σ[gc]? =I (.list (c8 ρ [k])))(ao:k<ρ.length) :
  bB φ σ σ ρ (uP kn ins (.get l) [k] G) (aX (d+14) "Found.asked" [.ref self,l0 φ (.get l) [p],.ref gc,.int now]) qj:=by
 rw[Qv];refine JH (r:=λi ae G=>.ok i G) c g aL ab ao (λae=>qa) λi dn cJ aA af he aR ae=>?_;exact a9 gn (om (by decide +kernel) (f6 he.b5 he.le ⟨ab,aR⟩))
theorem SW{p q:V}{c6:Nat}(c:cW φ)(g:bD φ σ ρ G)(aL:σ[gc]? =I (.list (c8 ρ [k,c6])))(ao:k<ρ.length)(iU:c6<ρ.length) :
  bB φ σ σ ρ (uP kn ins (.put l) [k,c6] G) (aX (d+14) "Found.asked" [.ref self,l0 φ (.put l) [p,q],.ref gc,.int now]) qj:=by
 rw[Qv];refine JH (r:=λi r G=>Lp (i,r) l c6 G) c g aL ab ao (λae=>qa) λi dn cJ aA af he aR aP=>?_;refine a9 gn (ik (by decide +kernel) ?_);refine a9 qa (a9 (Fo (i:=1) (he.le.list aL) ab) ?_);rw[<-he.ext.ad iU];refine bB.bind (jb he.b5 .refl (w_field (d:=d+11) he.b5 (he.b5.len ▸ di iU he.ext.len) (he.b5.len ▸ aP))) he.le λt zA z1 v eQ h3 ae aK=>?_;obtain⟨rfl,aY⟩:=aK;exact bB.last (jb h3.b5 .refl (uE (d:=d+12) h3.b5 (.dc t) now (DQ h3.b5 aY))) h3.le λs sk mS v fA bf ae aK=>f6 bf.b5 bf.le aK
theorem Sy(h:ps.length=ls.length):((ls.zip ps).zip ks).map (λx=>(x.1.1,x.2))=ls.zip ks:=by
 induction ls generalizing ps ks with
 |nil=>rfl
 |cons l ls au=>
  induction ps using List.casesOn with
  |nil=>cases h
  |cons p ps=>
   induction ks using List.casesOn with
   |nil=>rfl
   |cons k ks=>
    rw[qU,qU,eE,qU,au (RT h)]
theorem S1(g:bD φ σ ρ G)(aL:σ[gc]? =I (.list (c8 ρ ks)))(i6:∀k∈ks,k<ρ.length)(hp:ps.length=ls.length) :
  bB φ σ σ ρ (uP kn ins (.make ls) ks G) (Ie (d+2) (.ref self) (l0 φ (.make ls) ps) (.ref gc) (.int now) (.str "make")) qj:=by
 unfold Ie;refine om (by decide +kernel) ?_;refine bB.bind (jb g .refl (w_end (d:=d+1) g now)) .refl λe kZ sz v c4 h1 ae aK=>?_;obtain⟨rfl,he⟩:=aK;have Bu:=h1.le.list aL;refine a9 jl (a9 (Wh Bu) ?_);have hw:Walks (.zip (.tup ((ls.zip ps).map λp=>.tup [.str (φ p.1),p.2])) (.lst gc) c4.length) (((ls.zip ps).zip ks).map λx=>V.tup [.tup [.str (φ x.1.1),x.1.2],.ref (ad ρ x.2)]) (bx (c4++[.cache])):=by
  have:=Jq (J:=bx (c4++[.cache])) (c:=c4.length) (Sn (l:=(ls.zip ps).map λp=>V.tup [.str (φ p.1),p.2])) (DH λaC h=>h.list (cK Bu));unfold c8 at this;rw[ajQ,iv]at this;exact this
 have d6:∀x∈(ls.zip ps).zip ks,x.2<ρ.length:=λx aI=>i6 _ (R1 aI).2;show bB φ σ (c4++[.cache]) sz (Fw (ls.zip ks) e kZ) _ _;rw[<-(Sy (ks:=ks) hp)];refine wD (F:=λxs r G=>Fw (xs.map λx:(Nat×V)×Nat=>(x.1.1,x.2)) r G) (xs:=(ls.zip ps).zip ks) (g:=λx=>V.tup [.tup [.str (φ x.1.1),x.1.2],.ref (ad ρ x.2)]) agq hw
  (λr aA loc af=>oy λcj dO=>uo (loc=[I (.ref self),I (l0 φ (.make ls) ps),I (.ref gc),I (.int now),I (.str "make"),I (.ref (ad aA r)),cj,dO,U,U,U,U,U]) (bx (c4++[.cache]) af) (gi ρ aA) (r<aA.length)) (λae az bS fc aU=>by obtain⟨_,_,_,h,_,_⟩:=aU;exact h) e ⟨_,_,ab,.refl,h1.ext,he⟩ h1.b5.push h1.le.new ?_ ?_
 ·intro x uD r cJ aA loc af hm cB gu ⟨cj,dO,ax,le,ex,aP⟩;subst ax;refine⟨gO (.tail (.eC x.1.1 x.2 r) U) cJ,ab,?_⟩;rw[agx,<-ex.ad (d6 x hm)];refine a9 gn ?_;refine bB.last (jb cB .refl (w_field (d:=d) cB (cB.len ▸ di (d6 x hm) ex.len) (cB.len ▸ aP))) gu λt ow nz v cz h2 du aK=>?_;obtain⟨rfl,aY⟩:=aK;exact f6 h2.b5 h2.le ⟨ab,_,_,ab,le.trans du,ex.trans h2.ext,aY⟩
 ·intro r cJ aA loc af _ cB gu ⟨cj,dO,ax,le,ex,aP⟩;subst ax;rw[agy];exact bB.last (jb cB .refl (uE (d:=d+1) cB (.dc r) now (DQ cB aP))) gu λs sk mS v fA bf ae aK=>f6 bf.b5 bf.le aK
theorem Xm{l:List Nat}:∀{i:Nat},Fj l i=l[i]?:=by
 induction l with
 |nil=>intro i;rfl
 |cons x r au=>
  intro i
  induction i using Nat.casesOn with
  |zero=>rfl
  |succ i=>exact au
theorem Xc{w w':Str}:(cmp .Eq (.str w) (.str w)>>=λdj=>truth dj>>=λmA=>M.cond mA (pure ak:M Bool) (cmp .Eq (.str w) (.str w')>>=λgm=>truth gm>>=λqC=>M.cond qC (pure ak:M Bool) (pure aH:M Bool))) σ=.ok ak σ:=u6
theorem Xb{w w':Str}(h:(w==w')=aH):(cmp .Eq (.str w) (.str w')>>=λdj=>truth dj>>=λmA=>M.cond mA (pure ak:M Bool) (cmp .Eq (.str w) (.str w)>>=λgm=>truth gm>>=λqC=>M.cond qC (pure ak:M Bool) (pure aH:M Bool))) σ=.ok ak σ:=(jm h).trans u6
theorem SO{f:qM}(c:cW φ)(g:bD φ σ ρ G)(F:fX σ self kk dd dI cn hl)(K:nu φ σ kk kn)(kG:∀p,kn=I p->p.1.length<=30)(fw:σ[dI]? =I (.list (c8 ρ ins)))(aR:∀k∈ins,k<ρ.length)(aL:σ[gc]? =I (.list (c8 ρ ks)))(i6:∀k∈ks,k<ρ.length)(yF:ze f ps.length=ak)(hlen:ks.length=ps.length) :
  bB φ σ σ ρ (uP kn ins f ks G) (aX (d+15) "Found.taken" [.ref self,l0 φ f ps,.ref gc,.int now]) qj:=by
 rw[agw]
 induction f with
 |num z=>
  refine a9 gn (om (by decide +kernel) ?_);exact bB.last (jb g .refl (uE (d:=d+13) g .num now nofun)) .refl λs sk mS v fA bf ae aK=>f6 bf.b5 bf.le aK
 |fT i=>
  refine a9 gn (ik (by decide +kernel) ?_);refine om (by decide +kernel) (a9 F.MO (a9 jl ?_));refine f7 (o:=Fj ins i) (f:=λt=>.ok t G) λt aY=>?_;rw[Xm]at aY;exact a9 (Fo fw aY) (f6 g .refl ⟨ab,aR t (g4 aY)⟩)
 |make ls=>
  refine a9 gn (ik (by decide +kernel) ?_);refine ik (by decide +kernel) ?_;exact S1 (d:=d+12) g aL i6 (beq_iff_eq.mp (xb.mp yF).1)
 |get l=>
  obtain⟨p,rfl⟩:=Ff yF;obtain⟨k,rfl⟩:=Ff (l:=ks) (beq_iff_eq.mpr hlen);refine a9 gn (ik (by decide +kernel) ?_);refine ik (by decide +kernel) (ik (by decide +kernel) (a9 Xc (pM ab (a9 (F.tag ab) ?_))));rw[mW (full := "Found.asked") (by decide +kernel)];exact bB.last (w_get (d:=d) c g aL (i6 k b8)) .refl λs sk mS v fA bf ae aK=>f6 bf.b5 bf.le aK
 |put l=>
  obtain⟨p,q,rfl⟩:=Ed yF;obtain⟨k,c6,rfl⟩:=Ed (l:=ks) (beq_iff_eq.mpr hlen);refine a9 gn (ik (by decide +kernel) ?_);refine ik (by decide +kernel) (ik (by decide +kernel) (a9 (Xb (by decide +kernel)) (pM ab (a9 (F.tag ab) ?_))));rw[mW (full := "Found.asked") (by decide +kernel)];exact bB.last (SW (d:=d) c g aL (i6 k b8) (i6 c6 (da _ b8))) .refl λs sk mS v fA bf ae aK=>f6 bf.b5 bf.le aK
 |call=>
  refine a9 gn (ik (by decide +kernel) ?_);refine ik (by decide +kernel) (ik (by decide +kernel) (a9 (AP (by decide +kernel) (by decide +kernel)) (lE ab (om (by decide +kernel) (a9 (F.tag ab) ?_)))));rw[mW (full := "Found.called") (by decide +kernel)];exact bB.last (S7 (d:=d) c g F K aL i6 kG) .refl λs sk mS v fA bf ae aK=>f6 bf.b5 bf.le aK
end
noncomputable def nN(q:Place):List Int:=q.map Int.ofNat
inductive H2(ρ:List Nat)(at_:gG):O->Prop
 |nil(h:at_=[]):H2 ρ at_ (.dict 0 [])
 |tab(sE:Nat)(T:jz)(aj:T.length<=at_.length)(h:∀q,gL T (nN q)=(lB at_ q).map λt=>V.ref (ad ρ t)):H2 ρ at_ (.et sE T)
structure jH(ρ:List Nat)(at_:gG)(o:O):Prop where
 o:H2 ρ at_ o
 lt:∀p∈at_,p.2<ρ.length
section
variable {φ:Nat->Str}{β σ af eF aC:aq}{ρ aA e3:List Nat}{G cJ:bq}{d i j k kb l n m t x one other now:Nat}{v:V}{α bN:Type}{fs os:Row}{ls done ks ins:List Nat}{dw:fY}{o:O}{kn:Known}
variable {self kk dd dI cn gc:Nat}{body hl:V}{ps:List V}{q dG:Place}{at_:gG}
theorem Ue:∀q:Place,uN (q.map qf)=I (nN q):=by
 intro q
 induction q with
 |nil=>rfl
 |cons i q au=>refine(?_:(uN (q.map qf)).map _=_);rw[au];rfl
theorem Eh:lT (gM q)=I (nN q):=Ue q
theorem WO:∀{q dG:Place},nN q=nN dG->q=dG:=by
 intro q
 induction q with
 |nil=>intro dG h;induction dG using List.casesOn with
  |nil=>rfl
  |cons=>cases h
 |cons i q au=>intro dG h;induction dG using List.casesOn with
  |nil=>cases h
  |cons j dG=>
   obtain⟨h1,h2⟩:=pX h;rw[au h2,DB h1]
theorem E8:∀{q dG:Place},xV q dG=decide (nN q=nN dG):=by
 intro q
 induction q with
 |nil=>intro dG;induction dG using List.casesOn with
  |nil=>rfl
  |cons j dG=>exact(jI nofun).symm
 |cons i q au=>intro dG;induction dG using List.casesOn with
  |nil=>exact(jI nofun).symm
  |cons j dG=>
   refine(?_:(Bool.rec aH (xV q dG) (Nat.beq i j):Bool)=_);by_cases e:i=j
   ·rw[mw e,e];refine au.trans (IQ.mpr ⟨λh=>by refine(?_:_::_=_::_);rw[show q.map Int.ofNat=_ from h];rfl,λh=>(pX h).2⟩)
   ·rw[kP e];exact(jI λh=>e (DB (pX h).1)).symm
theorem Pw{p:Place×Nat}:lB (p::at_) q=Bool.rec (lB at_ q) (I p.2) (xV p.1 q):=rfl
theorem Pu(h:lB at_ q=I t):(q,t)∈at_:=by
 induction at_ with
 |nil=>exact bh h
 |cons p at_ au=>exact rk (c:=xV p.1 q) h (λae h=>da _ (au h)) λe h=>(by cases h;rw[E8]at e;rw[<-WO (qS e)];exact b8:(q,t)∈p::at_)
theorem q7{p:List Int×V}{l:jz}{key:List Int}:gL (p::l) key=if p.1=key then I p.2 else gL l key:=by
 unfold gL;rw[su];by_cases e:p.1=key
 ·rw[bj e,kg e];rfl
 ·rw[bH e,jI e]
theorem Ux{l:jz}{key m6:List Int}:gL (ku l key v) m6=if key=m6 then I v else gL l m6:=by
 have h1:∀{l:jz},gL (l++[(key,v)]) m6=(gL l m6).or (if key=m6 then I v else U):=λ{l}=>by
  induction l with
  |nil=>rw[I2,q7];rfl
  |cons p l au=>
   rw[R9,q7,q7,au];by_cases e:p.1=m6
   ·rw[bj e,bj e];rfl
   ·rw[bH e,bH e]
 have h2:∀{l:jz},key≠m6->gL (l.map λp=>if p.1=key then (p.1,v) else p) m6=gL l m6:=λ{l} aM=>by
  induction l with
  |nil=>rfl
  |cons p l au=>
   rw[eE,q7,q7,au];by_cases e:p.1=key
   ·rw[bj e,bH (λq=>aM (e.symm.trans q)),bH (λq=>aM (e.symm.trans q))]
   ·rw[bH e]
 have h3:∀{l:jz},(gL l key).isSome=ak->gL (l.map λp=>if p.1=key then (p.1,v) else p) key=I v:=λ{l} aD=>by
  induction l with
  |nil=>cases aD
  |cons p l au=>
   rw[eE,q7];by_cases e:p.1=key
   ·rw[bj e,bj e]
   ·rw[bH e,bH e];rw[q7,bH e]at aD;exact au aD
 unfold ku;by_cases aD:(gL l key).isSome=ak
 ·rw[bj aD];by_cases e:key=m6
  ·rw[bj e,<-e];exact h3 aD
  ·rw[bH e];exact h2 e
 ·rw[bH aD,h1];by_cases e:key=m6
  ·subst e;rw[bj ab,bj ab,ajv.mp aD];rfl
  ·rw[bH e,bH e,aju]
theorem Uw{l:jz}{key:List Int}:(ku l key v).length<=l.length+1:=by
 unfold ku;by_cases aD:(gL l key).isSome=ak
 ·rw[bj aD,c3];exact jL _
 ·rw[bH aD,dM];exact cI _
theorem jH.ext(h:jH ρ at_ o)(e:gi ρ aA):jH aA at_ o:=by
 obtain⟨ho,lt⟩:=h;refine⟨?_,λp hp=>di (lt p hp) e.len⟩
 induction ho with
 |nil h=>exact .nil h
 |tab sE T aj h=>
  refine .tab sE T aj λq=>(h q).trans ?_
  induction h':lB at_ q with
  |none=>rfl
  |some t=>exact dR (λx=>I (V.ref x)) (e.ad (lt _ (Pu h'))).symm
theorem jH.x7(h:jH ρ at_ o):rB o=aH/\(∀c j,o≠.inst c j)/\(∀l,o≠.list l)/\∀l,o≠.bI l:=by
 obtain⟨ho,_⟩:=h
 induction ho with
 |nil h=>exact⟨ab,nofun,nofun,nofun⟩
 |tab sE T aj h=>exact⟨ab,nofun,nofun,nofun⟩
theorem adJ(e:σ[cn]? =I o)(ho:jH ρ at_ o)(aV:0<cn)(aI:x<ρ.length)(aj:at_.length<=1000):(∃o',setItem (.ref cn) (gM q) (.ref (ad ρ x)) σ=.ok () (σ.set cn o')/\jH ρ ((q,x)::at_) o'):=by
 obtain⟨ho,lt⟩:=ho;have lt:∀p∈(q,x)::at_,p.2<ρ.length:=λp hp=>by
  rcases cY.mp hp with rfl|hp
  ·exact aI
  ·exact lt p hp
 induction ho with
 |nil h=>
  subst h;refine⟨_,Wj e aV Eh,.tab 1 _ (cI _) λdG=>?_,lt⟩;rw[q7,Pw,E8];by_cases e:nN q=nN dG
  ·rw[bj e,kg e];rfl
  ·rw[bH e,jI e];rfl
 |tab sE T cq h=>
  refine⟨_,Wk e aV Eh (fz (b7 cq aj) (by decide +kernel)),.tab (sE+1) _ (b7 Uw (pV cq)) λdG=>?_,lt⟩;rw[Ux,Pw,E8,h dG];by_cases e:nN q=nN dG
  ·rw[bj e,kg e];rfl
  ·rw[bH e,jI e]
theorem HK(e:σ[cn]? =I o)(ho:jH ρ at_ o)(aL:lB at_ q=I x):item (.ref cn) (gM q) σ=.ok (.ref (ad ρ x)) σ:=by
 refine aE λkk=>?_;obtain⟨ho,lt⟩:=ho;refine kk ?_
 induction ho with
 |nil h=>subst h;exact bh aL
 |tab sE T cq h=>exact Ws e Eh (by rw[h,aL];rfl)
theorem fX.l1(h:fX σ self kk dd dI cn v)(l:hq cn σ af)(e:σ[cn]? =I (.dict 0 [])):fX af self kk dd dI cn v:=by
 obtain⟨j,ax,aO⟩:=h.at_;exact⟨j,l.at_ (λq=>by subst q;replace ax:=(e ..) ▸ ax;cases ax) ax ab,l.at_ (λq=>by subst q;replace aO:=(e ..) ▸ aO;cases aO) aO ab⟩
theorem hq.Bb{l:List V}{n:Nat}(h:hq cn σ af)(e:σ[cn]? =I (.dict 0 []))(ie:σ[n]? =I (.list l)):af[n]? =I (.list l):=h.list (λq=>by subst q;replace ie:=(e ..) ▸ ie;cases ie) ie
theorem nu.l1(h:nu φ σ kk kn)(l:hq cn σ af)(aM:kk≠cn):nu φ af kk kn:=by obtain⟨v,t,e,h⟩:=h;exact⟨v,t,l.at_ aM e ab,h⟩
theorem Ys:∀{n i:Nat}{ks:List Nat},FK at_ q n i=I ks->ks.length=n/\∀j,j<n->∃k,lB at_ (q++[i+j])=I k/\ks[j]? =I k:=by
 intro n
 induction n with
 |zero=>intro i ks h;cases h;exact⟨ab,nofun⟩
 |succ n au=>
  intro i ks h;refine h7 (o:=lB at_ (q++[i])) h λk h1 h=>h7 (o:=FK at_ q n (Nat.succ i)) h λYq h2 h=>?_;obtain⟨h3,bf⟩:=au h2;cases h;refine⟨by rw[gy,h3],λj bw=>?_⟩
  induction j using Nat.casesOn with
  |zero=>exact⟨k,h1,ab⟩
  |succ j=>
   obtain⟨c6,cP,eS⟩:=bf j (IX bw);exact⟨c6,by rw[<-cP,ajB];rfl,eS⟩
theorem sO:lW 0 m=(eP m).map λ(j:Nat)=>V.int (j:Int):=by
 unfold lW;rw[Se,Int.toNat_natCast];exact zR λj ae=>by rw[Sb]
theorem S3{cj:Option V}{w:V}{m:Nat}(F:fX σ self kk dd dI cn hl)(Gf:q.length<=100)(Gp:m<=30)(kH:ks.length=m)(ao:∀j,j<m->∃k,lB at_ (q++[0+j])=I k/\ks[j]? =I k)(cC:σ[cn]? =I o)(nd:jH ρ at_ o) :
  gw (av d) (e0 jC) (eO jC) (eZ jC) (bM jC) (.vals (lW 0 m)) kW.names [I (.ref self),I (.int i),I (gM q),I w,cj,U,U,U,U,U] σ=.ok (.ref σ.length) (σ++[O.list (c8 ρ ks)]):=by
 have Z2:(eP m).map (λj=>V.ref (ad ρ (ks.getD j 0)))=c8 ρ ks:=by
  rw[<-kH];unfold c8;refine List.ext_getElem (by rw[c3,c3,k2]) λj h1 h2=>?_;rw[aj9,aj9,I6,w6,iw (by rw[c3]at h2;exact h2)];rfl
 rw[<-Z2];refine u4 (X:=Nat) (xs:=eP m) (g:=λj=>V.int (j:Int)) (L:=λo=>[U,o.map λj=>V.int (j:Int),I (gM q),I (.ref self)]) ab ?_ agO (agP ..) (by rw[k2];exact b7 Gp (by decide +kernel)) (λae az=>agR ..) (agN _) λj bw=>?_
 ·rw[sO];exact jO
 ·have bw:=Dw.mp bw;refine aE λkk=>?_;obtain⟨y,bL,ZU⟩:=ao j bw;refine kk ?_;rw[agQ,w6,ZU];replace bL:=(lM ..) ▸ bL;refine(aN F.at).trans ((aN (a:=gM (q++[j])) (af:=σ) ?_).trans ((aN (HK cC nd bL)).trans ab));refine(?_:(if (q.map qf).length+[V.int (j:Int)].length<=bz then pure (V.tup (q.map qf++[V.int j])) else M.bad:M V) σ=_);rw[bj (by rw[c3];exact b7 (ajO Gf 1) (by decide +kernel))];unfold gM;rw[h0];rfl
theorem adM{f:qM}(h:ze f n=ak):n<=30:=by
 induction f with
 |num z=>rw[(beq_iff_eq.mp h:n=0)];decide
 |fT z=>rw[(beq_iff_eq.mp h:n=0)];decide
 |make z=>exact qS (xb.mp h).2
 |get z=>rw[(beq_iff_eq.mp h:n=1)];decide
 |put z=>rw[(beq_iff_eq.mp h:n=2)];decide
 |call=>exact qS h
theorem Lz{f:α->bW bN}{o:Option α}{b:bN}{C:Prop}(h:dT o f=.ok b cJ)(k:∀a,o=I a->f a=.ok b cJ->C):C:=by
 induction o with
 |none=>cases h
 |some a=>exact k a ab h
inductive Rb(φ:Nat->Str)(σ:aq)(ρ:List Nat)(cn:Nat)(at_:gG)(G:bq)(v:V)(af:aq):Prop
 |mk(aA:List Nat)(o:O)(h2:gi ρ aA)(h3:bD φ af aA G)(bf:af[cn]? =some o)(cP:jH aA at_ o)(eS:hq cn σ af):Rb φ σ ρ cn at_ G v af
noncomputable abbrev r9:=Option V×Option V×Option V×Option V
noncomputable def GZ(self:Nat)(s:r9):Loc:=[I (.ref self),s.1,s.2.1,s.2.2.1,s.2.2.2,U,U,U,U,U]
inductive Ra(φ:Nat->Str)(self:Nat)(σ:aq)(ρ:List Nat)(cn:Nat)(at_:gG)(G:bq):a6×Loc->aq->Prop
 |mk{af:aq}(aA:List Nat)(o:O)(s:r9)(h2:gi ρ aA)(h3:bD φ af aA G)(bf:af[cn]? =some o)(cP:jH aA at_ o)(eS:hq cn σ af):Ra φ self σ ρ cn at_ G (.next,GZ self s) af
theorem aaE{b:cG}{at':gG}{s:r9}(c:cW φ)(kG:∀p,kn=I p->p.1.length<=30)(fD:i4 n b=ak)(aP:Ey kn ins b q at_ G=.ok at' cJ)(Gf:q.length<=100)
  (g:bD φ σ ρ G) (aR:∀k∈ins,k<ρ.length) (F:fX σ self kk dd dI cn (gk φ n b)) (K:nu φ σ kk kn) (pj:σ[dI]? =I (.list (c8 ρ ins))) (cC:σ[cn]? =I o) (nd:jH ρ at_ o) (yv:0<cn) (nf:at_.length<=1000) :
  at'.length=at_.length+1/\Wp σ (bindTo (stLoc kW.names) (cy sh) (.tup [.int i,gM q]) (GZ self s)>>=cm (av (d+15)) (bU sh) kW.names) (Ra φ self σ ρ cn at' cJ):=by
 refine Lz aP λrW fm aP=>Lz aP λks i6 aP=>CE aP λt C8 aY aP=>?_;cases aP;refine⟨ab,aE λkk=>?_⟩;obtain⟨_,cz,aO,m,rfl,hm,adO⟩:=S9 (φ:=φ) (σ:=σ) (d:=d+13) fD fm;have Gp:rW.parts.length<=30:=adM (vf hm).1;refine kk (fJ (agM ..) (aG F.adh (aG aO ?_)));have c7:=DU (φ:=φ) (σ:=cz) (d:=d+14) hm;have eN:(V.int ((rW.parts.map (gk φ m)).length:Int))=.int (rW.parts.length:Int):=by rw[c3]
 refine aG c7 (aG (oT b2) ?_);rw[eN];refine aG (nK (uX (b7 ‹rW.parts.length<=30› (by decide)))) ?_;have Cw:d3 σ (cz++[O.list (rW.parts.map (gk φ m))]):=adO.new;generalize cz++[O.list (rW.parts.map (gk φ m))]=eQ at Cw;have gr:bx σ eQ:=Cw.nU;have ju:=Ys i6;have ZW:∀k∈ks,k<ρ.length:=λk ao=>by
  refine aE λkk=>?_;obtain⟨j,bw⟩:=R7 ao;obtain⟨c6,h1,h2⟩:=ju.2 j (ju.1 ▸ dy bw);refine kk ?_;replace h2:=(bw ..) ▸ h2;cases h2;exact nd.lt _ (Pu h1)
 refine aG (S3 (F.le gr) Gf Gp ju.1 ju.2 (Cw.at cC) nd) ?_;have gB:bx σ (eQ++[O.list (c8 ρ ks)]):=gr.new;have zD:=F.le gB;refine aG (zD.tag ab) ?_;rw[mW (full := "Found.taken") (by decide +kernel)];have w:=SO (ps:=rW.parts.map (gk φ m)) (f:=rW.yK) (kn:=kn) (now:=i) (d:=d) c ((Cw.b5 g).push (o:=.list (c8 ρ ks))) zD (K.le gB) kG (gB.list pj) aR b2 ZW (by rw[c3];exact(vf hm).1) (by rw[c3];exact ju.1);rw[aY]at w;refine Wp.step (w:Wp _ _ _) λv d0 aU=>aE λkk=>?_;obtain⟨sy,BH,rfl,Zs⟩:=aU;have FF:bx σ d0:=gB.trans BH.le;have yY:d0[cn]? =I o:=FF.at_ cC nd.x7.1;obtain⟨o',bg,hE⟩:=adJ (q:=q) (x:=t) yY (nd.ext BH.ext) yv Zs nf;exact kk (aG (F.le FF).at (aG (m:=setItem _ _ _) bg (cD (.mk sy o' (_,_,_,_) BH.ext (BH.b5.set yY nd.x7.1 nd.x7.2.1) (fg yY) hE (FF.l1.trans .set)))))
inductive Rc(φ:Nat->Str)(kn:Known)(ins:List Nat)(b:cG)(σ:aq)(ρ:List Nat)(self cn:Nat)(wq:gG)(wQ:bq)(dF:List Place)(i:Nat)(loc:Loc)(af:aq):Prop
 |mk(at_:gG)(G:bq)(aA:List Nat)(o:O)(s:r9)(e:loc=GZ self s)(h1:GX kn ins b dF at_ G=.ok wq wQ)(h2:gi ρ aA)(h3:bD φ af aA G)(bf:af[cn]? =some o)(cP:jH aA at_ o)(eS:hq cn σ af)(ml:at_.length=i)(vZ:i<=1000):Rc φ kn ins b σ ρ self cn wq wQ dF i loc af
theorem S4{b:cG}{wq:gG}{wQ:bq}(c:cW φ)(kG:∀p,kn=I p->p.1.length<=30)(fD:i4 n b=ak)(aM:n<=100)(hlen:(eg n b).length<=1000)(aP:GX kn ins b (eg n b) [] G=.ok wq wQ)
  (g:bD φ σ ρ G) (aR:∀k∈ins,k<ρ.length) (F:fX σ self kk dd dI cn (gk φ n b)) (K:nu φ σ kk kn) (pj:σ[dI]? =I (.list (c8 ρ ins))) (BD:σ[dd]? =I (.list ((eg n b).map gM))) (vP:σ[cn]? =I (.dict 0 [])) (dD:kk≠cn) (yv:0<cn) :
  Wp σ (aX (d+16) "Found.go" [.ref self]) (Rb φ σ ρ cn wq wQ):=by
 rw[agL];refine aG F.order (aG (Ln BD) (Cz (l:=((eg n b).map gM).mapIdx λ(i:Nat) x=>V.tup [.int i,x]) (J:=λaC=>aC[dd]? =I (.list ((eg n b).map gM))) agK (Js λae h=>h)
  (λi loc af=>Rc φ kn ins b σ ρ self cn wq wQ ((eg n b).drop i) i loc af)
  (λi loc af aU=>by obtain⟨_,_,_,_,_,_,_,_,_,_,_,le,_,_⟩:=aU;exact le.Bb vP BD) ⟨[],G,ρ,_,(U,U,U,U),ab,aP,.refl,g,vP,⟨.nil ab,nofun⟩,.refl,ab,iu _⟩ (λi u loc c4 cF aU=>?_) λloc c4 aU=>?_))
 ·refine aE λkk=>?_;obtain⟨at_,kZ,sz,o,s,rfl,mf,qw,g1,cC,nd,dU,nf,Nu⟩:=aU;replace cF:=(ajx ..) ▸ (ki ..) ▸ (R8 ..) ▸ cF;obtain⟨q,aL,rfl⟩:=hr.mp cF;replace mf:=(wd aL ..) ▸ mf;refine CE (r:=Ey kn ins b q at_ kZ) mf λat' cJ aD mf=>?_;obtain⟨ZT,w⟩:=aaE (d:=d) (i:=i) (s:=s) c kG fD aD (b7 (Lr q (g4 aL)) aM) g1 (λk ao=>di (aR k ao) qw.len) (F.l1 dU vP) (K.l1 dU dD) (by rw[x8 qw aR];exact dU.Bb vP pj) cC nd yv (nf ▸ Nu);refine kk (Wp.mono (w:Wp c4 (bindTo _ _ (.tup [.int i,gM q]) _>>=_) _) λr d0 aU=>?_)
  induction aU with
  |mk sy o' s abF ic yY ZH iB=>exact⟨at',cJ,sy,o',s,ab,mf,qw.trans abF,ic,yY,ZH,dU.trans iB,by rw[ZT,nf],b7 (dy aL) hlen⟩
 ·refine aE λkk=>?_;obtain⟨at_,kZ,sz,o,s,rfl,mf,qw,g1,cC,nd,dU,nf,Nu⟩:=aU;replace mf:=(Dz ..) ▸ (c3 ..) ▸ (R6 ..) ▸ mf;cases mf;exact kk (fJ (agS ..) (cD ⟨sz,o,qw,g1,cC,nd,dU⟩))
end
section
variable {φ:Nat->Str}{β σ af eF aC:aq}{ρ aA e3:List Nat}{G cJ:bq}{d i j k kb l n m t x one other now many:Nat}{v:V}{α bN:Type}{ls done ks ins:List Nat}{o:O}{kn:Known}
variable {self kk dd dI cn gc:Nat}{body hl:V}{ps:List V}{q:Place}{at_:gG}
noncomputable def v8(a:V):List (Str×V):=[("known",a)]
noncomputable def v7(a b:V):List (Str×V):=[("known",a),("body",b)]
noncomputable def tH(a b c:V):List (Str×V):=[("known",a),("body",b),("order",c)]
noncomputable def qv(a b c e:V):List (Str×V):=[("known",a),("body",b),("order",c),("inputs",e)]
theorem abd{a:V}:hH [] "known" a=v8 a:=rfl
theorem abc{a b:V}:hH (v8 a) "body" b=v7 a b:=rfl
theorem abb{a b c:V}:hH (v7 a b) "order" c=tH a b c:=rfl
theorem aba{a b c e:V}:hH (tH a b c) "inputs" e=qv a b c e:=rfl
theorem aa9{a b c e f:V}:hH (qv a b c e) "at" f=tG a b c e f:=rfl
theorem rl{C:Cfg}{c nm:Str}{l l':List (Str×V)}{u:V}{ms:List Str×List Str}(ax:σ[n]? =I (.inst c j))(aO:σ[j]? =I (.bI l))(aV:0<j)(ay:C.cls c=I ms)(hm:ms.2.contains nm=ak)(aj:l.length<bz)(aD:hH l nm u=l'):d5 C nm u (.ref n) σ=.ok () (σ.set j (.bI l')):=by
 subst aD;exact Az ax aO aV ay hm aj
def Rg(φ:Nat->Str)(σ:aq)(kk many:Nat)(v:V)(os:List Place)(r:V)(af:aq):Prop:=(Rm λself dd dI cn ρ=>Ry (r=.ref self) (fX af self kk dd dI cn v) (af[dd]? =I (.list (os.map gM))) (af[dI]? =I (.list (c8 ρ (eP many)))) (af[cn]? =I (.dict 0 [])) (σ.length<=cn) (0<cn) (bD φ af ρ (uJ many o2)) (bx σ af))
theorem D8:(uJ i o2).len=i:=by
 induction i with
 |zero=>rfl
 |succ i au=>rw[show uJ (i+1) o2=ps (uJ i o2) (.eu .gK U) from ab,sR,au]
theorem bD.no(h:0<σ.length):bD φ σ [] o2:=⟨ab,by decide,nofun,λ{i a7} e=>by rw[show gt o2 i=U from get_nil]at e;exact bh e,λi a7 e=>by rw[show gt o2 i=U from get_nil]at e;exact bh e,nofun,λi a7 e=>by rw[show gt o2 i=U from get_nil]at e;exact bh e,h⟩
inductive Q8(φ:Nat->Str)(many:Nat)(β:aq)(r:List Nat)(acc:List V)(σ:aq):Prop
 |mk(ρ:List Nat)(i:Nat)(aR:i+r.length=many)(bu:acc=c8 ρ (eP i))(g:bD φ σ ρ (uJ i o2))(le:bx β σ):Q8 φ many β r acc σ
theorem S5{b:cG}(fD:i4 n b=ak)(aM:n<=100)(hlen:(eg n b).length<=1000)(aV:0<σ.length)(hm:many<=30):Wp σ (fv (av (d+n+3)) "Found" [.ref kk,.int many,gk φ n b]) (Rg φ σ kk many (gk φ n b) (eg n b)):=by
 show Wp σ (s3 "Found" >>= λo=>aX (d+n+3) (jr "Found" "__init__") [o,.ref kk,.int many,gk φ n b]>>=λr=>vC r (cv o)) _;refine aG (m:=s3 _) ab ?_;rw[show jr "Found" "__init__" = "Found.__init__" by decide +kernel,agD];have me:bz=16777216:=rfl;generalize aK:gk φ n b=v;have l8:(σ++[O.bI [],.inst "Found" σ.length]:aq)[σ.length+1]? =I (.inst "Found" σ.length):=q2.2;have f0:(σ++[O.bI [],.inst "Found" σ.length]:aq)[σ.length]? =I (.bI []):=q2.1;have vq:bx σ (σ++[O.bI [],.inst "Found" σ.length]):=.two;generalize (σ++[O.bI [],.inst "Found" σ.length]:aq)=kl at l8 f0 vq ⊢;have ne:σ.length≠σ.length+1:=by exact fZ (jK _)
 refine Wp.step (P:=λr af=>r=.none/\Rg φ σ kk many v (eg n b) (.ref (σ.length+1)) af) ?_ λr af aU=>by obtain⟨aP,q⟩:=aU;subst aP;exact cD q
 refine aG (rl l8 f0 aV od (by decide +kernel) (by decide +kernel) abd) ?_;have cL:=ea (o':=.bI (v8 (.ref kk))) ne l8;have f1:=fg (o':=.bI (v8 (.ref kk))) f0;have hy:=vq.hQ (k:=σ.length) (o:=.bI (v8 (.ref kk))) (cI _);refine aG (rl cL f1 aV od (by decide +kernel) (show 1<bz by decide +kernel) abc) ?_;have df:=ea (o':=.bI (v7 (.ref kk) v)) ne cL;have f2:=fg (o':=.bI (v7 (.ref kk) v)) f1;have iR:=hy.hQ (k:=σ.length) (o:=.bI (v7 (.ref kk) v)) (cI _);obtain⟨_,eQ,c7,dd,rfl,mr,ap⟩:=SX (φ:=φ) (σ:=(kl.set σ.length (.bI (v8 (.ref kk)))).set σ.length (.bI (v7 (.ref kk) v))) (d:=d+1) fD (b7 hlen (by decide)) (b7 aM (by decide));rw[aK,show d+1+n+1=d+n+2 by exact lO (fk 0x209480004250848000020 ab) (fk 0x10942120000104A400020 ab)]at c7;refine aG c7 ?_;have vD:=ap.at df;have BY:=ap.at f2;have Yo:=iR.trans ap.nU;clear l8 f0 vq cL f1 hy df f2 iR ap;refine aG (rl vD BY aV od (by decide +kernel) (show 2<bz by decide +kernel) abb) ?_;have Bl:=ea (o':=.bI (tH (.ref kk) v (.ref dd))) ne vD;have f4:=fg (o':=.bI (tH (.ref kk) v (.ref dd))) BY;have FJ:=Yo.hQ (k:=σ.length) (o:=.bI (tH (.ref kk) v (.ref dd))) (cI _);have LV:=ea (k:=σ.length) (o':=.bI (tH (.ref kk) v (.ref dd))) (λq=>by subst q;replace mr:=(BY ..) ▸ mr;cases mr) mr;generalize (eQ.set σ.length (.bI (tH (.ref kk) v (.ref dd))):aq)=fA at Bl f4 FJ LV ⊢;have rm:0<fA.length:=di aV FJ.len;refine aG (nK (i:=many) (uX (b7 hm (by decide)))) (HS (X:=Nat) (xs:=eP many) (g:=λj=>V.int (j:Int)) (L:=λo=>[U,o.map λj=>V.int (j:Int),U]) (J:=λae=>True) ab (by rw[sO];exact jO) agF (agG ..) (by rw[k2];exact b7 hm (by decide +kernel)) (λae az=>agI ..) (agE _)
  (Q8 φ many fA) (λae=>aS) (.mk [] 0 (by rw[k2,lM]) ab (.no rm) .refl) (λx r acc af aI aU=>aE λkk=>?_) λout d0 aU=>aE λkk=>?_)
 ·obtain⟨ρ,i,aR,rfl,g,le⟩:=aU;have aj:ρ.length=i:=by rw[g.len,D8]
  replace aR:=(gy ..) ▸ aR;obtain⟨x,c4,ax,g1,dU⟩:=DS (d:=d+n) g (by rw[D8];exact fz (b7 (Nat.le.intro aR) hm) (by decide));refine kk (fJ (agH ..) (aG (m:=aX _ _ _) ax (cD (.mk (ρ++[x]) (i+1) (by lia) ?_ g1 (le.trans dU)))));rw[ajT];unfold c8;rw[h0,List.map_singleton,<-aj,Cx];congr 1;exact(zR λk ao=>by rw[qE (Dw.mp ao)]).symm
 ·obtain⟨ρ,i,aR,rfl,g,le⟩:=aU;replace aR:i=many:=aR;subst aR;refine kk ?_;clear kk;have nY:=cK (o':=.list (c8 ρ (eP i))) (le.at_ Bl ab);have tI:=cK (o':=.list (c8 ρ (eP i))) (le.at_ f4 ab);have Mv:=(FJ.trans le).new (o:=.list (c8 ρ (eP i)));have sX:=cK (o':=.list (c8 ρ (eP i))) (le.list LV);have yb:(d0++[O.list (c8 ρ (eP i))]:aq)[d0.length]? =I (.list (c8 ρ (eP i))):=b2;have ic:=g.push (o:=.list (c8 ρ (eP i)));generalize (d0++[O.list (c8 ρ (eP i))]:aq)=z0 at nY tI Mv sX yb ic ⊢;refine aG (rl nY tI aV od (by decide +kernel) (show 3<bz by decide +kernel) aba) ?_;have nX:=ea (o':=.bI (qv (.ref kk) v (.ref dd) (.ref d0.length))) ne nY;have yN:=fg (o':=.bI (qv (.ref kk) v (.ref dd) (.ref d0.length))) tI;have Bg:=Mv.hQ (k:=σ.length) (o:=.bI (qv (.ref kk) v (.ref dd) (.ref d0.length))) (cI _);have x1:=ea (k:=σ.length) (o':=.bI (qv (.ref kk) v (.ref dd) (.ref d0.length))) (λq=>by subst q;replace sX:=(tI ..) ▸ sX;cases sX) sX;have ya:=ea (k:=σ.length) (o':=.bI (qv (.ref kk) v (.ref dd) (.ref d0.length))) (λq=>by replace yb:=(tI ..) ▸ (oD (q ..)) ▸ yb;cases yb) yb;have lr:=ic.set (o':=.bI (qv (.ref kk) v (.ref dd) (.ref d0.length))) tI ab nofun;generalize (z0.set σ.length (.bI (qv (.ref kk) v (.ref dd) (.ref d0.length))):aq)=uz at nX yN Bg x1 ya lr ⊢;have G7:=cK (o':=.dict 0 []) yN;have ZK:σ.length≠uz.length:=by have:=dy yN;exact fZ this
  refine aG (m:=bP _) ab (aG (rl (cK nX) G7 aV od (by decide +kernel) (show 4<bz by decide +kernel) aa9) (cD ⟨ab,?_⟩));have fin:∀{k:Nat}{o:O},uz[k]? =I o->σ.length≠k->((uz++[O.dict 0 []]:aq).set σ.length (.bI (tG (.ref kk) v (.ref dd) (.ref d0.length) (.ref uz.length))))[k]? =I o:=λe ao=>ea ao (cK e);refine⟨σ.length+1,dd,d0.length,uz.length,ρ,ab,⟨σ.length,fin nX ne,fg G7⟩,fin x1 (λq=>by replace x1:=(yN ..) ▸ (oD (q ..)) ▸ x1;cases x1),fin ya (λq=>by replace ya:=(yN ..) ▸ (oD (q ..)) ▸ ya;cases ya),ea ZK b2,Bg.len,di aV Bg.len,lr.push.set G7 ab nofun,Bg.new.hQ (cI _)⟩
end
noncomputable def oM(a b:V):List (Str×V):=[("met",a),("knots",b)]
structure iG(σ:aq)(dg j ck:Nat)(met:List V)(b6:Nat):Prop where
 i:σ[dg]? =I (.inst "Teller" j)
 f:σ[j]? =I (.bI (oM (.ref ck) (.int b6)))
 m:σ[ck]? =I (.list met)
 yi:0<j
 iC:0<ck
noncomputable def L4:List Str×List Str:=(["__init__", "number", "told"],["met", "knots"])
section
variable {φ:Nat->Str}{β σ af eF aC:aq}{ρ aA e3:List Nat}{G cJ:bq}{d i j k kb l n m t x dg ck b6 deep:Nat}{v:V}{α bN:Type}{ms kA ks ins:List Nat}{o:O}{met:List V}{X:List Nat}
theorem wh:(av d).cls "Teller" = I L4:=rfl
theorem bD.s9(g:bD φ σ ρ G)(aj:σ.length<=af.length)(le:bZ X σ af)(tw:∀k∈X,∀o,σ[k]? =I o->rB o=aH/\∀c j,o≠.inst c j):bD φ af ρ G:=⟨g.len,g.hG,g.inj,g.lt,g.wf,g.ex,λn a7 q=>by
 obtain⟨k,u,e,aV,ax,aO⟩:=g.at_ n a7 q;refine⟨k,u,e,aV,le _ _ (λhm=>?_) ax,le _ _ (λhm=>?_) aO⟩
 ·exact(tw _ hm _ ax).2 _ _ ab
 ·have:=(tw _ hm _ aO).1;rw[BX]at this;exact nE this,di g.pos aj⟩
theorem iG.bad(h:iG σ dg j ck met b6):∀k∈[j,ck],∀o,σ[k]? =I o->rB o=aH/\∀c j,o≠.inst c j:=λk ao o e=>by
 rcases cY.mp ao with q|ao
 ·subst q;replace e:=(h.f ..) ▸ e;cases e;exact⟨ab,nofun⟩
 ·have q:=bT.mp ao;subst q;replace e:=(h.m ..) ▸ e;cases e;exact⟨ab,nofun⟩
theorem iG.ne(h:iG σ dg j ck met b6):j≠ck/\dg≠j/\dg≠ck:=⟨λq=>(by have:=h.f;replace this:=(h.m ..) ▸ (q ..) ▸ this;cases this),λq=>(by have:=h.i;replace this:=(h.f ..) ▸ (q ..) ▸ this;cases this),λq=>(by have:=h.i;replace this:=(h.m ..) ▸ (q ..) ▸ this;cases this)⟩
theorem iG.Fu(h:iG σ dg j ck met b6):cc (av d) "met" (.ref dg) σ=.ok (.ref ck) σ:=nL h.i h.f wh (by decide +kernel) ab
theorem iG.Mw(h:iG σ dg j ck met b6):cc (av d) "knots" (.ref dg) σ=.ok (.int b6) σ:=nL h.i h.f wh (by decide +kernel) ab
theorem iG.ap(h:iG σ dg j ck met b6)(a:∀{k:Nat}{o:O},σ[k]? =I o->af[k]? =I o):iG af dg j ck met b6:=⟨a h.i,a h.f,a h.m,h.yi,h.iC⟩
theorem iG.Ap{hA:Nat}(h:iG σ dg j ck met b6):d5 (av d) "knots" (.int hA) (.ref dg) σ=.ok () (σ.set j (.bI (oM (.ref ck) (.int hA))))/\iG (σ.set j (.bI (oM (.ref ck) (.int hA)))) dg j ck met hA/\bZ [j,ck] σ (σ.set j (.bI (oM (.ref ck) (.int hA)))):=by
 refine aE λkk=>?_;obtain⟨e5,n2,iQ⟩:=h.ne;refine kk ?_;exact⟨rl h.i h.f h.yi wh (by decide +kernel) (by refine(?_:2<bz);decide +kernel) ab,⟨ea n2.symm h.i,fg h.f,ea e5 h.m,h.yi,h.iC⟩,bZ.set b8 .refl⟩
theorem iG.tag{nm:Str}(h:iG σ dg j ck met b6)(aM:(L4.1.contains nm&&((oM (.ref ck) (.int b6)).lookup nm).isNone)=ak):c1 (dP (av d) (.ref dg) nm) σ=.ok (.own "Teller") σ:=Lc h.i h.f wh aM
theorem ym{y:Nat}:qk (y::ms) x k=Bool.rec (qk ms x (Nat.succ k)) (I k) (Nat.beq y x):=rfl
theorem F5:∀{ms:List Nat}{k:Nat},(qk ms x k).isSome=mem ms x:=by
 intro ms
 induction ms with
 |nil=>intro k;rfl
 |cons y r au=>
  intro k;rw[ym,Fv,<-au (k:=Nat.succ k)];cases Nat.beq y x <;> rfl
theorem Tf(g:bD φ σ ρ G)(aI:x<G.len):∀{ms:List Nat}{k i:Nat},(∀m∈ms,m<G.len)->qk ms x k=I i->sD σ (.ref (ad ρ x)) (c8 ρ ms) k=I i:=by
 intro ms
 induction ms with
 |nil=>intro k i _ h;exact bh h
 |cons m ms au=>
  intro k i hm h;refine aE λkk=>?_;obtain⟨_,_,aO⟩:=g.inst aI;obtain⟨_,_,ax⟩:=g.inst (hm m b8);refine kk ?_;refine(?_:(match eG σ (.ref (ad ρ m)) (.ref (ad ρ x)) with|some true=>I k|some false=>sD σ (.ref (ad ρ x)) (c8 ρ ms) (k+1)|none=>U)=_);rw[z8 ax aO,Cs g (hm m b8) aI];rw[ym]at h
  revert h
  induction Nat.beq m x with
  |true=>exact id
  |false=>exact au λm m9=>hm m (da _ m9)
theorem Y9:∀{ms:List Nat}{k:Nat},qk ms x k=U->qk (ms++[x]) x k=I (k+ms.length):=by
 intro ms
 induction ms with
 |nil=>intro k _;rw[I2,ym,mw ab];rfl
 |cons y r au=>
  intro k h;rw[ym]at h;rw[R9,ym]
  revert h
  induction Nat.beq y x with
  |true=>intro h;cases h
  |false=>
   intro h;refine(au h).trans ?_;rw[gy,ajB];rfl
def ahc(G:bq)(ms:List Nat):Prop:=∀m∈ms,m<G.len
structure mC where
 φ:Nat->Str
 ρ:List Nat
 G:bq
 dg:Nat
 j:Nat
 ck:Nat
structure eJ(T:mC)(β:aq)(ms:List Nat)(b6:Nat)(σ:aq):Prop where
 tell:iG σ T.dg T.j T.ck (c8 T.ρ ms) b6
 o4:ahc T.G ms
 b5:bD T.φ σ T.ρ T.G
 le:bZ [T.j,T.ck] β σ
 len:β.length<=σ.length
section
variable {T:mC}
theorem eJ.ap(h:eJ T β ms b6 σ)(a:d3 σ af):eJ T β ms b6 af:=⟨h.tell.ap λe=>a.at e,h.o4,a.b5 h.b5,λn o aM e=>a.at (h.le n o aM e),b7 h.len a.len⟩
theorem eJ.self(h:eJ T β ms b6 σ):eJ T σ ms b6 σ:=⟨h.tell,h.o4,h.b5,.refl,cI _⟩
theorem eJ.since{hA:Nat}(h:eJ T β ms b6 σ)(h':eJ T σ kA hA af):eJ T β kA hA af:=⟨h'.tell,h'.o4,h'.b5,h.le.trans h'.le,b7 h.len h'.len⟩
theorem LW(h:eJ T β ms b6 σ)(aI:x<T.G.len)(aR:qk ms x 0=I i):Ic d (.ref T.dg) (.ref (ad T.ρ x)) σ=.ok (.int i) σ:=
 (aN h.tell.Fu).trans ((aN (jk h.tell.m ab)).trans ((aN (Wu (j:=i) h.tell.m (by rw[DX h.b5 aI h.o4,<-F5 (k:=0),aR];rfl) (Tf h.b5 aI h.o4 aR))).trans ab))
theorem eJ.add(h:eJ T β ms b6 σ)(aI:x<T.G.len):eJ T β (ms++[x]) b6 (σ.set T.ck (.list (c8 T.ρ ms++[.ref (ad T.ρ x)]))):=by
 refine aE λkk=>?_;obtain⟨e5,n2,iQ⟩:=h.tell.ne;refine kk ?_;refine⟨⟨ea iQ.symm h.tell.i,ea e5.symm h.tell.f,?_,h.tell.yi,h.tell.iC⟩,λm hm=>?_,h.b5.oR h.tell.m,h.le.set (da _ b8),by rw[kB];exact h.len⟩
 ·rw[fg h.tell.m];unfold c8;rw[h0];rfl
 ·exact(hs.mp hm).elim (h.o4 m) λhm=>by rw[bT.mp hm];exact aI
theorem Jx{p:Nat×List Nat}(h:eJ T β ms b6 σ)(aI:x<T.G.len)(hp:x2 ms x=I p):Wp σ (aX (d+1) "Teller.number" [.ref T.dg,.ref (ad T.ρ x)]) (fy (.int p.1) (eJ T β p.2 b6)):=by
 rw[age];refine aG h.tell.Fu (aG (EY h.tell.m (DX h.b5 aI h.o4)) (aG (m:=truth _) ab ?_));unfold x2 at hp
 induction aR:qk ms x 0 with
 |some i=>
  replace hp:=(aR ..) ▸ hp;cases hp;exact hN (by rw[<-F5 (k:=0),aR];rfl) ⟨_,_,LW h aI aR,.mk h⟩
 |none=>
  replace hp:=(aR ..) ▸ hp;refine EW (c:=Nat.ble ms.length 99) hp λaj hp=>?_;replace aj:=sq (nx aj);cases hp;refine hM (by rw[<-F5 (k:=0),aR];rfl) (aG h.tell.Fu (aG (jk h.tell.m ab) (aG (k8 h.tell.m h.tell.iC (by unfold c8;rw[c3];exact w1 aj (by decide +kernel))) ⟨_,_,LW (h.add aI) aI ?_,.mk (h.add aI)⟩)));have ao:=Y9 aR;replace ao:=(lM ..) ▸ ao;exact ao
end
end
inductive C7(X:List Nat)(β:aq)(e:V)(σ:aq):Prop
 |mk(n:Nat)(h1:e=.ref n)(h2:σ[n]? =some (.exc "TooGreat"))(h3:bZ X β σ)(bf:β.length<=σ.length):C7 X β e σ
inductive Rd{α:Type}(X:List Nat)(β:aq)(r:dr α)(e:V)(σ:aq):Prop
 |mk(h:r=.great)(g:C7 X β e σ):Rd X β r e σ
inductive Iu{α bN:Type}(r:dr α)(Q:α->bN->aq->Prop)(b:bN)(σ:aq):Prop
 |mk(a:α)(h:r=.ok a)(q:Q a b σ):Iu r Q b σ
def fW{α bN:Type}(X:List Nat)(β σ:aq)(r:dr α)(m:M bN)(Q:α->bN->aq->Prop):Prop:=r≠.bad->cf (Rd X β r) σ m (Iu r Q)
section
variable {φ:Nat->Str}{β σ af eF aC:aq}{ρ aA e3:List Nat}{G cJ:bq}{d i j k kb l n m t x dg ck b6 deep:Nat}{v:V}{α p0 bN uA:Type}{ms kA ks ins ls:List Nat}{o:O}{met:List V}{X Y:List Nat}{fs:Row}
section
variable {r:dr α}{f:α->dr p0}{m:M bN}{k:bN->M uA}{P:α->bN->aq->Prop}{Q:p0->uA->aq->Prop}
theorem hn{r:dr p0}{b:bN}(h:m σ=.ok b af)(ao:fW X β af r (k b) Q):fW X β σ r (m>>=k) Q:=λnb=>cQ h (ao nb)
theorem fW.bind(h:fW X β σ r m P)(ao:∀a b af,P a b af->fW X β af (f a) (k b) Q):fW X β σ (r.bind f) (m>>=k) Q:=λnb=>by
 induction r with
 |ok a=>exact cf.step ((h nofun).mono (λae az h=>h) λe af h=>by obtain⟨h,_⟩:=h;cases h) λb af aU=>by obtain⟨wt,e,q⟩:=aU;cases e;exact ao a b af q nb
 |great=>
  refine aE λkk=>?_;rcases(h nofun) with ⟨b,af,e,a,h,_⟩|⟨e,af,q,h,g⟩
  ·cases h
  ·refine kk ?_;exact nj (e1 q) ⟨ab,g⟩
 |bad=>exact(nb ab).elim
theorem wB{h4:Type}{o:Option h4}{f:h4->dr α}(h:∀a,o=I a->fW X β σ (f a) m P):fW X β σ (.opt o f) m P:=by
 induction o with
 |none=>exact λnb=>(nb ab).elim
 |some a=>exact h a ab
theorem ad0{a:α}{b:bN}(h:P a b σ):fW X β σ (.ok a) (cv b:M bN) P:=λae=>ja ⟨a,ab,h⟩
theorem ad1{b:Bool}{n:M bN}(h:b=aH)(ao:fW X β σ r m P):fW X β σ r (M.cond b n m) P:=by subst h;exact ao
theorem PS{s s':Str}{n:M bN}(h:(s==s')=aH)(ao:fW X β σ r n P):fW X β σ r (cmp .Eq (.str s) (.str s')>>=λt=>truth t>>=λb=>M.cond b m n) P:=hn k7 (hn (m:=truth _) ab (ad1 h ao))
theorem CD{a:α}(h:Wp σ m (P a)):fW X β σ (.ok a) m P:=λae=>(h.mono λb af q=>(⟨a,ab,q⟩:Iu (.ok a) P b af)).oH
theorem fW.lift(h:fW X σ σ r m P)(le:bZ X β σ)(aj:β.length<=σ.length):fW X β σ r m P:=λnb=>(h nb).mono (λae az h=>h) λe af aU=>by
 obtain⟨h,n,h1,h2,h3,bf⟩:=aU;exact⟨h,n,h1,h2,le.trans h3,b7 aj bf⟩
theorem PR{Q:α->bN->aq->Prop}(le:bZ X β σ)(aj:β.length<=σ.length):fW X β σ .great (bP (.exc (aB "TooGreat"))>>=λe=>(uO (aB "TooGreat") e:M bN)) Q:=λae=>by
 refine nj (e:=.ref σ.length) (af:=σ++[.exc (aB "TooGreat")]) ((aN (m:=bP _) ab).trans ?_) ⟨ab,_,ab,b2,le.new,b7 aj (by rw[dM];exact g0 ..)⟩;rw[J1,show excAt (σ++[O.exc (aB "TooGreat")]) σ.length=I (aB "TooGreat") by unfold excAt;rw[b2]];exact bj ab
theorem cf.Aa{E:V->aq->Prop}{Q:bN->aq->Prop}(h:cf E σ (m>>=λv=>cv v) Q):cf E σ m Q:=by
 rcases h with ⟨a,aC,e,q⟩|⟨a,aC,e,q⟩
 ·induction h:m σ with
  |ok b s=>have:=(aN h).symm.trans e;cases this;exact pI h q
  |exc b s=>have:=(e1 h).symm.trans e;cases this
  |bad=>have:=(cS h).symm.trans e;cases this
 ·induction h:m σ with
  |ok b s=>have:=(aN h).symm.trans e;cases this
  |exc b s=>have:=(e1 h).symm.trans e;cases this;exact nj h q
  |bad=>have:=(cS h).symm.trans e;cases this
end
theorem e2.s9{a q:Nat}(h:e2 φ q σ ρ a fs)(le:bZ X σ af)(bu:a∉X):e2 φ q af ρ a fs:=by
 obtain⟨v,e⟩:=h.at_;exact⟨⟨v,le _ _ bu e⟩,h.lo,h.lt⟩
theorem WI:(putN x ls).length=ls.length+1:=by
 induction ls with
 |nil=>rfl
 |cons y r au=>
  rw[E6]
  induction Nat.ble x y with
  |true=>rfl
  |false=>exact dR (· + 1) au
theorem Ks:(ew ls).length=ls.length:=by
 induction ls with
 |nil=>rfl
 |cons y r au=>
  refine(?_:(putN y (ew r)).length=_);rw[WI,au];rfl
noncomputable def yL(φ:Nat->Str)(p:Nat×a4):V:=.tup [.str (φ p.1),bV φ p.2]
variable {T:mC}
theorem eJ.Ap{hA:Nat}(h:eJ T β ms b6 σ):oy λ(c4:aq) (_:Unit)=>d5 (av d) "knots" (.int hA) (.ref T.dg) σ=.ok () c4/\eJ T β ms hA c4:=by
 refine aE λkk=>?_;obtain⟨s1,t1,hy⟩:=h.tell.Ap (d:=d) (hA:=hA);refine kk ?_;exact⟨_,(),s1,t1,h.o4,h.b5.s9 (by rw[kB];exact cI _) hy h.tell.bad,h.le.trans hy,by rw[kB];exact h.len⟩
theorem AD{a b:Int}:cmp .Gt (.int a) (.int b) σ=.ok (.bool (decide (b<a))) σ:=rfl
theorem JU{r:dr pJ}{Q:pJ->V->aq->Prop}(h:eJ T β ms b6 σ)
  (k:∀c4,eJ T β ms (b6+1) c4->fW [T.j,T.ck] β c4 r (M.cond (decide (200<b6+1) || decide (12<deep)) (bP (.exc (aB "TooGreat"))>>=λe=>(uO (aB "TooGreat") e:M V)) (Ib d (.ref T.dg) (.ref (ad T.ρ x)) (.int deep))) Q) :
  fW [T.j,T.ck] β σ r (aX (d+1) "Teller.told" [.ref T.dg,.ref (ad T.ρ x),.int deep]) Q:=by
 refine aE λkk=>?_;obtain⟨c4,_,s1,h1⟩:=h.Ap (d:=d) (hA:=b6+1);refine kk ?_;rw[af5];refine hn h.tell.Mw (hn (m:=binop _ _ _) (b:=.int ((b6+1:Nat):Int)) ab (hn s1 (hn (b:=decide (200<b6+1) || decide (12<deep)) (af:=c4) ?_ (k c4 h1))));refine(aN h1.tell.Mw).trans ((aN AD).trans ((aN (m:=truth _) ab).trans ?_));rw[JV (a:=200)]
 induction decide (200<b6+1) with
 |true=>rfl
 |false=>
  refine(?_:(cmp .Gt (.int (deep:Nat)) (V.int 12)>>=λUB=>truth UB>>=λadw=>M.cond adw (pure ak:M Bool) (pure aH:M Bool)) c4=_);refine(aN AD).trans ((aN (m:=truth _) ab).trans ?_);rw[JV (a:=12)];cases decide (12<deep) <;> rfl
inductive zm(T:mC)(β:aq)(n:Nat)(fs:Row)(R:dr (List (Nat×a4)×List Nat×Nat))(r:List Nat)(acc:List V)(σ:aq):Prop
 |mk(ks:List (Nat×a4))(ms:List Nat)(b6:Nat)(h:(oK (q5 n T.G) T.G fs r ms b6).bind (λq=>.ok (ks++q.1,q.2))=R)(cC:acc=ks.map (yL T.φ))(t:eJ T β ms b6 σ):zm T β n fs R r acc σ
theorem zm.le{R:dr (List (Nat×a4)×List Nat×Nat)}{r:List Nat}{acc:List V}(h:zm T β n fs R r acc af):bZ [T.j,T.ck] β af:=by
 induction h with
 |mk _ _ _ _ _ h=>exact h.le
theorem Fc{h4:Type}{o:Option h4}{f:h4->dr α}{g:α->dr p0}{R:dr p0}{C:Prop}(h:(dr.opt o f).bind g=R)(nb:R≠.bad)(k:∀a,o=I a->(f a).bind g=R->C):C:=by
 induction o with
 |none=>exact(nb h.symm).elim
 |some a=>exact k a ab h
theorem T8{F:Nat->List Nat->Nat->dr pJ}{R:dr (List (Nat×a4)×List Nat×Nat)}{ks:List (Nat×a4)}{C:Prop}(h:(oK F G fs (l::ls) ms b6).bind (λq=>.ok (ks++q.1,q.2))=R)(nb:R≠.bad)
  (c:∀t k,lk fs l=I t->lb G t=I k->F k ms b6≠.bad->(F k ms b6=.great->R=.great)->(∀p,F k ms b6=.ok p->(oK F G fs ls p.ms p.n).bind (λq=>.ok ((ks++[(l,p.k)])++q.1,q.2))=R)->C):C:=
 Fc (o:=lk fs l) h nb λt h1 h=>Fc (o:=lb G t) h nb λk h2 h=>by
  refine c t k h1 h2 (λe=>nb (by rw[e]at h;exact h.symm)) (λe=>by rw[e]at h;exact h.symm) λp e=>?_;rw[e]at h;replace h:((oK F G fs ls p.ms p.n).bind λq=>.ok ((l,p.k)::q.1,q.2)).bind (λq=>dr.ok (ks++q.1,q.2))=R:=h
  revert h
  induction oK F G fs ls p.ms p.n with
  |ok q=>intro h;rw[<-h];refine dR dr.ok ?_;rw[jM];rfl
  |great=>exact id
  |bad=>exact id
inductive CB(T:mC)(β:aq)(p:pJ):V->aq->Prop
 |mk{σ:aq}(h:eJ T β p.ms p.n σ):CB T β p (bV T.φ p.k) σ
def HY(T:mC)(n:Nat):Prop:=∀β x d σ ms b6 deep,eJ T β ms b6 σ->deep+n=13->fW [T.j,T.ck] β σ (q5 n T.G x ms b6) (aX (d+n+3) "Teller.told" [.ref T.dg,.ref (ad T.ρ x),.int (deep:Nat)]) (CB T β)
inductive Rn(T:mC)(β:aq)(q:List (Nat×a4)×List Nat×Nat):V->aq->Prop
 |mk{aC:aq}(h:eJ T β q.2.1 q.2.2 aC):Rn T β q (.ref aC.length) (aC++[O.list (q.1.map (yL T.φ))])
theorem T6{hC a q:Nat}{v1:V}{cj:Option V}(c:cW T.φ)(au:HY T n)(h:eJ T σ ms b6 σ)(hd:deep+n=12)(ef:e2 T.φ q σ T.ρ a fs)(bu:a∉[T.j,T.ck])(kH:hC∉[T.j,T.ck])(vM:∀l∈ls,cl l=q)(aj:ls.length<=bz)(yW:σ[hC]? =I (.list (bF T.φ ls))) :
  fW [T.j,T.ck] σ σ (oK (q5 n T.G) T.G fs ls ms b6) (gw (av (d+n+3)) (e0 jB) (eO jB) (eZ jB) (bM jB) (.lst hC) lH.names (I (.ref T.dg)::I v1::I (.int deep)::I (.ref a)::cj::n_10)) (Rn T σ):=λnb=>by
 refine cf.Aa (HU (X:=Nat) (xs:=ls) (g:=λl=>.str (T.φ l)) (L:=λo=>[U,o.map λl=>.str (T.φ l),I (.int deep),I (.ref a),I (.ref T.dg)]) (J:=λht=>bZ [T.j,T.ck] σ ht) ab (kq λht h=>h _ _ kH yW) af7 (af8 ..) aj (λae az=>aga ..) (af6 _)
  (zm T σ n fs (oK (q5 n T.G) T.G fs ls ms b6)) zm.le (.mk [] ms b6 ?_ ab h) (λl r acc af hm h=>aE λkk=>?_) (λout af h=>?_))
 ·cases oK (q5 n T.G) T.G fs ls ms b6 <;> rfl
 ·obtain⟨ks,kA,hA,cq,cC,bX⟩:=h;refine T8 cq nb λt k h1 h2 e5 n2 iQ=>?_;obtain⟨_,_,_,dB⟩:=vt h2;refine kk ?_;rw[af9];refine cQ (bX.tell.tag ab) (cQ (m:=bE _) ab (cQ ((ef.s9 bX.le bu).get c (vM l hm) h1) (cQ (u0 bX.b5 dB) (cQ (m:=binop _ _ _) (a:=.int ((deep+1:Nat):Int)) ab ?_))));rw[mW (full := "Teller.told") (by decide +kernel)];refine cf.step ((au _ _ d _ _ _ (deep+1) bX (by lia) e5).mono (λae az h=>h) λe af aU=>by obtain⟨h1,g⟩:=aU;exact⟨n2 h1,g⟩) λv eQ aU=>?_;obtain⟨p,e,aL⟩:=aU
  induction aL with
  |mk t3=>exact ja (.mk (ks++[(l,p.k)]) p.ms p.n (iQ p e) (by rw[cC,h0];rfl) t3)
 ·obtain⟨ks,kA,hA,cq,cC,bX⟩:=h;refine ja ⟨(ks,kA,hA),?_,?_⟩
  ·rw[<-cq];refine(?_:dr.ok (ks++[],kA,hA)=_);rw[lP]
  ·rw[cC];exact .mk bX
theorem T5{last:Nat}{q:List (Nat×a4)×List Nat×Nat}{v1 v2:V}{cj:Option V}(h:eJ T β q.2.1 q.2.2 σ) :
  fW [T.j,T.ck] β (σ++[O.list (q.1.map (yL T.φ))]) (.opt (EV T.G q.2.1 last) λr=>.ok ⟨.dc q.1 r.1,r.2,q.2.2⟩) (ly (.ref σ.length)>>=λJ7=>bE (I (V.ref (ad T.ρ last)))>>=λUH=>cc (av (d+1)) "word" UH>>=λUG=>cmp .Eq UG (V.str "unknown")>>=λUE=>truth UE>>=λadx=>M.cond adx (c1 (dP (av (d+1)) (.ref T.dg) "number")>>=λaaM=>bE (I (V.ref (ad T.ρ last)))>>=λUD=>runM (av (d+1)) "number" aaM (.ref T.dg) [UD]>>=λUC=>CQ (d+1) (.ref T.dg) v1 v2 cj (I (V.ref (ad T.ρ last))) J7 UC) (CQ (d+1) (.ref T.dg) v1 v2 cj (I (V.ref (ad T.ρ last))) J7 V.none)) (CB T β):=by
 have bf:=h.ap (d3.push (o:=.list (q.1.map (yL T.φ))));refine wB λrs qn=>h7 (o:=iN T.G last) qn λw hw qn=>?_;have val:∀{o:Option Nat},V.tup [.str "record",.tup (q.1.map (yL T.φ)),Fd o]=bV T.φ (.dc q.1 o):=λ{o}=>by rw[bV,nM];rfl
 refine hn (oS b2) (hn (m:=bE _) ab (hn (m:=cc _ _ _>>=λt=>cmp .Eq t _>>=λt=>truth t) (D9 bf.b5 hw) ?_));obtain⟨alu,ie⟩:=sH hw
 revert qn
 induction w.tc with
 |true=>
  intro qn;refine h7 (o:=x2 q.2.1 last) qn λnp ZI e=>?_;cases e;refine CD (hM ab (aG (bf.tell.tag ab) (aG (m:=bE _) ab ?_)));rw[mW (full := "Teller.number") (by decide +kernel)];refine Wp.iO (Jx (d:=d) bf (bf.b5.lt ie) ZI) λd0 cP=>cD ?_;exact val (o:=I np.1) ▸ .mk cP
 |false=>
  intro qn;cases qn;exact CD (hN ab (cD (val (o:=U) ▸ .mk bf)))
theorem T4(c:cW T.φ)(au:HY T n)(h:eJ T β ms b6 σ)(hd:deep+n=12) :
  fW [T.j,T.ck] β σ (.opt (rowOf T.G t) λp=>(oK (q5 n T.G) T.G p.1 (ew (p.1.map (·.1))) ms b6).bind λq=>.opt (EV T.G q.2.1 p.2) λr=>.ok ⟨.dc q.1 r.1,r.2,q.2.2⟩) (Qq (d+n+3) (.ref T.dg) (.ref (ad T.ρ t)) (.int deep)) (CB T β):=by
 refine wB λp aP=>?_;refine aE λkk=>?_;obtain⟨fs,last⟩:=p;obtain⟨v,bK⟩:=DT (d:=d+n+1) c h.b5 aP;obtain⟨_,tn,_⟩:=sM aP;obtain⟨q,lo⟩:=uW aP;obtain⟨_,_,_,_,_,Bs⟩:=xO aP;refine kk ?_;refine hn bK ?_;rw[agb];refine hn (m:=cv _) ab ?_;rw[agc];have dN:e2 T.φ q (σ++[O.dict v (fB T.φ T.ρ fs)]) T.ρ σ.length fs:=⟨⟨v,b2⟩,lo,(λp hp=>h.b5.len ▸ Bs.lt h.b5 nofun p hp:∀p∈fs,p.2<T.ρ.length)⟩;have hlo:∀l∈fs.map (·.1),cl l=q:=λl aj=>by obtain⟨p,hp,rfl⟩:=iK.mp aj;exact lo p hp
 refine hn (m:=bE _) ab (hn dN.list (hn (uZ b2 (by unfold bF;rw[c3,c3];exact fz tn (by decide)) (uQ c hlo)) (hn (kx b2) ?_)));have PB:d3 σ (((σ++[O.dict v (fB T.φ T.ρ fs)])++[O.list (bF T.φ (fs.map (·.1)))])++[O.list (bF T.φ (ew (fs.map (·.1))))]):=d3.push.new.new;have ef:e2 T.φ q (((σ++[O.dict v (fB T.φ T.ρ fs)])++[O.list (bF T.φ (fs.map (·.1)))])++[O.list (bF T.φ (ew (fs.map (·.1))))]) T.ρ σ.length fs:=dN.le bx.push.new .refl;have yW:(((σ++[O.dict v (fB T.φ T.ρ fs)])++[O.list (bF T.φ (fs.map (·.1)))])++[O.list (bF T.φ (ew (fs.map (·.1))))]:aq)[((σ++[O.dict v (fB T.φ T.ρ fs)])++[O.list (bF T.φ (fs.map (·.1)))]:aq).length]? =I (.list (bF T.φ (ew (fs.map (·.1))))):=b2;have kH:σ.length<=((σ++[O.dict v (fB T.φ T.ρ fs)])++[O.list (bF T.φ (fs.map (·.1)))]:aq).length:=(d3.push.new:d3 σ _).len;generalize ((σ++[O.dict v (fB T.φ T.ρ fs)])++[O.list (bF T.φ (fs.map (·.1)))]:aq).length=hC at yW kH ⊢;generalize (((σ++[O.dict v (fB T.φ T.ρ fs)])++[O.list (bF T.φ (fs.map (·.1)))])++[O.list (bF T.φ (ew (fs.map (·.1))))]:aq)=cz at PB ef yW ⊢;have L1:∀{k:Nat},σ.length<=k->k∉[T.j,T.ck]:=λ{k} ao hm=>(cY.mp hm).elim (λq=>hZ _ (di (dy h.tell.f) (q ▸ ao))) λhm=>hZ _ (di (dy h.tell.m) (bT.mp hm ▸ ao));have h2:=h.ap PB;refine fW.bind ((T6 c au h2.self hd ef (L1 (cI _)) (L1 kH) (λl aj=>hlo l (uR aj)) (by rw[Ks,c3];exact b7 tn (by decide +kernel)) yW).lift h2.le h2.len) λq v af aL=>?_
 induction aL with
 |mk h3=>exact T5 (d:=d+n+2) (h2.since h3)
theorem Ef(c:cW T.φ)(n:Nat):HY T n:=by
 induction n with
 |zero=>
  intro β x d σ ms b6 deep aY hd;refine JU (d:=d+2) aY λc4 h1=>?_;have hd:deep=13:=hd;subst hd;rw[show(decide (200<b6+1) || decide (12<13))=true from akt _];exact PR h1.le h1.len
 |succ n au=>
  intro β x d σ ms b6 deep aY hd;refine JU (d:=d+n+3) aY λc4 h1=>?_;rw[show decide (12<deep)=aH from jI (by lia),Bool.or_false];refine(?_:fW _ _ _ (Bool.rec .great (.opt (iy T.G x) λt=>.opt (q9 T.G t) λa=>JW (q5 n T.G) T.G t ms (Nat.succ b6) a) (Nat.ble b6 199):dr pJ) _ _);by_cases ao:b6<=199
  ·rw[IZ ao,show decide (200<b6+1)=aH from jI (by lia)];refine wB λt yo=>wB λw hw=>?_;obtain⟨b,cu⟩:=xC hw;refine(?_:fW _ _ _ _ (Ib (d+n+3) (.ref T.dg) (.ref (ad T.ρ x)) (.int deep)) _);refine hn (w_top h1.b5 yo) (hn (h6 h1.b5 cu) ?_)
   induction w with
   |num=>exact CD (PG (show(aB "number" == aB "number")=ak by decide +kernel) (cD (.mk h1)))
   |gK=>
    refine wB λq aL=>CD (adU (show(aB "unknown" == aB "number")=aH by decide +kernel) (aG (h6 h1.b5 cu) (PG Ar (aG (h1.tell.tag ab) ?_))));rw[mW (full := "Teller.number") (by decide +kernel)];exact Wp.iO (Jx (d:=d+n+2) h1 (h1.b5.lt cu) aL) λcz h2=>cD (.mk h2)
   |dc r=>exact PS (show(aB "record" == aB "number")=aH by decide +kernel) (hn (h6 h1.b5 cu) (PS EM (T4 c au h1 (by lia))))
  ·rw[show Nat.ble b6 199=aH from zY.mpr λe=>ao (nx e),show decide (200<b6+1)=ak from kg (by lia)];exact PR h1.le h1.len
end
section
variable {φ:Nat->Str}{β σ af eF aC:aq}{ρ aA e3:List Nat}{G cJ:bq}{d i j k kb l n m t x dg ck b6 deep:Nat}{v hl:V}{α bN:Type}{ms kA ks ins ls:List Nat}{o:O}{met:List V}{X:List Nat}{self kk dd dI cn:Nat}{at_:gG}
theorem fX.s9(h:fX σ self kk dd dI cn hl)(le:bZ X σ af)(tw:∀k∈X,∀o,σ[k]? =I o->(∀c j,o≠.inst c j)/\∀a b c e f,o≠.bI (tG a b c e f)):fX af self kk dd dI cn hl:=by
 refine aE λkk=>?_;obtain⟨j,ax,aO⟩:=h.at_;refine kk ?_;exact⟨j,le _ _ (λhm=>(tw _ hm _ ax).1 _ _ ab) ax,le _ _ (λhm=>(tw _ hm _ aO).2 _ _ _ _ _ ab) aO⟩
theorem iG.x7(h:iG σ dg j ck met b6):∀k∈[j,ck],∀o,σ[k]? =I o->(∀c j,o≠.inst c j)/\∀a b c e f,o≠.bI (tG a b c e f):=λk ao o e=>by
 rcases cY.mp ao with q|ao
 ·subst q;replace e:=(h.f ..) ▸ e;cases e;exact⟨nofun,λa b c e f q=>by unfold oM tG at q;cases q⟩
 ·have q:=bT.mp ao;subst q;replace e:=(h.m ..) ▸ e;cases e;exact⟨nofun,nofun⟩
variable {T:mC}
inductive zu(T:mC)(β:aq)(R:dr (List a4×List Nat×Nat))(r:List Nat)(acc:List V)(σ:aq):Prop
 |mk(ks:List a4)(ms:List Nat)(b6:Nat)(h:(oJ T.G r ms b6).bind (λq=>.ok (ks++q.1,q.2))=R)(cC:acc=ks.map (bV T.φ))(t:eJ T β ms b6 σ):zu T β R r acc σ
theorem zu.le{acc:List V}{R:dr (List a4×List Nat×Nat)}{r:List Nat}(h:zu T σ R r acc af):bZ [T.j,T.ck] σ af:=by
 induction h with
 |mk _ _ _ _ _ h=>exact h.le
theorem T7{R:dr (List a4×List Nat×Nat)}{jX:List a4}{C:Prop}(h:(oJ G (x::ks) ms b6).bind (λq=>.ok (jX++q.1,q.2))=R)(nb:R≠.bad)
  (c:oL G x ms b6≠.bad->(oL G x ms b6=.great->R=.great)->(∀p,oL G x ms b6=.ok p->(oJ G ks p.ms p.n).bind (λq=>.ok ((jX++[p.k])++q.1,q.2))=R)->C):C:=by
 replace h:((oL G x ms b6).bind λp=>(oJ G ks p.ms p.n).bind λq=>.ok (p.k::q.1,q.2)).bind (λq=>dr.ok (jX++q.1,q.2))=R:=h;refine c (λe=>nb (by rw[e]at h;exact h.symm)) (λe=>by rw[e]at h;exact h.symm) λp e=>?_;rw[e]at h;replace h:((oJ G ks p.ms p.n).bind λq=>.ok (p.k::q.1,q.2)).bind (λq=>dr.ok (jX++q.1,q.2))=R:=h
 revert h
 induction oJ G ks p.ms p.n with
 |ok q=>intro h;rw[<-h];refine dR dr.ok ?_;rw[jM];rfl
 |great=>exact id
 |bad=>exact id
inductive Q6(T:mC)(β:aq)(q:List a4×List Nat×Nat):V->aq->Prop
 |mk{aC:aq}(h:eJ T β q.2.1 q.2.2 aC):Q6 T β q (.ref aC.length) (aC++[O.list (q.1.map (bV T.φ))])
theorem Yu{v1:V}(c:cW T.φ)(pj:σ[dI]? =I (.list (c8 T.ρ ins)))(fw:ins.length<=30)(aY:eJ T σ ms b6 σ)(nR:dI∉[T.j,T.ck]) :
  fW [T.j,T.ck] σ σ (oJ T.G ins ms b6) (gw (av (d+15)) (e0 jA) (eO jA) (eZ jA) (bM jA) (.lst dI) sg.names [I v1,I (.ref T.dg),U,U]) (Q6 T σ):=λnb=>by
 refine cf.Aa (HU (X:=Nat) (xs:=ins) (g:=λk=>.ref (ad T.ρ k)) (L:=λo=>[U,o.map λk=>.ref (ad T.ρ k),I (.ref T.dg)]) (J:=λht=>bZ [T.j,T.ck] σ ht) ab (kq λht h=>h _ _ nR pj) aeU (aeV ..) (b7 fw (by decide +kernel)) (λae az=>aeX ..) (aeT _)
  (zu T σ (oJ T.G ins ms b6)) zu.le (.mk [] ms b6 ?_ ab aY) (λl r acc af hm h=>aE λkk=>?_) (λout af h=>?_))
 ·cases oJ T.G ins ms b6 <;> rfl
 ·obtain⟨ks,kA,hA,cq,cC,bX⟩:=h;refine T7 cq nb λe5 n2 iQ=>kk ?_;rw[aeW];refine cQ (bX.tell.tag ab) ?_;rw[mW (full := "Teller.told") (by decide +kernel)];refine cf.step ((Ef c 12 _ _ d _ _ _ 1 bX (by decide) e5).mono (λae az h=>h) λe af aU=>by obtain⟨h1,g⟩:=aU;exact⟨n2 h1,g⟩) λv eQ aU=>?_;obtain⟨p,e,aL⟩:=aU
  induction aL with
  |mk t3=>exact ja (.mk (ks++[p.k]) p.ms p.n (iQ p e) (by rw[cC,h0];rfl) t3)
 ·obtain⟨ks,kA,hA,cq,cC,bX⟩:=h;refine ja ⟨(ks,kA,hA),?_,?_⟩
  ·rw[<-cq];refine(?_:dr.ok (ks++[],kA,hA)=_);rw[lP]
  ·rw[cC];exact .mk bX
inductive Io(T:mC)(β:aq)(r:(List a4×a4)×List Nat):V->aq->Prop
 |mk{σ:aq}(b6:Nat)(h:eJ T β r.2 b6 σ):Io T β r (ep T.φ r.1) σ
theorem S2(c:cW T.φ)(F:fX σ self kk dd dI cn hl)(pj:σ[dI]? =I (.list (c8 T.ρ ins)))(vP:σ[cn]? =I o)(ho:jH T.ρ at_ o)(fw:ins.length<=30)
  (aY:eJ T σ [] 0 σ) (nR:dI∉[T.j,T.ck]) (na:cn∉[T.j,T.ck]):fW [T.j,T.ck] σ σ (qh T.G ins at_) (aX (d+16) "kind_of" [.ref self,.ref T.dg]) (Io T σ):=by
 rw[aeS];refine hn F.MO (hn (kx pj) (fW.bind (Yu (d:=d) c pj fw aY nR) λq v af aL=>?_))
 induction aL with
 |mk bX=>
 have b1:=bX.ap (d3.push (o:=.list (q.1.map (bV T.φ))));have zD:=F.s9 b1.le aY.tell.x7;refine wB λt fm=>hn (oS b2) (hn (b1.tell.tag ab) (hn (zD.tag ab) ?_));rw[mW (full := "Found.result") (by decide +kernel),agA];refine hn ((aN zD.at).trans ((aN (HK (q:=[]) (b1.le _ _ na vP) ho fm)).trans ab)) ?_;rw[mW (full := "Teller.told") (by decide +kernel)];refine fW.bind (Ef c 12 _ _ d _ _ _ 1 b1 (by decide)) λp v eQ aL=>?_
 induction aL with
 |mk t3=>exact ad0 (P:=Io T σ) (a:=((q.1,p.k),p.ms)) (.mk _ t3)
theorem XG{c:Str}{vs:List V}:fv (av d) c vs=(s3 c>>=λo=>aX d (jr c "__init__") (o::vs)>>=λr=>vC r (cv o)):=rfl
theorem XE(aV:0<σ.length):Wp σ (fv (av (d+1)) "Teller" []) λv af=>wU λdg j ck=>uo (v=.ref dg) (iG af dg j ck [] 0) (σ.length<=j/\σ.length<=ck) (bx σ af/\∀{k:Nat}{o:O},σ[k]? =I o->af[k]? =I o):=by
 rw[XG];refine aG (m:=s3 _) ab ?_;rw[show jr "Teller" "__init__" = "Teller.__init__" by decide +kernel,agh];have l8:(σ++[O.bI [],.inst "Teller" σ.length]:aq)[σ.length+1]? =I (.inst "Teller" σ.length):=q2.2;have f0:(σ++[O.bI [],.inst "Teller" σ.length]:aq)[σ.length]? =I (.bI []):=q2.1;have zg:d3 σ (σ++[O.bI [],.inst "Teller" σ.length]):=⟨_,ab⟩;generalize (σ++[O.bI [],.inst "Teller" σ.length]:aq)=kl at l8 f0 zg ⊢;have ne:σ.length≠σ.length+1:=by exact fZ (jK _)
 have lt:σ.length≠kl.length:=fZ (dy f0);refine aG (a:=V.none) (af:=((kl++[O.list []]:aq).set σ.length (O.bI [("met",V.ref kl.length)])).set σ.length (O.bI (oM (.ref kl.length) (.int 0)))) ?_ (cD ?_)
 ·refine(aN (m:=bP _) ab).trans ((aN (rl (l':=[("met",V.ref kl.length)]) (cK l8) (cK f0) aV wh (by decide +kernel) (show 0<bz by decide +kernel) ab)).trans ((aN (rl (l:=[("met",V.ref kl.length)]) (l':=oM (.ref kl.length) (.int 0)) (ea ne (cK l8)) (fg (cK f0)) aV wh (by decide +kernel) (show 1<bz by decide +kernel) ab)).trans ab))
 ·have key:∀{k:Nat}{o:O},σ[k]? =I o->(((kl++[O.list []]:aq).set σ.length (O.bI [("met",V.ref kl.length)])).set σ.length (O.bI (oM (.ref kl.length) (.int 0))))[k]? =I o:=λ{k o} e=>by
   have ao:σ.length≠k:=λq=>hZ _ (q ▸ dy e);exact ea ao (ea ao (cK (zg.at e)))
  have hL:bx σ (((kl++[O.list []]:aq).set σ.length (O.bI [("met",V.ref kl.length)])).set σ.length (O.bI (oM (.ref kl.length) (.int 0)))):=⟨by rw[kB,kB];exact b7 zg.len (by rw[dM];exact g0 ..),λe ae=>key e⟩;exact⟨_,_,_,ab,⟨ea ne (ea ne (cK l8)),fg (fg (cK f0)),ea lt (ea lt b2),aV,di aV zg.len⟩,⟨cI _,zg.len⟩,hL,key⟩
end
noncomputable def lZ:Nat->Str
 |0 => "f"
 |1 => "g"
 |_ => "h"
def cx(φ:Nat->Str)(d:iq):V:=.tup [.str (lZ d.nm),.int d.many,gk φ deep d.b]
def kt(φ:Nat->Str)(bb:ih):Tab:=bb.map λp=>(.inr (lZ p.1),ep φ p.2)
def Af(φ:Nat->Str)(bb:ih):List V:=bb.map λp=>ep φ p.2
structure qG(bb:ih):Prop where
 lt:∀p∈bb,p.1<3
 hG:∀p∈bb,p.2.1.length<=30
section
variable {φ:Nat->Str}{β σ af eF aC:aq}{ρ aA e3:List Nat}{G cJ:bq}{d i j k kb l n m t x dg ck b6 OJ:Nat}{v hl:V}{α bN:Type}{ms kA ks ins ls:List Nat}{o:O}{met:List V}{X:List Nat}{self kk dd dI cn hC kp:Nat}{at_:gG}{bb:ih}{r:je}{ds:List iq}{D:iq}
theorem LZ:∀i,i<3->∀j,j<3->lZ i=lZ j->i=j:=by decide +kernel
theorem y4{p:Key×V}{l:Tab}{key:Key}:ez (p::l) key=if p.1=key then I p.2 else ez l key:=by
 unfold ez;rw[su];by_cases e:p.1=key
 ·rw[bj e,kg e];rfl
 ·rw[bH e,jI e]
theorem Up(h:∀p∈bb,p.1<3)(aR:i<3)(aM:bb.all (λp=>!Nat.beq p.1 i)=ak):ez (kt φ bb) (.inr (lZ i))=U:=by
 induction bb with
 |nil=>rfl
 |cons p bb au=>
  rw[uu]at aM;refine hK aM λh1 h2=>?_;refine(y4 (p:=(.inr (lZ p.1),ep φ p.2)) (l:=kt φ bb)).trans ?_;refine(bH λq=>?_).trans (au (λq aL=>h q (da _ aL)) h2);rw[mw (LZ p.1 (h p b8) i aR (Dn q))]at h1;exact fU h1
theorem My{v:Nat}(h:qG bb)(e:σ[kk]? =I (.dict v (kt φ bb))):nu φ σ kk (l2 bb):=⟨v,_,e,λp hp=>by
 have lt:=h.lt;clear e h
 induction bb with
 |nil=>exact bh hp
 |cons q bb au=>
  refine(y4 (p:=(.inr (lZ q.1),ep φ q.2)) (l:=kt φ bb)).trans ?_;refine rk (c:=Nat.beq q.1 0) hp (λh1 h=>?_) λh1 h=>?_
  ·rw[bH (λr=>Fn h1 (LZ q.1 (lt q b8) 0 (by decide) (Dn r)))];exact au h λq aL=>lt q (da _ aL)
  ·cases h;rw[uq h1];exact bj ab⟩
theorem Mx(h:qG bb)(p:List a4×a4)(hp:l2 bb=I p):p.1.length<=30:=by
 have hG:=h.hG;clear h
 induction bb with
 |nil=>exact bh hp
 |cons q bb au=>exact rk (c:=Nat.beq q.1 0) hp (λae h=>au h λq aL=>hG q (da _ aL)) λae h=>(by cases h;exact hG q b8:p.1.length<=30)
theorem qG.snoc{p:List a4×a4}(h:qG bb)(aR:i<3)(hp:p.1.length<=30):qG (bb++[(i,p)]):=⟨λq aL=>by
 rcases hs.mp aL with aL|aL
 ·exact h.lt q aL
 ·rw[bT.mp aL];exact aR,λq aL=>by
 rcases hs.mp aL with aL|aL
 ·exact h.hG q aL
 ·rw[bT.mp aL];exact hp⟩
theorem adW{E:V->aq->Prop}{m:M α}{f:α->M bN}{h:V->M bN}{a:α}{Q:bN->aq->Prop}(e:m σ=.ok a af)(k:cf E af (f a) Q):cf E σ (M.k3 m f h) Q:=by
 have bg:M.k3 m f h σ=f a af:=by rw[uK,e]
 rcases k with ⟨b,aC,q,r⟩|⟨b,aC,q,r⟩
 ·exact pI (bg.trans q) r
 ·exact nj (bg.trans q) r
theorem PF{m:M α}{f:α->M bN}{h:V->M bN}{a:V}{Q:bN->aq->Prop}(e:m σ=.exc a af)(k:Wp af (h a) Q):Wp σ (M.k3 m f h) Q:=by
 obtain⟨b,aC,bg,q⟩:=k;exact⟨b,aC,by rw[uK,e];exact bg,q⟩
theorem hq.nU(h:hq k af eF)(h':bx σ af)(ao:σ.length<=k):bx σ eF:=⟨b7 h'.len h.len,λ{n o} e f=>h.at_ (λq=>by have:=dy e;exact sZ (gq 0x842101021300212982329021 ab ao q this)) (h'.at_ e f) f⟩
theorem bZ.all{j ck:Nat}(h:bZ [j,ck] σ af)(bw:σ.length<=j)(ao:σ.length<=ck){k:Nat}{o:O}(e:σ[k]? =I o):k∉[j,ck]/\af[k]? =I o:=by
 have:k∉[j,ck]:=λhm=>(cY.mp hm).elim (λq=>hZ _ (di (dy e) (q ▸ bw))) λhm=>hZ _ (di (dy e) (bT.mp hm ▸ ao));exact⟨this,h _ _ this e⟩
inductive zz(β:aq)(e:V)(σ:aq):Prop
 |mk(n:Nat)(h1:e=.ref n)(h2:σ[n]? =some (.exc "TooGreat"))(h3:bx β σ):zz β e σ
theorem C7.n8{j ck:Nat}{e:V}(h:C7 [j,ck] σ e af)(bw:σ.length<=j)(ao:σ.length<=ck)(le:bx β σ):zz β e af:=by
 obtain⟨n,h1,h2,h3,bf⟩:=h;exact⟨n,h1,h2,b7 le.len bf,λe f=>(h3.all bw ao (le.at_ e f)).2⟩
theorem Ju{E:V->aq->Prop}{f:V->V->M α}{Q:α->aq->Prop}{R:dr ((List a4×a4)×List Nat)}(c:cW φ)(rL:qh G ins at_=R)(nb:R≠.bad)(F:fX σ self kk dd dI cn hl)(g:bD φ σ ρ G)(eW:σ[dI]? =I (.list (c8 ρ ins)))(cC:σ[cn]? =I o)(ho:jH ρ at_ o)(fw:ins.length<=30)(f5:R=.great->∀e af,zz σ e af->E e af)
  (k:∀p dg j ck af b6,R=.ok p->eJ ⟨φ,ρ,G,dg,j,ck⟩ σ p.2 b6 af->σ.length<=j->σ.length<=ck->cf E af (f (.ref dg) (ep φ p.1)) Q):cf E σ (fv (av (d+16)) "Teller" []>>=λt=>aX (d+16) "kind_of" [.ref self,t]>>=f t) Q:=by
 refine aE λkk=>?_;obtain⟨_,eQ,c7,dg,j,ck,rfl,aY,⟨o6,o5⟩,Be,Bh⟩:=XE (σ:=σ) (d:=d+15) g.pos;have key:∀{k:Nat}{o:O},σ[k]? =I o->k∉[j,ck]/\eQ[k]? =I o:=λe=>bZ.all (λae az bS e=>Bh e) o6 o5 e;refine kk (cQ c7 (cf.step ((((S2 (T:=⟨φ,ρ,G,dg,j,ck⟩) (d:=d) c (F.le Be) (key eW).2 (key cC).2 ho fw ⟨aY,nofun,g.le Be.len Bh,.refl,cI _⟩ (key eW).1 (key cC).1).lift (β:=σ) (λae az bS e=>Bh e) Be.len) (rL ▸ nb)).mono (λae az h=>h) λe af aU=>?_) λv fA aU=>?_))
 ·obtain⟨h1,h2⟩:=aU;exact f5 (rL.symm.trans h1) e af (h2.n8 o6 o5 .refl)
 ·obtain⟨p,hp,aL⟩:=aU
  induction aL with
  |mk b6 h=>exact k p dg j ck _ b6 (rL.symm.trans hp) ⟨h.tell,h.o4,h.b5,λn o aM e=>h.le n o aM (Bh e),b7 Be.len h.len⟩ o6 o5
end
section
variable {φ:Nat->Str}{β σ af eF aC:aq}{ρ aA e3:List Nat}{G cJ:bq}{d i j k kb l n m t x dg ck b6 OJ:Nat}{v hl:V}{α bN:Type}{ms kA ks ins ls:List Nat}{o:O}{met:List V}{X:List Nat}{self kk dd dI cn hC kp:Nat}{at_:gG}{bb:ih}{r:je}{ds:List iq}{D:iq}
theorem wy{E:V->aq->Prop}{m ej:M α}{Q:α->aq->Prop}(h:m=ej)(k:cf E σ ej Q):cf E σ m Q:=h ▸ k
structure Fits(bb:ih)(D:iq):Prop where
 ok:i4 deep D.b=ak
 len:(eg deep D.b).length<=1000
 many:D.many<=30
 nm:D.nm<3
 hG:bb.length<100
 new:bb.all (λp=>!Nat.beq p.1 D.nm)=ak
theorem aa7(h:rT bb D=ak):Fits bb D:=by
 refine hK h λh1 h=>hK h λh2 h=>hK h λh3 h=>hK h λbf h=>hK h λcP eS=>?_;exact⟨h1,nx h2,nx h3,sq (nx bf),sq (nx cP),eS⟩
structure aiI(φ:Nat->Str)(σ:aq)(kk G2 dd dI cn many:Nat)(b:cG)(at_:gG)(G:bq)(ρ:List Nat)(o:O)(af:aq):Prop where
 F:fX af G2 kk dd dI cn (gk φ deep b)
 order:af[dd]? =I (.list ((eg deep b).map gM))
 ins:af[dI]? =I (.list (c8 ρ (eP many)))
 here:af[cn]? =I o
 HN:jH ρ at_ o
 b5:bD φ af ρ G
 le:bx σ af
theorem JC{E:V->aq->Prop}{b:cG}{many:Nat}{kn:Known}(c:cW φ)(fD:i4 deep b=ak)(hlen:(eg deep b).length<=1000)(hm:many<=30)(kG:∀p,kn=I p->p.1.length<=30)(aV:0<σ.length)(K:nu φ σ kk kn)(aP:mX kn many b=.ok at_ G)
  {Q2:V->M α}{Q:α->aq->Prop}(next:∀self dd dI cn ρ o v af cz,c1 (dP (av (d+16)) (.ref self) "go") af=.ok (.own "Found") af->runM (av (d+16)) "go" (.own "Found") (.ref self) [] af=.ok v cz->aiI φ σ kk self dd dI cn many b at_ G ρ o cz->cf E af (Q2 (.ref self)) Q) :
  cf E σ (fv (av (d+16)) "Found" [.ref kk,.int many,gk φ deep b]>>=Q2) Q:=by
 refine aE λaU=>?_;obtain⟨_,c4,ax,self,dd,dI,cn,ρ,rfl,F,mr,eW,cC,Ml,yv,g,le⟩:=S5 (φ:=φ) (σ:=σ) (kk:=kk) (d:=d+4) fD (by decide) hlen aV hm;have ju:kk<σ.length:=by obtain⟨_,_,e,_⟩:=K;exact dy e
 have d6:∀k∈eP many,k<ρ.length:=λk ao=>by rw[g.len,D8];exact Dw.mp ao
 obtain⟨v,cz,aO,nz,o,abG,g2,B7,Gj,A6⟩:=S4 (d:=d) c kG fD (by decide) hlen aP g d6 F (K.le le) eW mr cC (by exact λq=>sZ (gq 0x8421014C1190213002129021 ab Ml ju q)) yv;refine aU (cQ ax (next self dd dI cn nz o v c4 cz (F.tag ab) ?_ ⟨F.l1 A6 cC,A6.Bb cC mr,by rw[x8 abG d6];exact A6.Bb cC eW,B7,Gj,g2,A6.nU le Ml⟩));rw[mW (full := "Found.go") (by decide +kernel)];exact aO
noncomputable def FR(kp a:Nat)(s:r9):Loc:=[I (.ref kp),I (.ref a),I (.ref (a+1)),s.1,s.2.1,s.2.2.1,s.2.2.2,U,U,U,U,U]
inductive C3(φ:Nat->Str)(σ:aq)(r:je)(ds:List iq)(s:r9)(aC:aq):Prop
 |mk(bb:ih)(v:Nat)(dB:aC[σ.length]? =some (.dict v (kt φ bb)))(aT:aC[σ.length+1]? =some (.list (Af φ bb)))(ok:qG bb)(aP:fR ds bb=r)(le:bx σ aC):C3 φ σ r ds s aC
inductive Ip(σ:aq)(r:je)(e:V)(af:aq):Prop
 |mk(h:r=.great)(g:zz σ e af):Ip σ r e af
theorem ME{C:Prop}(h:fR (D::ds) bb=r)(nb:r≠.bad)(k:∀at_ G R,Fits bb D->mX (l2 bb) D.many D.b=.ok at_ G->qh G (eP D.many) at_=R->R≠.bad->(R=.great->r=.great)->(∀p,R=.ok p->p.1.1.length<=30/\fR ds (bb++[(D.nm,p.1)])=r)->C):C:=by
 replace h:(Bool.rec .bad (qy bb D (fR ds) (mX (l2 bb) D.many D.b)) (rT bb D):je)=r:=h
 induction a8:rT bb D with
 |false=>rw[a8]at h;exact(nb h.symm).elim
 |true=>
 rw[a8]at h;replace h:qy bb D (fR ds) (mX (l2 bb) D.many D.b)=r:=h
 induction hg:mX (l2 bb) D.many D.b with
 |bad=>rw[hg]at h;exact(nb h.symm).elim
 |ok at_ G=>
 rw[hg]at h;refine k at_ G _ (aa7 a8) hg ab ?_ ?_ ?_
 ·intro e;unfold qy at h;dsimp only at h;rw[e]at h;exact nb h.symm
 ·intro e;unfold qy at h;dsimp only at h;rw[e]at h;exact h.symm
 ·intro p e;unfold qy at h;dsimp only at h;rw[e]at h;replace h:(Bool.rec .bad (fR ds (bb++[(D.nm,p.1)])) (Nat.ble p.1.1.length 30):je)=r:=h
  induction al:Nat.ble p.1.1.length 30 with
  |false=>rw[al]at h;exact(nb h.symm).elim
  |true=>rw[al]at h;exact⟨nx al,h⟩
theorem YR{R:a6×Loc->aq->Prop}{s:r9}(c:cW φ)(nb:r≠.bad)(aV:0<σ.length)(aW:C3 φ σ r (D::ds) s af) :
  cf (Ip σ r) af (bindTo (stLoc pN.names) (cy t9) (cx φ D) (FR kp σ.length s)>>=cm (av (d+16)) (bU t9) pN.names) (oh (FR kp σ.length) (C3 φ σ r) R ds):=by
 refine aE λkk=>?_;obtain⟨bb,v,dB,aT,ok,aP,le⟩:=aW;refine ME aP nb λat_ G alz fit qm n4 Fp GA fD=>?_;refine kk (wy (ae0 ..) (JC (d:=d) (many:=D.many) c fit.ok fit.len fit.many (Mx ok) (di aV le.len) (My ok dB) qm λself dd dI cn ρ o u c4 cz ax aO g2=>adW ((aN ax).trans ((aN aO).trans ab)) ?_));have du:=le.trans g2.le;refine Ju (d:=d) c n4 Fp g2.F g2.b5 g2.ins g2.here g2.HN (by rw[k2];exact fit.many) (λe x aC hg=>⟨GA e,?_⟩) λp dg j ck fA b6 e q o6 o5=>?_
 ·obtain⟨n,h1,h2,h3⟩:=hg;exact⟨n,h1,h2,du.trans h3⟩
 obtain⟨hp,aP⟩:=fD p e;have Ox:=(q.le.all o6 o5 (g2.le.dict dB)).2;have aM:ez (kt φ bb) (.inr (lZ D.nm))=U:=Up ok.lt fit.nm fit.new;have ll:kt φ bb++[(.inr (lZ D.nm),ep φ p.1)]=kt φ (bb++[(D.nm,p.1)]):=by unfold kt;rw[h0];rfl
 have Ow:=fg (o':=.dict (v+1) (kt φ (bb++[(D.nm,p.1)]))) Ox;have He:=ea (k:=σ.length) (o':=.dict (v+1) (kt φ (bb++[(D.nm,p.1)]))) (fZ (jK _)) ((q.le.all o6 o5 (g2.le.list aT)).2);refine cQ (EX (key:=.inr (lZ D.nm)) Ox aV ab (by unfold kt;rw[c3];exact w1 fit.hG (by decide +kernel))) ?_;rw[Cf aM,ll];refine cQ (jk He ab) (cQ (u1 (key:=.inr (lZ D.nm)) (x:=ep φ p.1) Ow ab ?_) (cQ (k8 He (so _) (by unfold Af;rw[c3];exact w1 fit.hG (by decide +kernel))) (ja (.next (_,_,_,_) (.mk (bb++[(D.nm,p.1)]) (v+1) (ea (w0 _) Ow) ?_ (ok.snoc fit.nm hp) aP (((⟨b7 du.len q.len,λe f=>(q.le.all o6 o5 (du.at_ e f)).2⟩:bx σ fA).hQ (cI _)).hQ (jL _)))))))
 ·rw[<-ll];unfold ez;rw[List.find?_append,ajy.mp aM,ajw,su,kg ab];rfl
 ·rw[fg He];unfold Af;rw[h0];rfl
inductive Q3(φ:Nat->Str)(σ:aq)(r:je):V->aq->Prop
 |mk{af:aq}(bb:ih)(h:r=.good bb)(at_:af[σ.length+1]? =some (.list (Af φ bb)))(le:bx σ af):Q3 φ σ r (.tup [.str "good",.ref (σ.length+1)]) af
theorem uF(c:cW φ)(h:fR ds []=r)(nb:r≠.bad)(aV:0<σ.length)(hp:σ[kp]? =I (.list (ds.map (cx φ)))):cf (Ip σ r) σ (aX (d+17) "judged" [.ref kp]) (Q3 φ σ r):=by
 rw[aeZ];have len:(σ++[O.dict 0 []]:aq).length=σ.length+1:=by rw[dM];rfl
 refine cQ (m:=bP _) ab (cQ (m:=bP _) ab (cQ (kx (cK (cK hp))) ?_));rw[len];refine CA (X:=iq) (S:=r9) (xs:=ds) (g:=cx φ) (L:=FR kp σ.length) (J:=λaC=>aC[kp]? =I (.list (ds.map (cx φ)))) ab (kq λaC h=>h) (C3 φ σ r) (λaW=>by induction aW with|mk _ _ _ _ _ _ le=>exact le.list hp) (U,U,U,U) (.mk [] 0 (cK b2) (by rw[<-len];exact b2) ⟨nofun,nofun⟩ h bx.push.new) (λD r s af hD aW=>YR c nb aV aW) λs af aW=>?_;refine aE λkk=>?_;obtain⟨bb,v,dB,aT,ok,aP,le⟩:=aW;refine kk ?_;exact wy (ae1 ..) (ja (.mk bb aP.symm aT le))
end
section
variable {φ:Nat->Str}{β σ af eF aC:aq}{ρ aA e3:List Nat}{G cJ:bq}{d i j k kb l n m t x dg ck b6 OJ:Nat}{v hl:V}{α bN:Type}{ms kA ks ins ls:List Nat}{o:O}{met:List V}{X:List Nat}{self kk dd dI cn hC kp:Nat}{at_:gG}{bb:ih}{r:je}{ds:List iq}{D:iq}{mk:List a4}{p:List a4×a4}
theorem XK{q:Place}{dF:List Place}{R:dr (List a4)}{jX:List a4}{C:Prop}(h:(nS G at_ (q::dF) ms).bind (λz=>.ok (jX++z))=R)(nb:R≠.bad)
  (c:∀t,lB at_ q=I t->oL G t ms 0≠.bad->(oL G t ms 0=.great->R=.great)->(∀p,oL G t ms 0=.ok p->(nS G at_ dF p.ms).bind (λz=>.ok ((jX++[p.k])++z))=R)->C):C:=
 Fc (o:=lB at_ q) h nb λt h1 h=>by
  refine c t h1 (λe=>nb (by rw[e]at h;exact h.symm)) (λe=>by rw[e]at h;exact h.symm) λp e=>?_;rw[e]at h;replace h:((nS G at_ dF p.ms).bind λz=>.ok (p.k::z)).bind (λz=>dr.ok (jX++z))=R:=h
  revert h
  induction nS G at_ dF p.ms with
  |ok q=>intro h;rw[<-h];refine dR dr.ok ?_;rw[jM];rfl
  |great=>exact id
  |bad=>exact id
variable {T:mC}
theorem eJ.oR{l:List V}(h:eJ T β ms b6 σ)(e:σ[hC]? =I (.list l))(ao:hC∉[T.j,T.ck]):eJ T (σ.set hC o) ms b6 (σ.set hC o):=
 ⟨⟨ea (λq=>by have:=h.tell.i;replace this:=(e ..) ▸ (oD (q ..)) ▸ this;cases this) h.tell.i,ea (λq=>ao (q ▸ b8)) h.tell.f,ea (λq=>ao (q ▸ da _ b8)) h.tell.m,h.tell.yi,h.tell.iC⟩,h.o4,h.b5.oR e,.refl,cI _⟩
inductive CR(T:mC)(β:aq)(hC:Nat)(at_:gG)(R:dr (List a4))(r:List Place)(s:Option Place)(σ:aq):Prop
 |mk(jX:List a4)(ms:List Nat)(b6:Nat)(dB:σ[hC]? =some (.list (jX.map (bV T.φ))))(BN:(nS T.G at_ r ms).bind (λz=>.ok (jX++z))=R)(aj:jX.length+r.length<=1000)(q:eJ T σ ms b6 σ)(le:dC β σ)(len:β.length<=σ.length):CR T β hC at_ R r s σ
def Fy(kp i kk self dg hC:Nat)(a:V)(cj:Option V)(s:Option Place):Loc:=(I (.ref kp)::I (.int i)::I a::I (.ref kk)::cj::I (.ref self)::I (.ref dg)::I (.ref hC)::s.map gM::n_7)
inductive Ij(β:aq)(R:dr (List a4))(e:V)(σ:aq):Prop
 |mk(h:R=.great)(n:Nat)(h1:e=.ref n)(h2:σ[n]? =some (.exc "TooGreat"))(h3:dC β σ)(bf:β.length<=σ.length):Ij β R e σ
theorem XM{R:dr (List a4)}{q:Place}{r:List Place}{s:Option Place}{a:V}{cj:Option V}{Q:a6×Loc->aq->Prop}(c:cW T.φ)(nb:R≠.bad)(F:fX β self kk dd dI cn hl)(cC:β[cn]? =I o)(ho:jH T.ρ at_ o)(bw:β.length<=T.j)(ao:β.length<=T.ck)(aj:β.length<=hC)(nR:hC∉[T.j,T.ck])(aV:0<hC)(h:CR T β hC at_ R (q::r) s σ) :
  cf (Ij β R) σ (bindTo (stLoc kU.names) (cy wI) (gM q) (Fy kp i kk self T.dg hC a cj s)>>=cm (av (d+16)) (bU wI) kU.names) (oh (Fy kp i kk self T.dg hC a cj) (CR T β hC at_ R) Q r):=by
 refine aE λkk=>?_;obtain⟨jX,ms,b6,dB,BN,hlen,t,le,len⟩:=h;refine XK BN nb λx h1 e5 n2 iQ=>?_;obtain⟨c4,_,s1,t1⟩:=t.Ap (d:=d+16) (hA:=0);have HO:∀{aC:aq},bZ [T.j,T.ck] σ aC->dC β aC:=λh=>le.after h λn aM=>.inr ((cY.mp aM).elim (λq=>q ▸ bw) λaM=>bT.mp aM ▸ ao);have dU:=HO t1.le;refine kk (wy (aeN ..) (cQ s1 (cQ (jk (t1.le _ _ nR dB) ab) (cQ (t1.tell.tag ab) (cQ (F.s9 (X:=[]) dU nofun).at (cQ (HK (dU.at cC) ho h1) ?_))))));rw[mW (full := "Teller.told") (by decide +kernel)];refine cf.step ((Ef c 12 _ _ (d+1) _ _ _ 1 t1 (by decide) e5).mono (λae az h=>h) λe af aU=>?_) λv cz aU=>?_
 ·obtain⟨h1,n,h2,h3,bf,cP⟩:=aU;exact⟨n2 h1,n,h2,h3,HO bf,b7 len cP⟩
 ·obtain⟨p,e,aL⟩:=aU
  induction aL with
  |mk bc=>
  replace hlen:=(gy ..) ▸ hlen;refine cQ (k8 (bc.le _ _ nR dB) aV (by rw[c3];exact fz (b7 (g0 ..) hlen) (by decide +kernel))) (ja (.next (I q) (.mk (jX++[p.k]) p.ms p.n ?_ (iQ p e) (by rw[dM];exact b7 (sr (Nat.add_right_comm ..)) hlen) (bc.oR (bc.le _ _ nR dB) nR) ((HO bc.le).hQ aj) (by rw[kB];exact b7 len bc.len))));rw[fg (bc.le _ _ nR dB),h0];rfl
inductive MarkX(σ:aq)(R:dr (List a4))(e:V)(af:aq):Prop
 |mk(h:R=.great)(g:zz σ e af):MarkX σ R e af
inductive zt(φ:Nat->Str)(σ:aq)(R:dr (List a4))(v:V)(af:aq):Prop
 |mk(mk:List a4)(ck:Nat)(h:R=.ok mk)(e:v=.ref ck)(h1:af[ck]? =some (.list (mk.map (bV φ))))(le:bx σ af):zt φ σ R v af
theorem SZ{a:V}{cj:Option V}{R:dr (List a4)}(c:cW φ)(fit:Fits bb D)(ok:qG bb)(qm:mX (l2 bb) D.many D.b=.ok at_ G)(n4:qh G (eP D.many) at_=.ok (p,ms))(hj:nS G at_ (eg deep D.b) ms=R)(nb:R≠.bad)(aV:0<σ.length)(dB:∃v,σ[kk]? =I (.dict v (kt φ bb)))
  (M6:∀aC,bx σ aC->item (.ref kp) (.int i) aC=.ok (cx φ D) aC) :
  cf (MarkX σ R) σ (H7 (d+16) (I (.ref kp)::I (.int i)::I a::I (.ref kk)::cj::n_11)) (zt φ σ R):=by
 obtain⟨v,dB⟩:=dB;refine wy (aeQ ..) (cQ (M6 σ .refl) (cQ jl (cQ (M6 σ .refl) (cQ qa ?_))));refine JC (d:=d) (many:=D.many) c fit.ok fit.len fit.many (Mx ok) aV (My ok dB) qm λself dd dI cn ρ nP u c4 cz ax aO g2=>?_;refine cQ ax (cQ aO (Ju (d:=d) c n4 nofun g2.F g2.b5 g2.ins g2.here g2.HN (by rw[k2];exact fit.many) nofun λva dg j ck fA b6 e q o6 o5=>cQ (m:=bP _) ab ?_));cases e;have f3:=q.ap (d3.push (o:=.list []));have keep:=λ{k:Nat}{o:O}(e:_=I o)=>f3.le.all (k:=k) o6 o5 e;have BE:=q.len;have nR:fA.length∉[j,ck]:=λhm=>(cY.mp hm).elim (λe=>hZ _ (e ▸ dy q.tell.f)) λhm=>hZ _ (bT.mp hm ▸ dy q.tell.m);refine cQ (g2.F.s9 (X:=[]) (λae az bS e=>(keep e).2) nofun).order (cQ (kx (keep g2.order).2) ?_);refine(CA (E:=Ij cz R) (Q:=zt φ σ R) (X:=Place) (S:=Option Place) (xs:=eg deep D.b) (g:=gM) (L:=Fy kp i kk self dg fA.length a cj) (J:=λaC=>dC cz aC) ab (kq λaC h=>h.at g2.order) (CR ⟨φ,ρ,G,dg,j,ck⟩ cz fA.length at_ R) (λaW=>by induction aW with|mk _ _ _ _ _ _ _ le=>exact le) U (.mk [] ms b6 b2 (by rw[hj];cases R <;> rfl) (by rw[List.length_nil,lM];exact fit.len) f3.self (λae az bS e=>(keep e).2) f3.len) (λx r s aC aI aW=>XM (T:=⟨φ,ρ,G,dg,j,ck⟩) c nb g2.F g2.here g2.HN o6 o5 BE nR (di aV (b7 g2.le.len BE)) aW) λs aC aW=>?_).mono (λae az h=>h) λe aC aU=>?_
 ·obtain⟨jX,_,_,iX,BN,nf,_,le,len⟩:=aW;refine wy (aeP ..) (ja ⟨jX,_,BN.symm.trans (dR dr.ok (lP _)),ab,iX,⟨b7 g2.le.len len,λe f=>le.at (g2.le.at_ e f)⟩⟩)
 ·obtain⟨h,n,h1,h2,h3,bf⟩:=aU;exact⟨h,n,h1,h2,b7 g2.le.len bf,λe f=>h3.at (g2.le.at_ e f)⟩
theorem adg{m n:M α}:y8 (.bool ak) m n σ=m σ:=rfl
theorem S0{lJ:iq}{sS jV:List a4×a4}{R:dr (List a4)}(c:cW φ)(h:fR [lJ,D] []=.good [(lJ.nm,sS),(D.nm,jV)])(fit:Fits [(lJ.nm,sS)] D)(ok:qG [(lJ.nm,sS)])(qm:mX (l2 [(lJ.nm,sS)]) D.many D.b=.ok at_ G)(n4:qh G (eP D.many) at_=.ok (p,ms))(hj:nS G at_ (eg deep D.b) ms=R)(nb:R≠.bad)(aV:0<σ.length)(hp:σ[kp]? =I (.list [cx φ lJ,cx φ D])) :
  cf (MarkX σ R) σ (aX (d+18) "marked" [.ref kp,.int 1]) (zt φ σ R):=by
 rw[aeM];refine cQ (a:=.bool ak) (af:=σ) ((aN (m:=cmp _ _ _) (a:=.bool ak) ab).trans (adg.trans ((aN (oT hp)).trans ((aN (m:=cmp _ _ _) (a:=.bool ak) ab).trans ab)))) (cQ (m:=truth _) (a:=ak) (af:=σ) ab (zj ab ?_));refine cQ (m:=binop _ _ _) (a:=.int 2) (af:=σ) ab (cQ (m:=bound _) ab (cQ (m:=bound _) ab (cQ (Ay hp) ?_)));rw[show cut [cx φ lJ,cx φ D] U (I 2)=[lJ,D].map (cx φ) from ab];refine aE λkk=>?_;have aj:(σ++[O.list ([lJ,D].map (cx φ))]:aq).length=σ.length+1:=by rw[dM];rfl
 rcases(uF (d:=d) (kp:=σ.length) c h nofun (σ:=σ++[O.list ([lJ,D].map (cx φ))]) (by rw[aj];exact so _) b2) with ⟨_,c4,ax,aL⟩|⟨_,_,_,f5⟩
 case exc=>obtain⟨h,_⟩:=f5;cases h
 induction aL with
 |@mk c4 bb hg ie le=>
 cases hg;rw[aj]at ie ax;have dU:bx σ c4:=bx.push.trans le;refine kk (cQ ax (cQ jl (cQ (oT ie) (cQ (m:=cmp _ _ _) (a:=V.bool aH) (af:=c4) ab (cQ (m:=truth _) (a:=aH) (af:=c4) ab (zj ab ?_))))));have M7:=dU.list hp;refine cQ (m:=bP _) ab (cQ (nK (by decide)) ?_);refine(CA (E:=MarkX σ R) (Q:=zt φ σ R) (X:=Nat) (S:=Option Nat) (xs:=[0]) (g:=λj=>V.int (j:Int)) (L:=λs=>[I (.ref kp),I (.int 1),I (.ref (σ.length+1+1)),I (.ref c4.length),s.map λj=>V.int (j:Int),U,U,U,U,U,U,U,U,U,U,U]) (J:=λae=>True) ab jO (λr s aC=>r=[0]/\aC=c4++[O.dict 0 []]\/r=[]/\aC=c4++[O.dict 1 (kt φ [(lJ.nm,sS)])]) (λae=>aS) U (.inl ⟨ab,ab⟩) (λx r s aC aI aU=>?_) λs aC aU=>?_)
 ·rcases aU with ⟨aP,rfl⟩|⟨aP,_⟩
  ·cases aP;refine wy (aeO ..) (cQ (jS (x:=ep φ sS) (cK ie) (by decide) ab) (cQ (jS (x:=cx φ lJ) (cK M7) (by decide) ab) (cQ gn (cQ (EX (key:=.inr (lZ lJ.nm)) b2 (di aV dU.len:0<c4.length) ab (by decide +kernel)) (ja (.next (I 0) (.inr ⟨ab,?_⟩)))))));rw[EH];rfl
  ·cases aP
 ·rcases aU with ⟨aP,_⟩|⟨_,rfl⟩
  ·cases aP
  ·have du:bx σ (c4++[O.dict 1 (kt φ [(lJ.nm,sS)])]):=dU.new;refine(SZ (d:=d+1) c fit ok qm n4 hj nb (by rw[dM];exact so _) ⟨1,b2⟩ (λaC h=>jS (x:=cx φ D) (h.list (cK M7)) (by decide) ab)).mono (λv aC aU=>?_) λe aC aU=>?_
   ·obtain⟨mk,ck,h,e,h1,le⟩:=aU;exact⟨mk,ck,h,e,h1,du.trans le⟩
   ·obtain⟨h,n,h1,h2,h3⟩:=aU;exact⟨h,n,h1,h2,du.trans h3⟩
end
noncomputable def eY(zs:List Int)(k:Nat):Int:=match zs[k]? with
 |some z=>z*48271 % 2147483647
 |none=>0
theorem ac0{zs:List Int}{k:Nat}:0<=eY zs k:=by
 unfold eY
 induction zs[k]? with
 |some z=>exact sx _ (by decide)
 |none=>decide
theorem xT{d:Nat}{zs:List Int}{σ:aq}{k:Nat}(h:σ[0]? =I (.list (zs.map .int))):aX (d+1) "_law_cell" [.ref 0,.int k] σ=.ok (.int (eY zs k)) σ:=by
 rw[aiA];unfold eY;refine(aN (oT h)).trans ((aN (m:=cmp _ _ _) (a:=.bool (decide ((k:Int)<((zs.map V.int).length:Int)))) (af:=σ) ab).trans ((aN (m:=truth _) ab).trans ?_));rw[c3]
 induction e:zs[k]? with
 |none=>
  have:¬(k:Int)<(zs.length:Int):=λq=>by
   have q:k<zs.length:=by lia
   replace e:=(iw q ..) ▸ e;cases e
  rw[jI this];rfl
 |some z=>
  have:=dy e;rw[kg (show(k:Int)<(zs.length:Int) by lia)];exact(aN (jS (x:=.int z) h (kj k) (by rw[Int.toNat_natCast,ki,e];rfl))).trans ((aN (Lj (by decide))).trans ((aN (jR (by decide))).trans ab))
def Il(cs:List Nat):Prop:=∀c∈cs,97<=c/\c<123
noncomputable def eC(cs:List Nat)(k:Nat)(z:Int)(j:Nat):Str:=⟨(cs.take k++(97+((z+3*(j:Int)) % 26).toNat)::cs.drop k).toArray⟩
theorem Mh(x:Int):97<=97+(x % 26).toNat/\97+(x % 26).toNat<123:=⟨g0 _ _,Nat.add_lt_add_left ((DA (sx _ (by decide))).mpr (zW _ (by decide))) 97⟩
theorem GY:∀(cs:List Nat) (acc:Array Nat),(cs.map hk).foldl (λacc p=>acc++(aB "").cps++p.cps) acc=acc++cs.toArray:=by
 intro ey
 induction ey with
 |nil=>
  intro acc;simp
 |cons c cs GY=>
  intro acc;rw[eE,List.foldl_cons,GY];refine(?_:acc ++ #[] ++ #[c]++cs.toArray=acc++(c::cs).toArray);simp
theorem N1:∀cs:List Nat,Txt.join (aB "") (cs.map hk)=⟨cs.toArray⟩:=by
 intro ey
 induction ey with
 |nil=>exact ab
 |cons c cs N1=>
  refine(?_:(⟨((c::cs).map hk |>.drop 1).foldl (λacc p=>acc++(aB "").cps++p.cps) (hk c).cps⟩:Str)=_);rw[eE,List.drop_one,List.tail_cons,GY];refine(?_:(⟨#[c]++cs.toArray⟩:Str)=_);simp
theorem adP:∀ss:List Str,allStrs (ss.map V.str)=I ss:=by
 intro ss
 induction ss with
 |nil=>rfl
 |cons y r au=>
  refine(?_:(allStrs (r.map V.str)).map _=_);rw[au];rfl
theorem Wr{C:Cfg}{nm:Str}{σ:aq}{n:Nat}{cs:List Nat}(h:σ[n]? =I (.list (cs.map λc=>V.str (hk c))))(aj:cs.length<=100):runM C nm .join (.str "") [.ref n] σ=.ok (.str ⟨cs.toArray⟩) σ:=by
 have e:allStrs (cs.map λc=>V.str (hk c))=I (cs.map hk):=by
  rw[show(cs.map λc=>V.str (hk c))=(cs.map hk).map V.str from(iv ..).symm];exact adP _
 refine(aN (i2 h)).trans ((aN (a:=cs.map hk) (af:=σ) (by rw[e];rfl)).trans ?_);have h1:((cs.map hk).map (·.length)).sum=cs.length:=by
  rw[iv];clear h aj e
  induction cs with
  |nil=>rfl
  |cons c cs au=>rw[eE,List.sum_cons,au,gy];exact show 1+_=_ from lO (jW 0x212008108020 ab) (jW 0x810802120020 ab)
 rw[bj (by rw[h1,(by decide +kernel:(aB "").length=0)];exact fk 0x1000000F84A01900100C9E09021 ab aj),N1];rfl
theorem sign_is(aV:0<=k)(h1:k<26):item (.str "abcdefghijklmnopqrstuvwxyz") (.int k) σ=.ok (.str (hk (97+k.toNat))) σ:=by
 refine(?_:bE ((place k (aB "abcdefghijklmnopqrstuvwxyz").length).bind λj=>((aB "abcdefghijklmnopqrstuvwxyz").cps[j]?).map λc=>V.str (hk c)) σ=_);rw[Lu aV (by rw[(by decide +kernel:(aB "abcdefghijklmnopqrstuvwxyz").length=26)];exact h1)];refine(?_:bE (((aB "abcdefghijklmnopqrstuvwxyz").cps[k.toNat]?).map λc=>V.str (hk c)) σ=_);rw[(by decide +kernel:∀j:Fin 26,(aB "abcdefghijklmnopqrstuvwxyz").cps[j.val]? =I (97+j.val)) ⟨k.toNat,JZ (n:=26) aV h1⟩];rfl
theorem OQ{α:Type}{l:List α}{k:Int}(aV:0<=k)(h1:k<=l.length):cut l U (I k)=l.take k.toNat:=by
 unfold cut;refine(?_:(l.drop 0).take (clipAt l.length k-0)=_);rw[show clipAt l.length k=k.toNat by exact O1 aV h1];rfl
theorem OR{α:Type}{l:List α}{k:Int}(aV:0<=k)(h1:k<=l.length):cut l (I k) U=l.drop k.toNat:=by
 unfold cut;refine(?_:(l.drop (clipAt l.length k)).take (l.length-clipAt l.length k)=_);rw[show clipAt l.length k=k.toNat by exact O1 aV h1,List.take_of_length_le (by rw[I5];exact cI _)]
theorem Yl{cs:List Nat}{k z:Int}{j:Nat}(aV:0<=k)(h1:k<=cs.length)(eS:cs.length<=6){σ:aq}{f:V->M (a6×Loc)}{Q:a6×Loc->aq->Prop}(q:Wp σ (f (.str (eC cs k.toNat z j))) Q) :
  Wp σ (bound V.none>>=λi=>bound (V.int k)>>=λdH=>iP i dH (.str ⟨cs.toArray⟩)>>=λt=>binop .Add t (.str (hk (97+((z+3*(j:Int)) % 26).toNat)))>>=λbX=>bound (V.int k)>>=λi=>bound V.none>>=λdH=>iP i dH (.str ⟨cs.toArray⟩)>>=λu=>binop .Add bX u>>=f) Q:=by
 have ax:pC ⟨cs.toArray⟩ U (I k)=⟨(cs.take k.toNat).toArray⟩:=by unfold pC;rw[OQ aV h1]
 have aO:pC ⟨cs.toArray⟩ (I k) U=⟨(cs.drop k.toNat).toArray⟩:=by unfold pC;rw[OR aV h1]
 have add:∀(x y:List Nat),x.length+y.length<=100->binop .Add (.str ⟨x.toArray⟩) (.str ⟨y.toArray⟩) σ=.ok (.str ⟨(x++y).toArray⟩) σ:=λx y h=>by
  refine(?_:(if x.toArray.size+y.toArray.size<=bz then pure (V.str (⟨x.toArray⟩++⟨y.toArray⟩)) else M.bad:M V) σ=_);rw[bj (by rw[k1,k1];exact gq 0x43140100C9E098A00849000000F8422 ab (ab:(16777216:Nat)=bz) h)];refine(?_:Res.ok (V.str ⟨x.toArray++y.toArray⟩) σ=_);simp
 refine aG ab (aG ab (aG (a:=.str ⟨(cs.take k.toNat).toArray⟩) (by rw[<-ax];rfl) (aG (add _ [_] (b7 (pV (b7 (aj4 _ _) eS)) (by decide))) (aG ab (aG ab (aG (a:=.str ⟨(cs.drop k.toNat).toArray⟩) (by rw[<-aO];rfl) (aG (add _ _ (by rw[dM,I5];exact b7 (Du (pV (b7 (aj4 _ _) eS)) (b7 (Dr _ _) eS)) (by decide))) ?_)))))));rw[jM];exact q
noncomputable def lQ:Str := "zzzzzzzz"
theorem XY:∀{x:List Nat}{n:Nat},x.length<n->(∀c∈x,c<123)->x<List.replicate n 122:=by
 intro x
 induction x with
 |nil=>
  intro n h _
  induction n using Nat.casesOn with
  |zero=>exact absurd h (hZ _)
  |succ n=>exact List.Lex.nil
 |cons a x au=>
  intro n h ay
  induction n using Nat.casesOn with
  |zero=>exact absurd h (IW _)
  |succ n=>
   rcases kh a 122 with h1|h1
   ·exact List.Lex.rel h1
   ·have:a=122:=lO (zM (ay a b8)) h1;subst this;exact List.Lex.cons (au (IX h) λc aI=>ay c (da _ aI))
theorem Sm:lQ.cps.toList=List.replicate 8 122:=by decide +kernel
theorem Yk{cs:List Nat}{k:Nat}{z:Int}{j:Nat}(h:Il cs)(aj:cs.length<=6):strLt (eC cs k z j) lQ=ak:=by
 unfold strLt;rw[Sm];refine kg (XY ?_ λc ay=>?_)
 ·unfold eC;rw[I0,dM,gy,Dx,I5];exact XI aj
 ·unfold eC at ay;rw[I0]at ay;rcases hs.mp ay with ay|ay
  ·exact(h c (ajU ay)).2
  ·rcases cY.mp ay with rfl|ay
   ·exact(Mh _).2
   ·exact(h c (ajV ay)).2
structure QG(ls:List Str):Prop where
 four:ls.length=4
 lQ:∀x∈ls,strLt x lQ=ak
 ne:∀(i j:Nat) (x:Str),i<j->ls[i]? =I x->ls[j]? =I x->False
theorem Yn:∀j:Nat,j<4->∀i:Nat,i<j->(3*(i:Int)-3*(j:Int)) % 26≠0:=by decide
theorem Ym{cs:List Nat}{k i j:Nat}{z:Int}(h:i<j)(bw:j<4)(e:eC cs k z i=eC cs k z j):False:=by
 unfold eC at e;have e:=dR (λs:Str=>s.cps.toList) e;replace e:cs.take k++(97+((z+3*(i:Int)) % 26).toNat)::cs.drop k=cs.take k++(97+((z+3*(j:Int)) % 26).toNat)::cs.drop k:=by simpa using e
 have q:(z+3*(i:Int)) % 26=(z+3*(j:Int)) % 26:=(vo (by decide)).trans ((dR Nat.cast (Nat.add_left_cancel (pX (List.append_cancel_left e)).1)).trans (vo (by decide)).symm);have q:=Int.emod_eq_emod_iff_emod_sub_eq_zero.mp q;rw[show z+3*(i:Int)-(z+3*(j:Int))=3*(i:Int)-3*(j:Int) by lia]at q;exact Yn j bw i h q
theorem Yi{cs:List Nat}{k:Nat}{z:Int}(h:Il cs)(eS:cs.length<=6):QG ((eP 4).map (eC cs k z)):=⟨by rw[c3,k2],λx aI=>by obtain⟨j,_,rfl⟩:=iK.mp aI;exact Yk h eS,λi j x fE aR bw=>by
 rw[ki]at aR bw;obtain⟨dH,h1,rfl⟩:=hr.mp aR;refine map_some bw λFT h2 h3=>?_;have hy:=dy h1;have iR:=dy h2;replace h1:=(I6 ..) ▸ (iw hy ..) ▸ h1;replace h2:=(I6 ..) ▸ (iw iR ..) ▸ h2;replace iR:=(k2 ..) ▸ iR;cases h1;cases h2;exact Ym fE iR h3.symm⟩
inductive Rt(size:Nat)(σ:aq)(r:List Nat)(acc:List V):aq->Prop
 |mk(cs:List Nat)(bu:acc=cs.map λc=>V.str (hk c))(aj:cs.length+r.length=size)(low:Il cs):Rt size σ r acc σ
inductive QE(f:Nat)(o8:Nat->Str)(β:aq)(r:List Nat)(s:Option V×Option V)(σ:aq):Prop
 |mk(i:Nat)(aR:i+r.length=4)(aP:r=(eP 4).drop i)(e:σ[f]? =some (.list (((eP i).map o8).map V.str)))(le:dC β σ):QE f o8 β r s σ
inductive QH(σ:aq)(v:V)(af:aq):Prop
 |mk(n:Nat)(ls:List Str)(e:v=.ref n)(aM:σ.length<=n)(h:af[n]? =some (.list (ls.map V.str)))(l:QG ls)(le:dC σ af):QH σ v af
theorem Yj{d:Nat}{σ:aq}{c:Int}:Wp σ (aX (d+1) "_law_labels" [.int c,.int 4]) (QH σ):=by
 rw[ah0];have gf:0<=c % 7/\c % 7<7:=⟨sx _ (by decide),zW _ (by decide)⟩;refine aG (jR (by decide)) (aG (mZ (by decide)) (aG ab ?_));generalize c % 7=size at gf;obtain⟨n,rfl⟩:∃n:Nat,size=n:=⟨size.toNat,(Sd gf.1).symm⟩;have aM:n<7:=qX.mp gf.2;refine aG (jR ⟨akj gf.1,zV (Sh gf.2 1) (by decide)⟩) (aG (mZ (by decide)) (aG (jR (by decide)) (aG ab (aG (nK ⟨pY (by decide) gf.1,pY (w8 gf.2) (by decide)⟩) ?_))));have fm:0<=c / 7 % ((n:Int)+1)/\c / 7 % ((n:Int)+1)<=n:=by
  have hp:0<(n:Int)+1:=akj gf.1;exact⟨sx _ (I8 hp),Int.lt_add_one_iff.mp (zW _ hp)⟩
 generalize c / 7 % ((n:Int)+1)=k at fm;generalize c / 49 % 26=Ah;refine HS (X:=Nat) (xs:=eP n) (g:=λj=>V.int (j:Int)) (L:=λo=>[U,o.map λj=>V.int (j:Int),I (.int c),I (.str "abcdefghijklmnopqrstuvwxyz"),I (.int Ah)]) (J:=λae=>True) ab (by rw[sO];exact jO) ah3 (ah4 ..) (by rw[k2];exact b7 (pW aM) (by decide +kernel)) (λae az=>ah6 ..) (ah2 _)
  (Rt n σ) (λae=>aS) (.mk [] ab (by rw[k2];exact lM _) nofun) (λi r acc aC aR hp=>?_) λout aC hp=>?_
 ·induction hp with
  |mk cs bu aj low=>
  have aR:=Dw.mp aR;have hm:0<=(Ah+c / 1274*(i:Int)) % 26/\(Ah+c / 1274*(i:Int)) % 26<26:=⟨sx _ (by decide),zW _ (by decide)⟩;refine fJ (ah5 ..) (aG (mZ (by decide)) (aG (Lj ⟨zV (by decide) (kj i),DD (qX.mpr (w1 aR aM)) (by decide)⟩) (aG ab (aG (jR (by decide)) (aG (sign_is hm.1 hm.2) (cD (.mk (cs++[_]) (by rw[bu,h0];rfl) (by rw[dM];rw[gy]at aj;rw[zS];lia) λx aI=>?_)))))));rcases hs.mp aI with aI|aI
  ·exact low x aI
  ·rw[bT.mp aI];exact Mh _
 ·induction hp with
  |mk cs bu hlen ZQ=>
  subst bu;replace hlen:cs.length=n:=hlen;refine aG (Wr b2 (by rw[hlen];lia)) (aG ab (aG (nK (by decide)) ?_));have hle:dC σ (σ++[O.list (cs.map λc=>V.str (hk c))]++[O.list []]):=bZ.push.new;have Gv:(σ++[O.list (cs.map λc=>V.str (hk c))]++[O.list []])[(σ++[O.list (cs.map λc=>V.str (hk c))]).length]? =I (.list []):=b2;have a8:σ.length<(σ++[O.list (cs.map λc=>V.str (hk c))]).length:=by simp
  generalize (σ++[O.list (cs.map λc=>V.str (hk c))]).length=f at Gv a8;generalize σ++[O.list (cs.map λc=>V.str (hk c))]++[O.list []]=ht at Gv hle;refine mB (X:=Nat) (S:=Option V×Option V) (xs:=eP 4) (g:=λj=>V.int (j:Int)) (L:=λs=>[I (.int c),I (.int 4),I (.str "abcdefghijklmnopqrstuvwxyz"),I (.int n),I (.int k),I (.int Ah),s.1,I (.str ⟨cs.toArray⟩),I (.ref f),s.2,U]) (J:=λae=>True) ab jO (QE f (eC cs k.toNat (c / 49)) σ) (λae=>aS) (U,U) (.mk 0 ab ab Gv hle) (λx r s aC aI hp=>?_) λs aC hp=>?_
  ·obtain⟨i,aR,aP,aj,hle⟩:=hp;have BF:(eP 4)[i]? =I x:=by rw[<-aj7,<-aP];rfl
   have Zk:x=i:=by have bf:=dy BF;rw[iw bf,I6]at BF;exact(mQ BF).symm
   subst Zk;have hm:0<=(c / 49+3*(x:Int)) % 26/\(c / 49+3*(x:Int)) % 26<26:=⟨sx _ (by decide),zW _ (by decide)⟩;refine fJ (ah1 ..) (aG (mZ (by decide)) (aG (Lk (by decide)) (aG ab (aG (jR (by decide)) (aG (sign_is hm.1 hm.2) (aG (jk aj ab) (Yl fm.1 (by rw[hlen];exact fm.2) (by rw[hlen];exact zM aM) (aG (k8 aj (fz (iu _) a8) (by rw[c3,c3,k2];rw[gy]at aR;exact fz (by lia:x<=4) (by decide +kernel))) (cD (.next (_,_) (.mk (x+1) (by rw[gy]at aR;lia) ?_ ?_ (hle.hQ (pW a8)))))))))))))
   ·rw[wd BF]at aP;exact(pX aP).2
   ·rw[ajT,h0,h0];exact fg aj
  ·obtain⟨i,aR,_,aj,hle⟩:=hp;replace aR:i=4:=aR;subst aR;exact fJ (ah7 ..) (cD ⟨f,_,ab,pW a8,aj,Yi ZQ (by rw[hlen];exact zM aM),hle⟩)
mutual
noncomputable def cR(φ:Nat->Str):cG->V
 |.a7 f ps=>l0 φ f (z9 φ ps)
noncomputable def z9(φ:Nat->Str):List cG->List V
 |[]=>[]
 |b::bs=>cR φ b::z9 φ bs
end
theorem JL{φ:Nat->Str}{bs:List cG}:z9 φ bs=bs.map (cR φ):=by
 induction bs with
 |nil=>rfl
 |cons b bs au=>rw[z9,au];rfl
theorem To{φ:Nat->Str}:∀{n:Nat}{b:cG},i4 n b=ak->gk φ n b=cR φ b:=by
 intro n
 induction n with
 |zero=>intro b h;cases h
 |succ n au=>
  intro b h
  induction b using cG.casesOn with
  |a7 f ps=>
   refine(?_:l0 φ f (ps.map (gk φ n))=_);rw[cR,JL];exact dR (l0 φ f) (zR λp hp=>au (((vf h).2) p hp))
noncomputable def hR(s:Str)(j:Nat):Str:=⟨(s.cps.toList++List.replicate j 97).toArray⟩
def pick:List Str->Nat->Str
 |[],j=>hR "" j
 |s::r,j=>match r with
  |[]=>hR s j
  |_::_=>match j with
   |0=>s
   |j+1=>pick r j
def sl:List Str->Prop
 |[]=>True
 |s::r=>match r with
  |[]=>True
  |t::_=>strLt s t=ak/\sl r
section
variable {s t u:Str}{i j:Nat}{ss:List Str}
theorem g9:hR s 0=s:=by unfold hR;simp
theorem Wb:i<j->List.replicate i 97<List.replicate j 97:=by
 induction i generalizing j with
 |zero=>intro h;induction j using Nat.casesOn with
  |zero=>exact absurd h (hZ _)
  |succ j=>exact List.Lex.nil
 |succ i au=>intro h;induction j using Nat.casesOn with
  |zero=>exact absurd h (IW _)
  |succ j=>exact List.Lex.cons (au (IX h))
theorem adN{a b c:List Nat}(h:b<c):a++b<a++c:=by
 induction a with
 |nil=>exact h
 |cons x a au=>exact List.Lex.cons au
theorem Fa(h:i<j):strLt (hR s i) (hR s j)=ak:=by
 unfold strLt hR;rw[I0,I0];exact kg (adN (Wb h))
theorem EN(h:strLt s t=ak)(h':strLt t u=ak):strLt s u=ak:=kg (aj1 (qS h) (qS h'))
theorem Vn(h:strLt s t=ak):strLt s (hR t j)=ak:=by
 induction j using Nat.casesOn with
 |zero=>rw[g9];exact h
 |succ j=>refine EN h ?_;have:=Fa (s:=t) (so j);rw[g9]at this;exact this
theorem WS(h:sl (t::ss))(aD:strLt s t=ak):strLt s (pick (t::ss) j)=ak:=by
 induction ss generalizing t j with
 |nil=>exact Vn aD
 |cons u r au=>
  induction j using Nat.casesOn with
  |zero=>exact aD
  |succ j=>exact au h.2 (EN aD h.1)
theorem WR(h:sl ss)(fE:i<j):strLt (pick ss i) (pick ss j)=ak:=by
 induction ss generalizing i j with
 |nil=>exact Fa fE
 |cons s r au=>
  induction r using List.casesOn with
  |nil=>exact Fa fE
  |cons t r=>
   induction j using Nat.casesOn with
   |zero=>exact absurd fE (IW _)
   |succ j=>
    induction i using Nat.casesOn with
    |zero=>exact WS (j:=j) (ss:=r) h.2 h.1
    |succ i=>exact au h.2 (IX fE)
end
def jU(C:Nat->List Str)(l:Nat):Str:=pick (C (l / 8)) (l % 8)
theorem WY{C:Nat->List Str}(h:∀c,sl (C c)):cW (jU C):=λi j ay fE=>by
 have ay:i / 8=j / 8:=ay;unfold jU;rw[ay];exact WR (h _) (XD fE ay)
inductive lC(f:Nat->Option PyData)(m:Nat)(u v:V):Prop
 |mk(d:PyData)(h1:mU f u=some d)(h2:mU f v=some d)(h3:d.depth<=m)(bf:PyData.eqv d d=true):lC f m u v
inductive tZ(f:Nat->Option PyData)(m:Nat)(u v:List V):Prop
 |mk(d:List PyData)(h1:g6 f u=some d)(h2:g6 f v=some d)(h3:PyData.depthAll d<=m)(bf:PyData.eqvAll d d=true):tZ f m u v
section
variable {φ:Nat->Str}{σ:aq}{f:Nat->Option PyData}{m ej n x y:Nat}{u v a b:V}{l l':List V}
theorem lC.mono(h:lC f m u v)(hm:m<=ej):lC f ej u v:=by obtain⟨d,a,b,c,e⟩:=h;exact⟨d,a,b,b7 c hm,e⟩
theorem same_str{s:Str}:lC f m (.str s) (.str s):=⟨.str s,ab,ab,by simp [PyData.depth],by simp [PyData.eqv]⟩
theorem same_int{i:Int}:lC f m (.int i) (.int i):=⟨.int i,ab,ab,by simp [PyData.depth],by simp [PyData.eqv]⟩
theorem same_none:lC f m .none .none:=⟨.none,ab,ab,by simp [PyData.depth],by simp [PyData.eqv]⟩
theorem rb:tZ f m [] []:=⟨[],ab,ab,by simp [PyData.depthAll],by simp [PyData.eqvAll]⟩
theorem kv(h:lC f m u v)(h':tZ f m l l'):tZ f m (u::l) (v::l'):=by
 refine aE λkk=>?_;obtain⟨d,h1,h2,h3,bf⟩:=h;obtain⟨ds,cP,eS,ml,vZ⟩:=h';refine kk ?_;refine⟨d::ds,?_,?_,?_,?_⟩
 ·refine(?_:(match mU f u,g6 f l with|some d,some ds=>I (d::ds)|_,_=>U)=_);rw[h1,cP]
 ·refine(?_:(match mU f v,g6 f l' with|some d,some ds=>I (d::ds)|_,_=>U)=_);rw[h2,eS]
 ·exact(Nat.max_le.mpr ⟨h3,ml⟩:max d.depth (PyData.depthAll ds)<=m)
 ·refine(?_:(PyData.eqv d d&&PyData.eqvAll ds ds)=ak);rw[bf,vZ];rfl
theorem EJ:∀{l:List V},(∀x∈l,lC f m x x)->tZ f m l l:=by
 intro l
 induction l with
 |nil=>intro _;exact rb
 |cons x l au=>intro h;exact kv (h x b8) (au λy bL=>h y (da _ bL))
theorem rd(h:tZ f m l l'):lC f (m+1) (.tup l) (.tup l'):=by
 refine aE λkk=>?_;obtain⟨ds,h1,h2,h3,bf⟩:=h;refine kk ?_;refine⟨.tuple ds,?_,?_,pV h3,bf⟩
 ·refine(?_:(g6 f l).map PyData.tuple=_);rw[h1];rfl
 ·refine(?_:(g6 f l').map PyData.tuple=_);rw[h2];rfl
theorem KG{k:Nat}(ex:σ[x]? =I (.list l))(oa:σ[y]? =I (.list l'))(h:tZ (i1 σ k) m l l'):lC (i1 σ (k+1)) (m+1) (.ref x) (.ref y):=by
 refine aE λkk=>?_;obtain⟨ds,h1,h2,h3,bf⟩:=h;refine kk ?_;refine⟨.list ds,?_,?_,pV h3,bf⟩
 ·refine(?_:i1 σ (k+1) x=_);rw[sG ex,h1];rfl
 ·refine(?_:i1 σ (k+1) y=_);rw[sG oa,h2];rfl
theorem DZ(h:lC (i1 σ 4) m u v)(hm:m<=200):eG σ u v=I ak:=by
 obtain⟨d,h1,h2,h3,bf⟩:=h;unfold eG;rw[show toPy σ u=I d from h1,show toPy σ v=I d from h2];refine(?_:(if min d.depth d.depth<=200 then I (PyData.eqv d d) else U)=_);rw[bj (b7 (Nat.min_le_left _ _) (b7 h3 hm)),bf]
theorem AJ:∀{n:Nat}{k:a4},xY n k=ak->lC f (3*n) (bV φ k) (bV φ k):=by
 intro n
 induction n with
 |zero=>intro k h;cases h
 |succ n au=>
  intro k h
  induction k using a4.casesOn with
  |num=>exact(rd (m:=0) (kv same_str rb)).mono (by lia)
  |blank i=>exact(rd (m:=0) (kv same_str (kv same_int rb))).mono (by lia)
  |dc fs r=>
   rw[bV,nM];refine(rd (m:=3*n+2) (kv same_str (kv (rd (m:=3*n+1) (EJ λx aI=>?_)) (kv ?_ rb)))).mono (by lia)
   ·obtain⟨p,hp,rfl⟩:=iK.mp aI;exact rd (kv same_str (kv (au (ec.mp h p hp)) rb))
   ·induction r with
    |none=>exact same_none
    |some i=>exact same_int
theorem KC{p:List a4×a4}(h:oY 14 p=ak):lC f 44 (ep φ p) (ep φ p):=by
 refine hK h λh1 h2=>rd (m:=43) (kv (rd (m:=42) (EJ λx aI=>?_)) (kv ((AJ (n:=14) h2).mono (by decide)) rb));obtain⟨k,ao,rfl⟩:=iK.mp aI;exact AJ (n:=14) (ec.mp h1 k ao)
theorem D0{ss:List (List a4×a4)}{s:Str}(h:ss.all (oY 14)=ak)(ex:σ[x]? =I (.list (ss.map (ep φ))))(oa:σ[y]? =I (.list (ss.map (ep φ)))):eG σ (.tup [.str s,.ref x]) (.tup [.str s,.ref y])=I ak:=
 DZ (m:=46) (rd (m:=45) (kv same_str (kv (KG (k:=3) ex oa (EJ λx aI=>by
  obtain⟨p,hp,rfl⟩:=iK.mp aI;exact KC (ec.mp h p hp))) rb))) (by decide)
end
mutual
theorem a4.beq_eq:∀{a b:a4},a.beq b=ak->a=b
 |.num,.num,_=>rfl
 |.blank i,.blank j,h=>by rw[show i=j from beq_iff_eq.mp h]
 |.dc fs r,.dc gs q,h=>hK h λh1 h2=>by rw[a4.Pj h1,show r=q from beq_iff_eq.mp h2]
theorem a4.Pj:∀{a b:List (Nat×a4)},a4.HA a b=ak->a=b
 |[],[],_=>rfl
 |p::fs,q::gs,h=>hK h λh1 h2=>hK h2 λh2 h3=>by rw[a4.Pj h3,show p=q from pU (beq_iff_eq.mp h1) (a4.beq_eq h2)]
end
theorem MC:∀{a b:List a4},Bi a b=ak->a=b:=by
 intro a
 induction a with
 |nil=>intro b h;induction b using List.casesOn with
  |nil=>rfl
  |cons=>cases h
 |cons x a au=>intro b h;induction b using List.casesOn with
  |nil=>cases h
  |cons y b=>exact hK h λh1 h2=>by rw[a4.beq_eq h1,au h2]
theorem Uo:∀{bb:ih}{ks:List (List a4×a4)},Ae bb ks=ak->bb.map (·.2)=ks:=by
 intro bb
 induction bb with
 |nil=>intro ks h;induction ks using List.casesOn with
  |nil=>rfl
  |cons=>cases h
 |cons x bb au=>intro ks h;induction ks using List.casesOn with
  |nil=>cases h
  |cons y ks=>
   refine hK h λh1 h2=>hK h2 λh2 h3=>?_;rw[eE,au h3];exact dR (· :: ks) (pU (MC h1) (a4.beq_eq h2))
section
variable {φ:Nat->Str}{σ af aC:aq}{d kp kn m l:Nat}{ls ws:List Nat}{α:Type}{K:V->M α}{Q:α->aq->Prop}{b:cG}{more hT:Int}
theorem uH{f:qM}{ps:List cG}:cR φ (.a7 f ps)=l0 φ f (ps.map (cR φ)):=by rw[cR,JL]
theorem sF{ps:List (Nat×cG)}:cR φ (kQ ps)=.tup [.str "make",.tup (ps.map λp=>.tup [.str (φ p.1),cR φ p.2])]:=by
 unfold kQ;rw[uH];refine dR (λl=>V.tup [.str "make",.tup l]) ?_;rw[iv,List.zip_map',iv];rfl
theorem D1:cR φ (tQ b l)=.tup [.str "get",cR φ b,.str (φ l)]:=uH (f:=.get l) (ps:=[b])
theorem xh{z:Int}:cR φ (mz z)=.tup [.str "number",.int z]:=uH (f:=.num z) (ps:=[])
theorem xi{i:Nat}:cR φ (i9 i)=.tup [.str "input",.int i]:=uH (f:=.fT i) (ps:=[])
theorem uI:cR φ (r2 b)=.tup [.str "call",.str "f",.tup [cR φ b]]:=uH (f:=.call) (ps:=[b])
theorem JM{c:cG}:cR φ (HE b l c)=.tup [.str "put",cR φ b,.str (φ l),cR φ c]:=uH (f:=.put l) (ps:=[b,c])
theorem Ye:cut (bF φ (l::ls)) (I 1) U=bF φ ls:=OR (k:=1) (by decide) (by unfold bF;rw[eE,gy];lia)
theorem zi(h:σ[kp]? =I (.list (bF φ (l::ls))))(k:Wp (σ++[O.list (bF φ ls)]) (K (.ref σ.length)) Q):Wp σ (bound (V.int 1)>>=λi=>bound V.none>>=λj=>iP i j (.ref kp)>>=K) Q:=
 aG (m:=bound _) ab (aG (m:=bound _) ab (aG ((Ay h).trans (by rw[Ye])) k))
theorem ry(h:σ[kp]? =I (.list (bF φ (l::ls)))):item (.ref kp) (.int 0) σ=.ok (.str (φ l)) σ:=jS h (by decide) ab
theorem r6{n:M α}{m:M α}{Q:α->aq->Prop}(h:σ[kp]? =I (.list (bF φ ls)))(h1:ls=[]->Wp (σ++[O.list []]) m Q)(h2:ls≠[]->Wp (σ++[O.list []]) n Q):Wp σ (bP (.list [])>>=λt=>cmp .Eq (.ref kp) t>>=λt=>truth t>>=λb=>M.cond b m n) Q:=by
 refine aG (m:=bP _) ab (aG (u3 (JK (cK h) b2)) (aG (m:=truth _) ab ?_))
 induction ls using List.casesOn with
 |nil=>exact hM ab (h1 ab)
 |cons l ls=>exact hN ab (h2 nofun)
theorem XX(h:σ[kp]? =I (.list (bF φ ls))):aX (d+1) "_law_got" [cR φ b,.ref kp] σ=.ok (cR φ (rO b ls)) σ:=by
 refine KY ?_
 suffices w:Wp σ (aX (d+1) "_law_got" [cR φ b,.ref kp]>>=λv=>cv v) (fy (cR φ (rO b ls)) λaC=>aC=σ) by
  obtain⟨_,e,rfl⟩:=w.v;exact e
 rw[aie];refine Wp.step (P:=fy (cR φ (rO b ls)) λaC=>aC=σ) (aG (kx h) (mB (X:=Nat) (S:=cG×Option V) (xs:=ls) (g:=λl=>.str (φ l)) (L:=λs=>[I (cR φ s.1),I (.ref kp),s.2]) (J:=λaC=>aC=σ) ab (kq λaC e=>by subst e;exact h) (λr s aC=>rO s.1 r=rO b ls/\aC=σ) (λh=>h.2) (b,U) ⟨ab,ab⟩ (λx r s aC ae aU=>?_) λs aC aU=>?_)) λv aC q=>cD q
 ·refine fJ (aif ..) (cD ?_);rw[<-D1];exact .next (tQ s.1 x,_) ⟨aU.1,aU.2⟩
 ·refine fJ (aih ..) (cD ?_);rw[show s.1=rO b ls from aU.1];exact .mk aU.2
theorem XQ:∀{ls:List Nat}{b:cG}{σ:aq}{kp:Nat},ls≠[]->σ[kp]? =I (.list (bF φ ls))->Wp σ (aX (d+ls.length) "_law_put" [cR φ b,.ref kp]) (fy (cR φ (E7 b ls)) (d3 σ)):=by
 intro ls
 induction ls with
 |nil=>intro b σ kp h;exact(h ab).elim
 |cons l ls au=>
  intro b σ kp _ h;rw[show d+(l::ls).length=(d+ls.length)+1 from ab,ahm];refine aG (oT h) (aG u2 (aG (m:=truth _) ab ?_));rw[show(bF φ (l::ls)).length=ls.length+1 by unfold bF;rw[c3];rfl]
  induction ls using List.casesOn with
  |nil=>
   refine hM (by decide) (aG (ry h) (cD ?_));rw[<-xh,<-JM];exact .mk .refl
  |cons l' ls=>
   refine hN (wY.mpr (by rw[gy];lia)) (aG (ry h) (aG (ry h) (zi h ?_)));rw[<-D1];refine Wp.iO (au (b:=tQ b l) nofun b2) λaf a=>cD ?_;rw[<-JM];exact .mk (d3.push.trans a)
noncomputable def zeros(m:Nat):List V:=List.replicate m (.int 0)
inductive Qx(kn:Nat)(σ:aq)(m:Nat)(af:aq):Prop
 |mk(e:af[kn]? =some (.list (zeros m)))(le:bZ [kn] σ af)(len:σ.length<=af.length):Qx kn σ m af
theorem Jt(aM:σ[kn]? =I (.list (zeros m)))(aV:0<kn)(hm:m<1000){K:V->M α}(k:Wp (σ.set kn (.list (zeros (m+1)))) (K (.int m)) Q):Wp σ (c1 (dP (av d) (.ref kn) "append")>>=λg=>runM (av d) "append" g (.ref kn) [(V.int 0)]>>=λae=>jx (.ref kn)>>=λt=>binop .Sub t (V.int 1)>>=K) Q:=by
 refine aG (jk aM ab) (aG (k8 aM aV (by unfold zeros;rw[I4];exact w1 hm (by decide +kernel))) ?_);rw[(ajS.symm:zeros m++[.int 0]=zeros (m+1))];refine aG (oT (fg aM)) (aG (m:=binop _ _ _) (a:=.int m) (af:=σ.set kn (.list (zeros (m+1)))) ?_ k);refine(?_:Res.ok (V.int (((zeros (m+1)).length:Int)-1)) _=_);unfold zeros;rw[I4];exact dR (λz=>Res.ok (V.int z) _) (by lia)
theorem LA:∀{ls:List Nat}{m:Nat},(openK ls m).2=m+1+ls.length:=by
 intro ls
 induction ls with
 |nil=>intro m;rfl
 |cons l ls au=>intro m;refine(?_:(openK ls m).2+1=_);rw[au,gy];rfl
theorem Mc(aV:0<kn):∀{ls:List Nat}{σ:aq}{kp m:Nat},kp≠kn->σ[kp]? =I (.list (bF φ ls))->σ[kn]? =I (.list (zeros m))->m+ls.length<900->Wp σ (aX (d+ls.length+1) "_law_open" [.ref kp,.none,.ref kn]) (fy (bV φ (openK ls m).1) (Qx kn σ (openK ls m).2)):=by
 intro ls
 induction ls with
 |nil=>
  intro σ kp m dD h aM hm;rw[QJ];refine r6 h (λae=>?_) λq=>(q ab).elim;refine aG (m:=cmp _ _ _) (a:=.bool ak) (af:=σ++[O.list []]) ab (aG (m:=truth _) ab (hM ab (Jt (cK aM) aV (by lia) (cD (.mk ⟨fg (cK aM),bZ.push.set b8,?_⟩)))));rw[kB,dM];exact g0 ..
 |cons l ls au=>
  intro σ kp m dD h aM hm;rw[gy]at hm;rw[show d+(l::ls).length+1=(d+ls.length+1)+1 from ab,QJ];refine r6 h nofun λae=>?_;have h1:=cK (o':=O.list []) h;have lt:kn<(σ++[O.list []]:aq).length:=dy (cK aM);refine zi h1 (Wp.iO (au (λq=>by rw[q]at lt;exact hZ _ lt) b2 (cK (cK aM)) (by lia)) λaf q=>?_);obtain⟨e,le,len⟩:=q;refine aG (jk e ab) (aG (k8 e aV (by unfold zeros;rw[I4,(LA (ls:=ls) (m:=m))];exact fz (by lia:m+1+ls.length<=1000) (by decide +kernel))) ?_);rw[show zeros (openK ls m).2++[.int 0]=zeros ((openK ls m).2+1) from ajS.symm];refine aG (ry (ea (lL dD) (le _ _ (λq=>dD (bT.mp q)) (cK h1):af[kp]? =I (.list (bF φ (l::ls)))))) (aG (oT (fg e)) (aG (m:=binop _ _ _) (a:=.int (openK ls m).2) (af:=af.set kn (.list (zeros ((openK ls m).2+1)))) ?_ (cD ?_)))
  ·refine(?_:Res.ok (V.int (((zeros ((openK ls m).2+1)).length:Int)-1)) _=_);unfold zeros;rw[I4];exact dR (λz=>Res.ok (V.int z) _) (by lia)
  ·rw[show V.tup [.str "record",.tup [.tup [.str (φ l),bV φ (openK ls m).1]],.int (openK ls m).2]=bV φ (openK (l::ls) m).1 by refine(?_:_=bV φ (.dc [(l,(openK ls m).1)] (I (openK ls m).2)));rw[bV,nM];rfl];refine .mk ⟨fg e,(((bZ.push.new:bZ [kn] σ _).trans le).set b8),?_⟩;rw[kB];exact b7 (by rw[dM,dM];lia) len
end
noncomputable def kK:Int->Nat->List Bool
 |_,0=>[]
 |z,n+1=>(z / 4 % 2==1)::kK (z / 2) n
noncomputable def pz:Int->Nat->Bool
 |z,0=>!(z % 2==0)
 |z,n+1=>pz (z / 2) n
structure lF(φ:Nat->Str)(ls:List Nat):Prop where
 x:φ 24=aB "x"
 z:∀l∈ls,φ (l+1)=lQ/\strLt (φ l) lQ=ak/\cl (l+1)=cl l
section
variable {φ:Nat->Str}{σ af aC:aq}{d kp kn m l:Nat}{ls ws:List Nat}{α:Type}{K:V->M α}{Q:α->aq->Prop}{b:cG}{more hT:Int}
theorem lF.tail(h:lF φ (l::ls)):lF φ ls:=⟨h.x,λx aI=>h.z x (da _ aI)⟩
theorem lF.ne(h:lF φ (l::ls)):(φ l==lQ)=aH:=wY.mpr λe=>by
 have:=(h.z l b8).2.1;replace this:=(Ew ..) ▸ (e ..) ▸ this;exact fU this
theorem Jy{e5 n2:M V}{Q:V->aq->Prop}(hw:lF φ (l::ls))(h:σ[kp]? =I (.list (bF φ (l::ls))))(k:Wp σ (M.cond (more / 4 % 2==1) e5 n2) Q) :
  Wp σ ((binop .FloorDiv (.int more) (V.int 4)>>=λUZ=>binop .Mod UZ (V.int 2)>>=λUY=>cmp .Eq UY (V.int 1)>>=λUX=>truth UX>>=λadA=>M.cond adA (item (.ref kp) (V.int 0)>>=λEp=>cmp .NotEq Ep (V.str "zzzzzzzz")>>=λEo=>truth Eo>>=λHF=>M.cond HF (pure ak:M Bool) (pure aH:M Bool)) (pure aH:M Bool))>>=λadB=>M.cond adB e5 n2) Q:=by
 refine aG (a:=more / 4 % 2==1) (af:=σ) ((aN (mZ (by decide))).trans ((aN (jR (by decide))).trans ((aN u2).trans ((aN (m:=truth _) ab).trans ?_)))) k
 induction (more / 4 % 2==1) with
 |false=>rfl
 |true=>
  refine(?_:(item (.ref kp) (V.int 0)>>=λEp=>cmp .NotEq Ep (V.str "zzzzzzzz")>>=λEo=>truth Eo>>=λHF=>M.cond HF (pure ak:M Bool) (pure aH:M Bool)) σ=_);refine(aN (ry h)).trans ((aN EZ).trans ((aN (m:=truth _) ab).trans ?_));rw[show(φ l==aB "zzzzzzzz")=aH from hw.ne];rfl
theorem XV:∀{ls:List Nat}{σ:aq}{kp:Nat}{more hT:Int},lF φ ls->σ[kp]? =I (.list (bF φ ls))->Wp σ (aX (d+ls.length+1) "_law_made" [.ref kp,.int more,.int hT]) (fy (cR φ (ru ls (kK more ls.length) (pz more ls.length) hT)) (d3 σ)):=by
 intro ls
 induction ls with
 |nil=>
  intro σ kp more hT hw h;rw[QP];refine r6 h (λae=>?_) λq=>(q ab).elim;refine aG (jR (by decide)) (aG u2 (aG (m:=truth _) ab ?_));rw[show(pz more ([]:List Nat).length) = !(more % 2==0) from ab]
  induction (more % 2==0) with
  |true=>
   refine hM ab (cD ?_);rw[show ru [] (kK more ([]:List Nat).length) (!true) hT=mz hT from ab,<-xh];exact .mk .push
  |false=>
   refine hN ab (cD ?_);rw[show ru [] (kK more ([]:List Nat).length) (!false) hT=kQ [(24,mz 1)] from ab,<-xh,<-hw.x];rw[show V.tup [.str "make",.tup [.tup [.str (φ 24),cR φ (mz 1)]]]=cR φ (kQ [(24,mz 1)]) from(sF (ps:=[(24,mz 1)])).symm];exact .mk .push
 |cons l ls au=>
  intro σ kp more hT hw h;rw[show d+(l::ls).length+1=(d+ls.length+1)+1 from ab,QP];refine r6 h nofun λae=>?_;have h1:=cK (o':=O.list []) h;refine aG (ry h1) (zi h1 (aG (mZ (by decide)) (aG (m:=binop _ _ _) (a:=.int (hT+1)) ab (Wp.iO (au hw.tail b2) λaf a=>aG (m:=bP _) ab ?_))));have a2:d3 σ af:=d3.push.new.trans a;refine Jy hw (cK (a.at (cK h1))) ?_;refine(?_:Wp _ _ (fy (cR φ (kQ (if (kK more (l::ls).length).headD aH then [(l+1,mz 2),(l,ru ls (kK (more / 2) ls.length) (pz (more / 2) ls.length) (hT+1))] else [(l,ru ls (kK (more / 2) ls.length) (pz (more / 2) ls.length) (hT+1))]))) (d3 σ)));rw[show(kK more (l::ls).length).headD aH=(more / 4 % 2==1) from ab,sF]
  induction (more / 4 % 2==1) with
  |false=>exact hN ab (aG (oS b2) (cD (.mk a2.new)))
  |true=>
   refine hM ab (aG (m:=bP _) ab (aG (u5 b2 (cK b2) (by refine(?_:2<=bz);decide +kernel)) (aG (oS b2) (cD ?_))));have e:(V.str "zzzzzzzz")=.str (φ (l+1)):=by rw[(hw.z l b8).1];rfl
   rw[e,<-xh];exact .mk a2.new.new.new
theorem Lf{l:List V}(h:σ[kp]? =I (.list l))(GQ:l.length<64)(aM:xE l=U)(aD:Cv l=ak):my (.ref kp) σ=.ok (.ref σ.length) (σ++[O.list l]):=by
 refine(aN (i2 h)).trans ?_;rw[bj GQ,aM,bj aD];rfl
theorem XS:∀{ls:List Nat}{σ:aq}{kp:Nat}{more:Int},lF φ ls->σ[kp]? =I (.list (bF φ ls))->Wp σ (aX (d+ls.length+1) "_law_of_made" [.ref kp,.int more]) (fy (bV φ (nT ls (kK more ls.length) (pz more ls.length))) (d3 σ)):=by
 intro ls
 induction ls with
 |nil=>
  intro σ kp more hw h;rw[QL];refine r6 h (λae=>?_) λq=>(q ab).elim;refine aG (jR (by decide)) (aG u2 (aG (m:=truth _) ab ?_));rw[show(pz more ([]:List Nat).length) = !(more % 2==0) from ab]
  induction (more % 2==0) with
  |true=>exact hM ab (cD (.mk .push))
  |false=>
   refine hN ab (cD ?_);rw[<-hw.x];exact .mk .push
 |cons l ls au=>
  intro σ kp more hw h;rw[show d+(l::ls).length+1=(d+ls.length+1)+1 from ab,QL];refine r6 h nofun λae=>?_;have h1:=cK (o':=O.list []) h;refine aG (ry h1) (zi h1 (aG (mZ (by decide)) (Wp.iO (au hw.tail b2) λaf a=>aG (m:=bP _) ab ?_)));have a2:d3 σ af:=d3.push.new.trans a;refine Jy hw (cK (a.at (cK h1))) ?_;refine(?_:Wp _ _ (fy (bV φ (.dc (if (kK more (l::ls).length).headD aH then [(l,nT ls (kK (more / 2) ls.length) (pz (more / 2) ls.length)),(l+1,.num)] else [(l,nT ls (kK (more / 2) ls.length) (pz (more / 2) ls.length))]) U)) (d3 σ)));rw[show(kK more (l::ls).length).headD aH=(more / 4 % 2==1) from ab,bV,nM]
  induction (more / 4 % 2==1) with
  |false=>exact hN ab (aG (Lf b2 (by refine(?_:1<64);decide) ab ab) (aG (oS b2) (cD (.mk a2.new.new))))
  |true=>
   have e:(V.str "zzzzzzzz")=.str (φ (l+1)):=by rw[(hw.z l b8).1];rfl
   refine hM ab (aG (jk b2 ab) (aG (k8 b2 (fz (iu _) (di (dy h) a2.len):0<af.length) (by refine(?_:1<bz);decide +kernel)) (aG (Lf (fg b2) (by refine(?_:2<64);decide) ab ?_) (aG (oS b2) (cD ?_)))))
   ·rw[e];refine(?_:strLt (φ l) (φ (l+1))=ak);rw[(hw.z l b8).1];exact(hw.z l b8).2.1
   ·rw[e,EH];exact .mk a2.new.new
inductive kc:List Nat->a4->Prop
 |nil(k:a4):kc [] k
 |one{l:Nat}{ls:List Nat}{k:a4}(r:Option Nat)(h:kc ls k):kc (l::ls) (.dc [(l,k)] r)
 |two{l:Nat}{ls:List Nat}{k:a4}(r:Option Nat)(h:kc ls k):kc (l::ls) (.dc [(l,k),(l+1,.num)] r)
theorem EF:∀{ls:List Nat}{m:Nat},kc ls (openK ls m).1:=by
 intro ls
 induction ls with
 |nil=>intro m;exact .nil _
 |cons l ls au=>intro m;exact .one _ au
theorem VF:∀{ls:List Nat}{zs:List Bool}{e:Bool},kc ls (nT ls zs e):=by
 intro ls
 induction ls with
 |nil=>intro zs e;exact .nil _
 |cons l ls au=>
  intro zs e;refine(?_:kc (l::ls) (.dc (if zs.headD aH then [(l,nT ls zs.tail e),(l+1,.num)] else [(l,nT ls zs.tail e)]) U))
  induction zs.headD aH with
  |true=>exact .two _ au
  |false=>exact .one _ au
theorem acY{C:a4->a4}{fs:List (Nat×a4)}:y5 l C fs=fs.map λp=>(p.1,if p.1=l then C p.2 else p.2):=by
 induction fs with
 |nil=>rfl
 |cons p fs au=>refine(?_:(p.1,if p.1=l then C p.2 else p.2)::y5 l C fs=_);rw[au];rfl
def O5(φ:Nat->Str)(l:Nat)(ls:List Nat)(p:Nat×a4):V:=.tup [.str (φ p.1),bV φ (if p.1=l then pE ls p.2 else p.2)]
inductive Rr(φ:Nat->Str)(l:Nat)(ls:List Nat)(β:aq)(f:Nat)(all:List V)(r:List (Nat×a4))(s:Option V×Option V)(σ:aq):Prop
 |mk(acc:List V)(e:σ[f]? =some (.list acc))(h:acc++r.map (O5 φ l ls)=all)(le:dC β σ)(len:β.length<=σ.length):Rr φ l ls β f all r s σ
theorem O3{fs:List (Nat×a4)}{r:Option Nat}(c:cW φ)(gg:∀p∈fs,cl p.1=cl l)(h2:fs.length<=2)(au:∀p∈fs,p.1=l->∀{σ:aq}{kp:Nat},σ[kp]? =I (.list (bF φ ls))->Wp σ (aX (d+1) "_law_changed" [bV φ p.2,.ref kp]) (fy (bV φ (pE ls p.2)) (dC σ)))(hp:σ[kp]? =I (.list (bF φ (l::ls)))) :
  Wp σ (aX (d+2) "_law_changed" [bV φ (.dc fs r),.ref kp]) (fy (bV φ (pE (l::ls) (.dc fs r))) (dC σ)):=by
 rw[QZ];refine r6 hp nofun λae=>?_;have h1:=cK (o':=O.list []) (cK (o':=O.list []) hp);have pos:0<(σ++[O.list []]:aq).length:=by rw[dM];exact so _
 have Mr:dC σ (σ++[O.list []]++[O.list []]):=bZ.push.new;have fb:(σ++[O.list []]++[O.list []]:aq)[(σ++[O.list []]:aq).length]? =I (.list []):=b2;have vq:σ.length<=(σ++[O.list []]:aq).length:=by rw[dM];exact g0 ..
 have hy:σ.length<=(σ++[O.list []]++[O.list []]:aq).length:=by rw[dM,dM];lia
 refine aG (m:=bP _) ab ?_;generalize (σ++[O.list []]:aq).length=f at fb vq pos ⊢;generalize (σ++[O.list []]++[O.list []]:aq)=c4 at h1 Mr fb hy ⊢;rw[bV,nM];refine aG jl (aG (m:=el _) ab (mB (X:=Nat×a4) (S:=Option V×Option V) (xs:=fs) (g:=λp=>.tup [.str (φ p.1),bV φ p.2]) (L:=λs=>[I (.tup [.str "record",.tup (fs.map λp=>.tup [.str (φ p.1),bV φ p.2]),Fd r]),I (.ref kp),I (.ref f),s.1,s.2,U,U]) (J:=λae=>True) ab jO (Rr φ l ls σ f (fs.map (O5 φ l ls))) (λae=>aS) (U,U) (.mk [] fb ab Mr hy) (λp rs s aC hm aW=>?_) λs aC aW=>?_))
 ·obtain⟨acc,e,nf,le,len⟩:=aW;have hlen:acc.length<bz:=by
   have:=dR List.length nf;rw[dM,c3,c3]at this;exact fz (by lia:acc.length<=2) (by decide +kernel)
  have Bx:=bZ.at le hp;refine fJ (aiw ..) (aG (jk e ab) ?_);refine Wp.step (P:=fy (bV φ (if p.1=l then pE ls p.2 else p.2)) (dC aC)) ?_ λv ht aK=>?_
  ·refine aG (ry Bx) (aG k7 (aG (m:=truth _) ab ?_));by_cases q:p.1=l
   ·rw[bj q,q,jJ];refine hM ab (zi Bx (Wp.iO (au p hm q b2) λht l=>cD (.mk (bZ.trans .push l))))
   ·rw[bH q,wY.mpr λe=>q (c.inj (gg p hm) e)];exact hN ab (cD (.mk .refl))
  ·induction aK with
   |mk l'=>
   refine aG (k8 (bZ.at l' e) pos hlen) (cD (.next (_,_) (.mk _ (fg (bZ.at l' e)) (by rw[jM];exact nf) ((bZ.trans le l').hQ vq) ?_)));rw[kB];exact w5 λq=>by
    have:=dy (bZ.at l' (bZ.at le hp));have h3:∀k,k<σ.length->k<List.length _:=λk ao=>dy (bZ.at l' (bZ.at le (iw ao)));exact hZ _ (h3 _ q)
 ·obtain⟨acc,e,nf,le,len⟩:=aW;rw[zQ,lP]at nf;subst nf;refine fJ (aix ..) (aG (oS e) (aG qa (cD ?_)));refine(?_:fy (bV φ (.dc (y5 l (pE ls) fs) r)) (dC σ) _ _);rw[bV,nM,acY,iv];exact .mk le
theorem Md(c:cW φ){k:a4}(h:kc ls k):lF φ ls->∀{σ:aq}{kp:Nat},σ[kp]? =I (.list (bF φ ls))->Wp σ (aX (d+ls.length+1) "_law_changed" [bV φ k,.ref kp]) (fy (bV φ (pE ls k)) (dC σ)):=by
 induction h with
 |nil k=>
  intro hw σ kp h;rw[QZ];exact r6 h (λae=>cD (.mk .push)) λq=>(q ab).elim
 |@one l ls k r h au=>
  intro hw σ kp hp;exact O3 (d:=d+ls.length) c (λp hp=>by rw[bT.mp hp]) (jL _) (λp hp ae=>by rw[bT.mp hp];exact λe=>au hw.tail e) hp
 |@two l ls k r h au=>
  intro hw σ kp hp;refine O3 (d:=d+ls.length) c (λp hp=>?_) (cI _) (λp hp e=>?_) hp
  ·rcases cY.mp hp with rfl|hp
   ·rfl
   ·rw[bT.mp hp];exact(hw.z l b8).2.2
  ·rcases cY.mp hp with rfl|hp
   ·exact λe=>au hw.tail e
   ·rw[bT.mp hp]at e;exact absurd e (w0 l)
end
section
variable {φ:Nat->Str}{σ af aC:aq}{d kp kn kw m l:Nat}{ls ws:List Nat}{α:Type}{K:V->M α}{Q:α->aq->Prop}{b:cG}{more hT:Int}{k:a4}
theorem Lo{l:List V}{t:Tab}(h:kvsOf l=I t):r1 (.tup l) σ=.ok (.ref σ.length) (σ++[O.dict 0 (y3 [] t)]):=by
 refine(aN (m:=bE (kvsOf l)) (a:=t) (af:=σ) ?_).trans ab;rw[h];rfl
theorem adG{r:List Nat}{x:Nat}(hw:lF φ (x::r))(h:kc (x::r) k):∃c6,kc r c6/\atK (x::r) k=atK r c6/\∀(σ:aq),Wp σ (item (bV φ k) (V.int 1)>>=λEn=>r1 En>>=λEm=>item Em (.str (φ x))>>=λxw=>(pure xw:M V)) (fy (bV φ c6) (dC σ)):=by
 cases h with
 |@one _ _ c6 o h=>
  refine⟨c6,h,?_,λσ=>?_⟩
  ·refine(?_:atK r ((([(x,c6)].find? λp=>p.1==x).map (·.2)).getD .num)=_);rw[akb (by exact jJ x)];rfl
  ·exact aG jl (aG (Lo (t:=[(.inr (φ x),bV φ c6)]) ab) (aG (u1 (key:=.inr (φ x)) b2 ab (by refine(y4 ..).trans ?_;exact bj ab)) (cD (.mk .push))))
 |@two _ _ c6 o h=>
  refine⟨c6,h,?_,λσ=>?_⟩
  ·refine(?_:atK r ((([(x,c6),(x+1,a4.num)].find? λp=>p.1==x).map (·.2)).getD .num)=_);rw[akb (by exact jJ x)];rfl
  ·have dD:((.inr (φ x):Key))≠.inr (φ (x+1)):=λe=>by
    have:=hw.ne;rw[Dn e,(hw.z x b8).1,jJ]at this;exact nE this
   have hm:y3 [] [(.inr (φ x),bV φ c6),(.inr (φ (x+1)),bV φ .num)]=[(.inr (φ x),bV φ c6),(.inr (φ (x+1)),bV φ .num)]:=by
    refine(?_:lx [(.inr (φ x),bV φ c6)] (.inr (φ (x+1))) (bV φ .num)=_);exact Cf ((y4 ..).trans (bH dD))
   refine aG jl (aG (Lo (t:=[(.inr (φ x),bV φ c6),(.inr (φ (x+1)),bV φ .num)]) ab) ?_);rw[hm];exact aG (u1 (key:=.inr (φ x)) b2 ab (by refine(y4 ..).trans ?_;exact bj ab)) (cD (.mk .push))
inductive Rx(φ:Nat->Str)(β:aq)(o9:a4)(r:List Nat)(s:a4×Option V)(σ:aq):Prop
 |mk(h:kc r s.1)(e:atK r s.1=o9)(le:dC β σ)(w:lF φ r):Rx φ β o9 r s σ
theorem Me(h:kc ls k)(hw:lF φ ls)(hp:σ[kp]? =I (.list (bF φ ls))):Wp σ (aX (d+1) "_law_at" [bV φ k,.ref kp]) (fy (bV φ (atK ls k)) (dC σ)):=by
 rw[aiD];refine aG (kx hp) (mB (X:=Nat) (S:=a4×Option V) (xs:=ls) (g:=λl=>.str (φ l)) (L:=λs=>[I (bV φ s.1),I (.ref kp),s.2,U]) (J:=λaC=>dC σ aC) ab (kq λaC l=>bZ.at l hp) (Rx φ σ (atK ls k)) (λaW=>by obtain⟨_,_,le,_⟩:=aW;exact le) (k,U) ⟨h,ab,.refl,hw⟩ (λx r s aC hm aW=>?_) λs aC aW=>?_)
 ·refine aE λkk=>?_;obtain⟨aD,e,le,MZ⟩:=aW;obtain⟨c6,h1,h2,w⟩:=adG MZ aD;obtain⟨ht,bg,FG⟩:=(w aC).v;refine kk (fJ (aiE ..) (?_:Wp aC ((item (bV φ s.1) (V.int 1)>>=λEn=>r1 En>>=λEm=>item Em (.str (φ x))>>=λxw=>(pure xw:M V))>>=λxw=>(pure (a6.next,[I xw,I (.ref kp),I (.str (φ x)),U]):M (a6×Loc))) _));exact aG bg (cD (.next (c6,_) ⟨h1,h2.symm.trans e,bZ.trans le FG,MZ.tail⟩))
 ·obtain⟨aD,e,le,_⟩:=aW;refine fJ (aiF ..) (cD ?_);rw[<-show s.1=atK ls k from e];exact .mk le
inductive P2(β:aq)(f:Nat)(ss:List Str)(many:Nat)(r:List Nat)(s:Int×Option V)(σ:aq):Prop
 |mk(ps:List Str)(e:σ[f]? =some (.list (ps.map V.str)))(aj:ps.length+r.length=many)(hm:∀x∈ps,x∈ss)(le:dC β σ):P2 β f ss many r s σ
inductive P1(ss:List Str)(many:Nat)(σ:aq)(v:V)(af:aq):Prop
 |mk(n:Nat)(ps:List Str)(e:v=.ref n)(aM:σ.length<=n)(h:af[n]? =some (.list (ps.map V.str)))(aj:ps.length=many)(hm:∀x∈ps,x∈ss)(le:dC σ af):P1 ss many σ v af
theorem XR{c:Int}{many nl:Nat}{ss:List Str}(aV:0<σ.length)(hm:many<=3)(bf:ss.length=4)(aj:σ[nl]? =I (.list (ss.map V.str))):Wp σ (aX (d+1) "_law_path" [.int c,.int many,.ref nl]) (P1 ss many σ):=by
 rw[ahp];refine aG (m:=bP _) ab (aG (nK (uX (b7 hm (by decide)))) ?_);refine mB (X:=Nat) (S:=Int×Option V) (xs:=eP many) (g:=λj=>V.int (j:Int)) (L:=λs=>[I (.int s.1),I (.int many),I (.ref nl),I (.ref σ.length),s.2,U]) (J:=λae=>True) ab (by rw[sO];exact jO) (P2 σ σ.length ss many) (λae=>aS) (c,U) (.mk [] b2 (by rw[k2];exact lM _) nofun .push) (λx r s aC ae aW=>?_) λs aC aW=>?_
 ·refine aE λkk=>?_;obtain⟨ps,e,kG,Gg,le⟩:=aW;rw[gy]at kG;have aR:(s.1 % 4).toNat<ss.length:=by rw[bf];exact vn (by decide)
  refine kk (fJ (ahq ..) (aG (jk e ab) (aG (jR (by decide)) (aG (jS (bZ.at le aj) (sx _ (by decide)) (by rw[ki,iw aR];rfl):item (.ref nl) (.int (s.1 % 4)) aC=.ok (.str ss[(s.1 % 4).toNat]) aC) (aG (k8 e aV (by rw[c3];exact fz (by lia:ps.length<=3) (by decide +kernel))) (aG (mZ (by decide)) (cD (.next (_,_) (.mk (ps++[ss[(s.1 % 4).toNat]]) ?_ (by rw[dM,zS];lia) (λx aI=>?_) (le.hQ (cI _)))))))))))
  ·rw[fg e,h0];rfl
  ·rcases hs.mp aI with aI|aI
   ·exact Gg x aI
   ·rw[bT.mp aI];exact aj8 _
 ·obtain⟨ps,e,kG,Gg,le⟩:=aW;exact fJ (ahr ..) (cD (.mk _ ps ab (cI _) e kG Gg le))
theorem XT(h:σ[kw]? =I (.list (bF φ ws))):Wp σ (aX (d+1) "_law_nest" [.ref kw,cR φ b]) (fy (cR φ (vk ws b)) (dC σ)):=by
 rw[ahA];refine aG (kx h) (mB (X:=Nat) (S:=cG×Option V) (xs:=ws) (g:=λl=>.str (φ l)) (L:=λs=>[I (.ref kw),I (cR φ s.1),s.2]) (J:=λaC=>aC=σ) ab (kq λaC e=>by subst e;exact h) (λr s aC=>vk r s.1=vk ws b/\aC=σ) (λh=>h.2) (b,U) ⟨ab,ab⟩ (λx r s aC ae aU=>?_) λs aC aU=>?_)
 ·refine fJ (ahB ..) (cD ?_);rw[show V.tup [.str "make",.tup [.tup [.str (φ x),cR φ s.1]]]=cR φ (kQ [(x,s.1)]) from(sF (ps:=[(x,s.1)])).symm];exact .next (kQ [(x,s.1)],_) ⟨aU.1,aU.2⟩
 ·refine fJ (ahC ..) (cD ?_);rw[show s.1=vk ws b from aU.1,aU.2];exact .mk .refl
theorem XO(h:σ[kw]? =I (.list (bF φ ws)))(aj:ws.length<=4):Wp σ (aX (d+1) "_law_wide" [.ref kw,cR φ b]) (fy (cR φ (DP ws b)) (dC σ)):=by
 rw[ahe];refine aG (kx h) (aG (u4 (X:=Nat) (xs:=ws) (g:=λl=>.str (φ l)) (f:=λl=>V.tup [.str (φ l),cR φ b]) (L:=λo=>[U,o.map λl=>.str (φ l),I (cR φ b)]) ab (kq λaC e=>by subst e;exact h) ahg (ahh ..) (b7 aj (by decide +kernel)) (λae az=>ahj ..) (ahf _) λx ae=>by rw[ahi];rfl) (aG (oS b2) (cD ?_)));unfold DP;rw[sF,iv];exact .mk .push
theorem qb{a b:Int}:binop .Add (.int a) (.int b) σ=.ok (.int (a+b)) σ:=rfl
def j4(φ:Nat->Str):Option (List a4×a4)->V
 |some p=>ep φ p
 |none=>.none
noncomputable abbrev Dd:=(a4×Nat×Nat)×Option V×Option V
noncomputable def Cc(φ:Nat->Str)(kw:Nat)(wide:Bool)(t m:Nat)(s:Dd):Loc:=[I (.ref kw),I (.bool wide),I (.int t),I (.int m),I (bV φ s.1.1),I (.int s.1.2.1),I (.int s.1.2.2),s.2.1,s.2.2,U,U,U,U]
def wc(ws:List Nat)(wide:Bool):Nat->a4×Nat×Nat->a4×Nat×Nat
 |0,s=>s
 |n+1,s=>wc ws wide n (p6 ws wide s)
theorem acx{wide:Bool}{n:Nat}:∀{s:a4×Nat×Nat},wc ws wide (n+1) s=p6 ws wide (wc ws wide n s):=by
 induction n with
 |zero=>intro s;rfl
 |succ n au=>intro s;exact au (s:=p6 ws wide s)
theorem acv{wide:Bool}{n:Nat}:wc ws wide n (.blank 0,1,1)=pB ws wide n:=by
 induction n with
 |zero=>rfl
 |succ n au=>rw[acx,au];rfl
inductive IC(φ:Nat->Str)(ws:List Nat)(wide:Bool)(β:aq)(R:a4×Nat×Nat)(r:List Nat)(s:Dd)(σ:aq):Prop
 |mk(h:wc ws wide r.length s.1=R)(le:dC β σ):IC φ ws wide β R r s σ
theorem acs{wide:Bool}{t mm x:Nat}{s:Dd}{R:a4×Nat×Nat}{r:List Nat}{Q:a6×Loc->aq->Prop}(c:cW φ)(h:aC[kw]? =I (.list (bF φ ws)))(aj:ws.length<=4)(ay:wide=ak->∀l∈ws,cl l=6)(aD:wc ws wide (r.length+1) s.1=R)(le:dC σ aC) :
  Wp aC (bindTo (stLoc iI.names) (cy ov) (.int x) (Cc φ kw wide t mm s)>>=cm (av d) (bU ov) iI.names) (oh (Cc φ kw wide t mm) (IC φ ws wide σ R) Q r):=by
 have hlen:(bF φ ws).length=ws.length:=c3 ..;refine fJ (aim ..) (aG (m:=truth _) ab ?_)
 induction wide with
 |true=>
  refine hM ab (aG (uZ h (by rw[hlen];lia) (uQ c (ay ab))) (aG (kx b2) (aG (u4 (X:=Nat) (xs:=ew ws) (g:=λl=>.str (φ l)) (f:=λl=>V.tup [.str (φ l),bV φ s.1.1]) (L:=λo=>[U,o.map λl=>.str (φ l),I (bV φ s.1.1)]) ab (kq λaC e=>by subst e;exact b2) aio (aip ..) (by rw[Ks];exact b7 aj (by decide +kernel)) (λae az=>air ..) (ain _) λx ae=>by rw[aiq];rfl) (aG (oS b2) (aG (oT (cK (cK h))) (aG (Lk ?_) (aG qb (aG qb (cD ?_)))))))))
  ·rw[hlen];exact⟨by lia,by lia⟩
  ·have e:V.tup [.str "record",.tup ((ew ws).map λl=>V.tup [.str (φ l),bV φ s.1.1]),.none]=bV φ (xg ws s.1.1):=by unfold xg;rw[bV,nM,iv];rfl
   rw[e,hlen];exact .next ((xg ws s.1.1,1+ws.length*s.1.2.1,s.1.2.2+1),_,_) ⟨aD,bZ.trans le (bZ.push.new)⟩
 |false=>
  refine hN ab (aG (kx h) (mB (X:=Nat) (S:=a4×Option V) (xs:=ws) (g:=λl=>.str (φ l)) (L:=λu=>Cc φ kw aH t mm ((u.1,s.1.2.1,s.1.2.2),I (.int x),u.2)) (J:=λht=>ht=aC) ab (kq λht e=>by subst e;exact h) (λr u ht=>vj r u.1=vj ws s.1.1/\ht=aC) (λh=>h.2) (s.1.1,s.2.2) ⟨ab,ab⟩ (λy r u ht ae aU=>?_) λu ht aU=>?_))
  ·refine fJ (ail ..) (cD ?_);have e:V.tup [.str "record",.tup [.tup [.str (φ y),bV φ u.1]],.none]=bV φ (.dc [(y,u.1)] U):=by rw[bV,nM];rfl
   rw[e];exact oh.next (a4.dc [(y,u.1)] U,I (V.str (φ y))) (And.intro aU.1 aU.2)
  ·obtain⟨cF,rfl⟩:=aU;replace cF:u.1=vj ws s.1.1:=cF;refine fJ (ait ..) (aG (oT h) (aG qb (aG (oT h) (aG qb (cD ?_)))))
   ·rw[cF,hlen];exact .next ((vj ws s.1.1,s.1.2.1+ws.length,s.1.2.2+ws.length),_,_) ⟨aD,le⟩
theorem FA{wide:Bool}{t mm:Nat}(c:cW φ)(h:σ[kw]? =I (.list (bF φ ws)))(aj:ws.length<=4)(aY:t<=10)(ay:wide=ak->∀l∈ws,cl l=6):Wp σ (aX (d+1) "_law_due_nest" [.ref kw,.bool wide,.int t,.int mm]) (fy (j4 φ (gE ws wide t mm)) (dC σ)):=by
 rw[aik];refine aG (nK (uX (b7 aY (by decide)))) (mB (X:=Nat) (S:=Dd) (xs:=eP t) (g:=λj=>V.int (j:Int)) (L:=Cc φ kw wide t mm) (J:=λae=>True) ab (by rw[sO];exact jO) (IC φ ws wide σ (pB ws wide t)) (λae=>aS) ((.blank 0,1,1),U,U) ⟨by rw[k2];exact acv,.refl⟩ (λx r s aC ae aW=>?_) λs aC aW=>?_)
 ·obtain⟨aD,le⟩:=aW;exact acs c (bZ.at le h) aj ay aD le
 ·obtain⟨aD,le⟩:=aW;replace aD:s.1=pB ws wide t:=aD;refine fJ (ais ..) ?_;unfold gE;rw[<-aD];refine aG (a:=decide (200<s.1.2.1+mm\/12<s.1.2.2+mm-1)) (af:=aC) ?_ ?_
  ·refine(aN (m:=binop _ _ _) (a:=.int ((s.1.2.1+mm:Nat):Int)) ab).trans ((aN AD).trans ((aN (m:=truth _) ab).trans ?_));by_cases h1:200<s.1.2.1+mm
   ·rw[kg (qX.mpr h1:(200:Int)<((s.1.2.1+mm:Nat):Int)),kg (Or.inl h1)];rfl
   ·rw[jI (λz=>h1 (qX.mp z):¬(200:Int)<((s.1.2.1+mm:Nat):Int))];refine(?_:(binop .Add (.int s.1.2.2) (.int mm)>>=λUW=>binop .Sub UW (V.int 1)>>=λUU=>cmp .Gt UU (V.int 12)>>=λUT=>truth UT>>=λadz=>M.cond adz (pure ak:M Bool) (pure aH:M Bool)) aC=_);refine(aN (m:=binop _ _ _) (a:=.int ((s.1.2.2:Int)+mm)) ab).trans ((aN (m:=binop _ _ _) (a:=.int ((s.1.2.2:Int)+mm-1)) ab).trans ((aN AD).trans ((aN (m:=truth _) ab).trans ?_)));rw[(IQ.mpr ⟨λq=>.inr (OB.mp q),λq=>q.elim (λq=>absurd q h1) OB.mpr⟩:decide ((12:Int)<(s.1.2.2:Int)+mm-1)=decide (200<s.1.2.1+mm\/12<s.1.2.2+mm-1))];cases decide (200<s.1.2.1+mm\/12<s.1.2.2+mm-1) <;> rfl
  ·by_cases q:200<s.1.2.1+mm\/12<s.1.2.2+mm-1
   ·rw[kg q];refine(?_:Wp aC _ (fy (j4 φ (if 200<s.1.2.1+mm\/12<s.1.2.2+mm-1 then U else I ([.blank 0],s.1.1))) (dC σ)));rw[bj q];exact hM ab (cD (.mk le))
   ·rw[jI q];refine(?_:Wp aC _ (fy (j4 φ (if 200<s.1.2.1+mm\/12<s.1.2.2+mm-1 then U else I ([.blank 0],s.1.1))) (dC σ)));rw[bH q];exact hN ab (cD (.mk le))
end
end Mine.Internal
namespace Mine.Internal
theorem YH:([1,2,3].all λn=>bools.all λput=>Xj n put)=ak:=by decide +kernel
theorem YD:([1,2,3].all LK)=ak:=by decide +kernel
theorem YO:(bools.all λput=>(k4 1).all (rn 1 put))=ak:=by decide +kernel
theorem YN:(k4 2).all (rn 2 aH)=ak:=by decide +kernel
theorem YM:(k4 2).all (rn 2 ak)=ak:=by decide +kernel
theorem YL:((k4 3).take 9).all (rn 3 aH)=ak:=by decide +kernel
theorem YK:((k4 3).drop 9).all (rn 3 aH)=ak:=by decide +kernel
theorem YJ:((k4 3).take 9).all (rn 3 ak)=ak:=by decide +kernel
theorem YI:((k4 3).drop 9).all (rn 3 ak)=ak:=by decide +kernel
theorem YG:([1,2,3,4].all λm=>Fh (jN aH m) aH m&&(perms (jN ak m)).all λls=>Fh ls ak m)=ak:=by decide +kernel
theorem MD:([1,2,3,4].all λm=>bools.all λw=>[1,2,3,4,5,6,7].all λt=>Fg w m t)=ak:=by decide +kernel
theorem YF:([1,2,3,4].all λm=>bools.all λw=>[1,2,3,4,5].all λt=>Xh w m t)=ak:=by decide +kernel
end Mine.Internal
namespace Mine.Internal
open PySem
section
variable {φ:Nat->Str}{σ af aC:aq}{d kp kn kw m l:Nat}{ls ws:List Nat}{α:Type}{K:V->M α}{Q:α->aq->Prop}{bb:ih}{D:iq}{ks:List (List a4×a4)}
structure zw(bb:ih)(D:iq)(p:List a4×a4):Prop where
 j:∀ds,fR (D::ds) bb=fR ds (bb++[(D.nm,p)])
 fit:Fits bb D
 hG:p.1.length<=30
theorem vv(h:(fR [D] bb).td ks=ak):∃p,zw bb D p/\bb.map (·.2)++[p]=ks:=by
 have nb:fR [D] bb≠.bad:=λe=>by replace h:=(e ..) ▸ h;cases h
 refine ME ab nb λat_ G R fit qm n4 Fp GA fD=>?_
 induction R with
 |bad=>exact(Fp ab).elim
 |great=>replace h:=(GA ab ..) ▸ h;cases h
 |ok p=>
  obtain⟨hp,bw⟩:=fD p ab;refine⟨p.1,⟨λds=>?_,fit,hp⟩,?_⟩
  ·have a8:rT bb D=ak:=by
    induction e:rT bb D with
    |true=>rfl
    |false=>refine(nb ?_).elim;refine(?_:(Bool.rec .bad _ (rT bb D):je)=_);rw[e]
   refine(?_:(Bool.rec .bad (qy bb D (fR ds) (mX (l2 bb) D.many D.b)) (rT bb D):je)=_);rw[a8,qm];refine(?_:qy bb D (fR ds) (.ok at_ G)=_);unfold qy;dsimp only;rw[n4];refine(?_:(Bool.rec .bad (fR ds (bb++[(D.nm,p.1)])) (Nat.ble p.1.1.length 30):je)=_);rw[IZ hp]
  ·replace h:=(oD (bw ..)) ▸ h;refine(?_:_=ks);rw[<-Uo (show Ae (bb++[(D.nm,p.1)]) ks=ak from h),h0];rfl
theorem YQ(h:(fR [D] bb).MK=ak):fR [D] bb=.great:=by
 revert h
 induction fR [D] bb with
 |good _=>intro h;cases h
 |great=>exact λae=>ab
 |bad=>intro h;cases h
theorem Ai{a b:List (List a4×a4)}{x y:List a4×a4}(h:a++[x]=b++[y])(aj:a.length=b.length):x=y:=(pX (List.append_inj h aj).2).1
theorem Un{i:Nat}{p:List a4×a4}(aR:i<3)(hp:p.1.length<=30):qG [(i,p)]:=⟨λq aL=>by rw[bT.mp aL];exact aR,λq aL=>by rw[bT.mp aL];exact hp⟩
theorem vm(h1:1<=m)(bf:m<=4):m∈[1,2,3,4]:=by
 have:∀m,m<5->1<=m->m∈[1,2,3,4]:=by decide
 exact this m (by lia) h1
theorem rY(w:Bool):w∈bools:=by cases w <;> decide
structure ka(φ:Nat->Str)(wide:Bool)(m:Nat)(ws:List Nat):Prop where
 one:1<=m
 four:m<=4
 len:ws.length=m
 f:Fh ws wide m=ak
 Cb:∀t k,gE ws wide t k=gE (jN wide m) wide t k
 cl:wide=ak->∀l∈ws,cl l=6
 p:φ 40=aB "p"
 q:φ 41=aB "q"
section
variable {wide:Bool}{t:Nat}
theorem ka.yh(h:ka φ wide m ws):zw [] (hJ ws wide) (e9 wide m):=by
 obtain⟨p,h1,h2⟩:=vv h.f;have:p=e9 wide m:=(pX h2).1;exact this ▸ h1
theorem YE:([1,2,3,4].all λm=>bools.all λw=>oY 14 (e9 w m))=ak:=by decide +kernel
theorem ka.aaH(h:ka φ wide m ws):oY 14 (e9 wide m)=ak:=ec.mp (ec.mp YE m (vm h.one h.four)) wide (rY wide)
theorem ka.YU(h:ka φ wide m ws)(aY:t∈[1,2,3,4,5,6,7])(hd:gE ws wide t 1=U):fR [hJ ws wide,ib t] []=.great:=by
 have:=ec.mp (ec.mp (ec.mp MD m (vm h.one h.four)) wide (rY wide)) t aY;unfold Fg at this;rw[<-h.Cb,hd]at this;rw[h.yh.j];exact YQ this
theorem ka.FQ{p:List a4×a4}(h:ka φ wide m ws)(aY:t∈[1,2,3,4,5,6,7])(hd:gE ws wide t 1=I p):fR [hJ ws wide,ib t] []=.good [(0,e9 wide m),(1,p)]/\oY 14 p=ak:=by
 have:=ec.mp (ec.mp (ec.mp MD m (vm h.one h.four)) wide (rY wide)) t aY;unfold Fg at this;replace this:=(hd ..) ▸ (oD (h.Cb ..)) ▸ this;refine hK this λh1 h2=>⟨?_,h2⟩;refine aE λkk=>?_;obtain⟨q,h3,bf⟩:=vv h1;refine kk ?_;rw[h.yh.j,h3.j,Ai (a:=[e9 wide m]) (b:=[e9 wide m]) bf ab];rfl
inductive QA(wide:Bool)(m t:Nat)(q:Option (List a4×a4)):Prop
 |mk(at_:gG)(G:bq)(p:List a4×a4)(ms:List Nat)(h1:mX (l2 [(0,e9 wide m)]) 1 (tB t)=.ok at_ G)(h2:qh G (eP 1) at_=.ok (p,ms))(h3:LH q (nS G at_ (eg deep (tB t)) ms)=true):QA wide m t q
theorem ka.FP(h:ka φ wide m ws)(aY:t∈[1,2,3,4,5]):fR [hJ ws wide,hD t] []=.good [(0,e9 wide m),(2,rM)]/\Fits [(0,e9 wide m)] (hD t)/\QA wide m t (gE ws wide t 2):=by
 have:=ec.mp (ec.mp (ec.mp YF m (vm h.one h.four)) wide (rY wide)) t aY;refine hK this λh1 h2=>?_;refine aE λkk=>?_;obtain⟨q,h3,bf⟩:=vv h1;refine kk ?_;refine⟨by rw[h.yh.j,h3.j,Ai (a:=[e9 wide m]) (b:=[e9 wide m]) bf ab];rfl,h3.fit,?_⟩;rw[h.Cb]
 revert h2
 induction e:mX (l2 [(0,e9 wide m)]) 1 (tB t) with
 |bad=>intro h2;cases h2
 |ok at_ G=>
  dsimp only
  induction aO:qh G [0] at_ with
  |ok p=>intro h2;exact⟨at_,G,p.1,p.2,e,aO,h2⟩
  |great=>intro h2;cases h2
  |bad=>intro h2;cases h2
end
end
section
variable {φ:Nat->Str}{σ af aC:aq}{d kp kn kw gc m l t:Nat}{ls ws:List Nat}{α bN:Type}{K:V->M α}{Q:α->aq->Prop}{wide:Bool}{b:cG}{D:iq}{bb:ih}
theorem PE{m:M α}{f:α->M bN}{h:V->M bN}{a:α}{Q:bN->aq->Prop}(e:m σ=.ok a af)(k:Wp af (f a) Q):Wp σ (M.k3 m f h) Q:=by
 obtain⟨b,aC,bg,q⟩:=k;exact⟨b,aC,by rw[uK,e];exact bg,q⟩
theorem MG{c:Prop}[Decidable c] {m n:M α}(h:c):(if c then m else n) σ=m σ:=by rw[bj h]
theorem Tv:(av d).ups (aB "TooGreat")=I [aB "TooGreat",aB "FieldError"]:=by kernel_rfl
theorem Of{n:Nat}(h:σ[n]? =I (.exc "TooGreat")):yO (av d) (aB "TooGreat") (.ref n) σ=.ok ak σ:=by
 refine(aN (jT h)).trans ?_;refine(?_:bE (((av d).ups (aB "TooGreat")).map λus=>us.contains (aB "TooGreat")) σ=_);rw[Tv];refine(?_:bE (I (([aB "TooGreat",aB "FieldError"]:List Str).contains (aB "TooGreat"))) σ=_);rw[show([aB "TooGreat",aB "FieldError"]:List Str).contains (aB "TooGreat")=ak by decide +kernel];rfl
theorem Wt{k:Nat}{l:List V}{i:Int}{x:V}(h:σ[k]? =I (.list l))(aI:(place i l.length).bind (λj=>l[j]?)=I x):item (.ref k) (.int i) σ=.ok x σ:=by
 refine(aN (m:=hF _) (jT h)).trans ?_;refine(?_:bE ((place i l.length).bind λj=>l[j]?) σ=_);rw[aI];rfl
theorem OZ{n a:Nat}:clipAt (n+(a+1)) (Int.negSucc a)=n:=by
 unfold clipAt;rw[bj (Int.negSucc_lt_zero a),show Int.negSucc a+((n+(a+1):Nat):Int)=(n:Int) from(akk _ _).trans (Int.add_neg_cancel_right (n:Int) ((a+1:Nat):Int)),I9 (uv.mpr (g0 _ _)),Sg (kj _)];rfl
theorem acI{l:List V}(h:4<=l.length):cut l (I (-4)) (I (-2))=(l.drop (l.length-4)).take 2:=by
 obtain⟨n,e⟩:=Nat.exists_eq_add_of_le' h;unfold cut;refine(?_:(l.drop (clipAt l.length (-4))).take (clipAt l.length (-2)-clipAt l.length (-4))=_);rw[e,show clipAt (n+4) (-4)=n from OZ (n:=n) (a:=3),show clipAt (n+4) (-2)=n+2 from OZ (n:=n+2) (a:=1),RZ,Nat.add_sub_cancel]
theorem we(h:i4 deep D.b=ak):cx φ D=.tup [.str (lZ D.nm),.int D.many,cR φ D.b]:=by unfold cx;rw[To h]
inductive IH(t:Nat)(β:aq)(r:List Nat)(s:Nat×Option V):aq->Prop
 |mk(h:s.1+r.length=t):IH t β r s β
theorem aan(W:ka φ wide m ws)(f:Fits bb (hD t)):cx φ (hD t)=.tup [.str "h",.int 1,.tup [.str "get",.tup [.str "make",.tup [.tup [.str "p",cR φ (qA t (i9 0))],.tup [.str "q",.tup [.str "number",.int 3]]]],.str "q"]]:=by
 rw[we f.ok];refine(?_:V.tup [.str "h",.int 1,cR φ (tQ (kQ [(40,qA t (i9 0)),(41,mz 3)]) 41)]=_);rw[D1,sF,eE,eE,zQ,xh,W.p,W.q]
theorem XU(c:cW φ)(W:ka φ wide m ws)(aY:t∈[1,2,3,4,5])(aV:0<σ.length)(hw:σ[kw]? =I (.list (bF φ ws)))(hp:σ[kp]? =I (.list [cx φ (hJ ws wide)])) :
  Wp σ (aX (d+20) "_law_marks_great" [.ref kp,.ref kw,.bool wide,.int t]) (fy (.bool ak) (bx σ)):=by
 refine aE λkk=>?_;obtain⟨bw,fit,at_,G,p,ms,qm,n4,hj⟩:=W.FP aY;refine kk ?_;have alc:t<=5:=by
  have:∀x∈[1,2,3,4,5],x<=5:=by decide
  exact this t aY
 rw[ahF];refine aG (nK (uX (b7 ‹t<=_› (by decide)))) (mB (X:=Nat) (S:=Nat×Option V) (xs:=eP t) (g:=λj=>V.int (j:Int)) (L:=λs=>(I (.ref kp)::I (.ref kw)::I (.bool wide)::I (.int t)::I (cR φ (qA s.1 (i9 0)))::s.2::n_9)) (J:=λae=>True) ab (by rw[sO];exact jO) (IH t σ) (λae=>aS) (0,U) (.mk (by rw[k2];exact lM _)) (λx r s aC ae aW=>?_) λs aC aW=>?_)
 ·induction aW with
  |mk h=>
  refine fJ (ahG ..) (cD ?_);rw[<-uI];exact oh.next (s.1+1,I (V.int (x:Int))) (.mk (by replace h:=(gy ..) ▸ h;lia))
 induction aW with
 |mk h=>
 replace h:s.1=t:=h;rw[h];refine fJ (ahI ..) ?_;rw[<-aan W fit];refine aG (m:=bP _) ab (aG (u5 (cK hp) b2 (by refine(?_:2<=bz);decide +kernel)) ?_);have Bw:(σ++[O.list [cx φ (hD t)]]++[O.list ([cx φ (hJ ws wide)]++[cx φ (hD t)])]:aq)[(σ++[O.list [cx φ (hD t)]]:aq).length]? =I (.list ([hJ ws wide,hD t].map (cx φ))):=b2;have du:bx σ (σ++[O.list [cx φ (hD t)]]++[O.list ([cx φ (hJ ws wide)]++[cx φ (hD t)])]):=bx.push.new;generalize (σ++[O.list [cx φ (hD t)]]:aq).length=gc at Bw ⊢;generalize (σ++[O.list [cx φ (hD t)]]++[O.list ([cx φ (hJ ws wide)]++[cx φ (hD t)])]:aq)=cz at Bw du ⊢;refine aE λkk=>?_;rcases(uF (d:=d+2) c bw nofun (di aV du.len:0<cz.length) Bw) with ⟨_,eQ,c7,aL⟩|⟨_,_,_,f5⟩
 case exc=>obtain⟨h,_⟩:=f5;cases h
 induction aL with
 |@mk eQ bb hg ie le=>
 cases hg;have gr:=du.trans le;refine kk (aG c7 (aG jl (aG (Wt (x:=ep φ rM) ie ab) (aG (AB (DZ (KC (φ:=φ) (p:=rM) (by decide)) (by decide))) (aG (m:=truth _) (a:=aH) ab (hN ab ?_))))));refine aE λkk=>?_;obtain⟨fA,eN,gB⟩:=(FA (d:=d+18) (t:=t) (mm:=2) c (gr.list hw) (by rw[W.len];exact W.four) (by lia) W.cl).v;refine kk ?_;have Bc:bx eQ fA:=⟨w5 λq=>hZ _ (dy (bZ.at gB (iw q))),λe ae=>bZ.at gB e⟩;refine aG eN ?_;have rL:=W;generalize aav:nS G at_ (eg deep (tB t)) ms=R at hj;have Xx:R≠.bad:=λe=>by replace hj:=(e ..) ▸ hj;cases hj
 refine aE λkk=>?_;rcases(S0 (d:=d+1) c bw fit (Un (i:=0) (by decide) W.yh.hG) qm n4 aav Xx (di aV (gr.trans Bc).len) (Bc.list (le.list Bw))) with ⟨_,d0,eX,aL⟩|⟨ex,d0,eX,f5⟩
 ·skip
  obtain⟨mk,ck,rfl,rfl,em,iB⟩:=aL;refine kk ?_;refine PE ((aN eX).trans ab) ?_
  induction tp:gE ws wide t 2 with
  |none=>replace hj:=(tp ..) ▸ hj;cases hj
  |some q=>
   replace hj:=(tp ..) ▸ hj;refine hK hj λh1 h2=>hK h2 λh2 h3=>?_;have bf:4<=(mk.map (bV φ)).length:=by rw[c3];exact nx h3
   have aD:(((mk.map (bV φ)).drop ((mk.map (bV φ)).length-4)).take 2)=[bV φ q.2,bV φ .num]:=by
    rw[c3,<-List.map_drop,<-ajX,MC h1];rfl
   refine aG AA (aG (m:=truth _) (a:=ak) (af:=d0) ab (hM ab (aG (m:=bound _) ab (aG (m:=bound _) ab (aG (Ay em) ?_)))));rw[acI bf,aD];refine aG jl (aG (m:=bP _) ab (aG (u3 (DZ (m:=43) (KG (k:=3) (cK b2) b2 (kv (AJ (n:=14) h2) (kv (AJ (n:=14) ab) rb))) (by decide))) (cD (.mk ((gr.trans Bc).trans (iB.new.new))))))
 ·skip
  obtain⟨rfl,n,rfl,aI,iB⟩:=f5;refine kk ?_;rw[(Option.isNone_iff_eq_none.mp hj:gE ws wide t 2=U)];exact PF ((e1 eX).trans ab) (aG ((aN (Of aI)).trans ((MG ab).trans (Lh ((aN (m:=cmp _ _ _) (a:=.bool ak) (af:=d0) ab).trans ab)))) ⟨_,_,ab,.mk ((gr.trans Bc).trans iB)⟩)
end
section
variable {φ:Nat->Str}{σ af aC:aq}{d kp kn kw gc m l t nl:Nat}{ls ws:List Nat}{α bN:Type}{K:V->M α}{Q:α->aq->Prop}{wide:Bool}{b:cG}{D:iq}{bb:ih}{ss:List Str}
theorem dC.nU(h:dC σ af):bx σ af:=⟨w5 λq=>hZ _ (dy (bZ.at h (iw q))),λe ae=>bZ.at h e⟩
theorem acu(h1:1<=m)(bf:m<=4):gE (jN wide m) wide 1 1=I (e9 wide m):=by
 have:=(LP bf).resolve_left (Nat.ne_of_gt h1);rcases this with rfl|rfl|rfl|rfl <;> cases wide <;> rfl
theorem X1{n:Nat}(h:n<7):1+n∈[1,2,3,4,5,6,7]:=by
 have:∀n,n<7->1+n∈[1,2,3,4,5,6,7]:=by decide
 exact this n h
theorem X2{n:Nat}(h:n<7):min (1+n) 5∈[1,2,3,4,5]:=by
 have:∀n,n<7->min (1+n) 5∈[1,2,3,4,5]:=by decide
 exact this n h
theorem aaD{a b c:V}{o:Option V}(j5:cW φ)(W:ka φ wide m ws)(aY:t∈[1,2,3,4,5,6,7])(aV:0<σ.length)(hw:σ[kw]? =I (.list (bF φ ws)))(hp:σ[kp]? =I (.list [cx φ (hJ ws wide)]))(fit:i4 deep (ib t).b=ak) :
  Wp σ (QU (d+19) a b (.bool wide) (.ref kw) c (.ref kp) (.int t) (cR φ (qA t (i9 0))) o) (fy (.bool ak) (bx σ)):=by
 have Zt:t<=7:=by
  have:∀x∈[1,2,3,4,5,6,7],x<=7:=by decide
  exact this t aY
 refine aE λkk=>?_;obtain⟨c4,ax,dU⟩:=(FA (d:=d+18) (t:=1) (mm:=1) j5 hw (by rw[W.len];exact W.four) (by decide) W.cl).v;obtain⟨cz,aO,du⟩:=(FA (d:=d+18) (t:=t) (mm:=1) j5 (bZ.at dU hw) (by rw[W.len];exact W.four) (by lia) W.cl).v;rw[W.Cb 1 1,acu W.one W.four]at ax;have GU:cx φ (ib t)=.tup [.str "g",.int 1,cR φ (qA t (i9 0))]:=we fit;have Bd:bx σ cz:=(dC.nU dU).trans (dC.nU du);refine kk (aG ax (aG aO (aG (m:=bP _) ab ?_)));rw[<-GU];have iX:(cz++[O.list [ep φ (e9 wide m),j4 φ (gE ws wide t 1)]]:aq)[cz.length]? =I (.list [ep φ (e9 wide m),j4 φ (gE ws wide t 1)]):=b2;have Oz:=u5 (cK (cK (Bd.list hp)):((cz++[O.list [ep φ (e9 wide m),j4 φ (gE ws wide t 1)]])++[O.list [cx φ (ib t)]])[kp]? =I (.list [cx φ (hJ ws wide)])) (b2:((cz++[O.list [ep φ (e9 wide m),j4 φ (gE ws wide t 1)]])++[O.list [cx φ (ib t)]]:aq)[_]? =_) (by refine(?_:2<=bz);decide +kernel);have aL:(cz++[O.list [ep φ (e9 wide m),j4 φ (gE ws wide t 1)]]++[O.list [cx φ (ib t)]]++[O.list ([cx φ (hJ ws wide)]++[cx φ (ib t)])]:aq)[(cz++[O.list [ep φ (e9 wide m),j4 φ (gE ws wide t 1)]]++[O.list [cx φ (ib t)]]:aq).length]? =I (.list ([hJ ws wide,ib t].map (cx φ))):=b2;have gB:bx (cz++[O.list [ep φ (e9 wide m),j4 φ (gE ws wide t 1)]]) (cz++[O.list [ep φ (e9 wide m),j4 φ (gE ws wide t 1)]]++[O.list [cx φ (ib t)]]++[O.list ([cx φ (hJ ws wide)]++[cx φ (ib t)])]):=bx.push.new;have o7:bx σ (cz++[O.list [ep φ (e9 wide m),j4 φ (gE ws wide t 1)]]):=Bd.new;have GS:0<(cz++[O.list [ep φ (e9 wide m),j4 φ (gE ws wide t 1)]]++[O.list [cx φ (ib t)]]++[O.list ([cx φ (hJ ws wide)]++[cx φ (ib t)])]:aq).length:=di aV (o7.trans gB).len;generalize (cz++[O.list [ep φ (e9 wide m),j4 φ (gE ws wide t 1)]]++[O.list [cx φ (ib t)]]++[O.list ([cx φ (hJ ws wide)]++[cx φ (ib t)])]:aq)=fA at aL gB GS Oz;have run:∀{r:Res V},aX (d+19) "judged" [.ref (cz++[O.list [ep φ (e9 wide m),j4 φ (gE ws wide t 1)]]++[O.list [cx φ (ib t)]]:aq).length] fA=r->(bP (.list [cx φ (ib t)])>>=λUO=>binop .Add (.ref kp) UO>>=λUN=>aX (d+19) "judged" [UN]>>=λUM=>(pure UM:M V)) (cz++[O.list [ep φ (e9 wide m),j4 φ (gE ws wide t 1)]])=r:=λ{r} e=>by
  refine(aN (m:=bP _) ab).trans ((aN Oz).trans ?_)
  induction r with
  |ok a s=>exact(aN e).trans ab
  |exc a s=>exact e1 e
  |bad=>exact cS e
 induction tp:gE ws wide t 1 with
 |none=>
  rw[tp]at run aL gB iX o7;refine aE λkk=>?_;rcases(uF (d:=d+2) j5 (W.YU aY tp) nofun GS aL) with ⟨_,d0,eX,e7⟩|⟨ex,d0,eX,f5⟩
  ·refine kk ?_
   induction e7 with
   |mk bb hg=>cases hg
  ·skip
   obtain⟨_,n,rfl,aI,iB⟩:=f5;refine kk ?_;exact PF (run eX) (aG ((aN (Of aI)).trans ((MG ab).trans (Lh ((aN (jS (x:=V.none) (iB.list (gB.list iX)) (by decide) ab)).trans ((aN (m:=cmp _ _ _) (a:=.bool ak) (af:=d0) ab).trans ab))))) ⟨_,_,ab,.mk ((o7.trans gB).trans iB)⟩)
 |some p=>
  rw[tp]at run aL gB iX o7;refine aE λkk=>?_;obtain⟨bw,fD⟩:=W.FQ aY tp;rcases(uF (d:=d+2) j5 bw nofun GS aL) with ⟨_,d0,eX,e7⟩|⟨ex,d0,eX,f5⟩
  ·refine kk ?_
   induction e7 with
   |@mk d0 bb hg ie iB=>
   cases hg;have Oy:=iB.list (gB.list iX);refine PE (run eX) (aG (jS (x:=ep φ p) Oy (by decide) ab) (aG AA (aG (m:=truth _) (a:=ak) (af:=d0) ab (hM ab (aG (u3 (D0 (ss:=[e9 wide m,p]) ?_ ie Oy)) (cD (.mk ((o7.trans gB).trans iB))))))));rw[uu,uu,W.aaH,fD];rfl
  ·refine kk ?_;obtain⟨h,_⟩:=f5;cases h
theorem Xi:∀t∈[1,2,3,4,5,6,7],i4 deep (ib t).b=ak:=by decide +kernel
theorem XW{x:Int}(j5:cW φ)(aI:0<=x)(W:ka φ (x % 2==1) (1+(x / 2 % 4).toNat) ws)(lq:bF φ ws=(ss.take (1+(x / 2 % 4).toNat)).map V.str)(bf:ss.length=4)(aV:0<σ.length)(aj:σ[nl]? =I (.list (ss.map V.str))) :
  Wp σ (aX (d+21) "_law_great" [.ref nl,.int x]) (fy (.bool ak) (bx σ)):=by
 have hm:(x / 2 % 4).toNat<4:=vn (by decide);have aY:(x / 8 % 7).toNat<7:=vn (by decide);rw[ah9];refine aG (jR (by decide)) (aG u2 (aG (mZ (by decide)) (aG (jR (by decide)) (aG qb (aG (m:=bound _) ab (aG (m:=bound _) ab (aG (Ay aj) ?_)))))));rw[(vo (by decide):x / 2 % 4=((x / 2 % 4).toNat:Int)),OQ (k:=((1+(x / 2 % 4).toNat:Nat):Int)) (kj _) (by rw[c3,bf];exact uv.mpr (LF (vn (by decide)))),Int.toNat_natCast,<-ajX,<-lq];generalize ala:(x % 2==1)=wide at W ⊢;have BK:(σ++[O.list (bF φ ws)]:aq)[σ.length]? =I (.list (bF φ ws)):=b2;have dU:bx σ (σ++[O.list (bF φ ws)]):=.push;generalize (σ++[O.list (bF φ ws)]:aq)=c4 at BK dU ⊢;have fT:V.tup [.str "input",.int 0]=cR φ (i9 0):=xi.symm;refine Wp.step (P:=fy (cR φ (BU ws wide)) (dC c4)) ?_ λv cz aK=>?_
 ·rw[fT];refine aG (m:=truth _) ab ?_
  induction wide with
  |true=>exact hM ab (Wp.iO (XO BK (by rw[W.len];exact W.four)) λaC l=>cD (.mk l))
  |false=>exact hN ab (Wp.iO (XT BK) λaC l=>cD (.mk l))
 induction aK with
 |@mk cz du=>
 rw[((we W.yh.fit.ok).symm:V.tup [.str "f",.int 1,cR φ (BU ws wide)]=cx φ (hJ ws wide))];refine aG (m:=bP _) ab (aG (mZ (by decide)) (aG (jR (by decide)) (aG qb ?_)));have hp:(cz++[O.list [cx φ (hJ ws wide)]]:aq)[cz.length]? =I (.list [cx φ (hJ ws wide)]):=b2;have Gb:(cz++[O.list [cx φ (hJ ws wide)]]:aq)[σ.length]? =I (.list (bF φ ws)):=cK (bZ.at du BK);have gr:bx σ (cz++[O.list [cx φ (hJ ws wide)]]):=(dU.trans (dC.nU du)).new;generalize (cz++[O.list [cx φ (hJ ws wide)]]:aq)=eQ at hp Gb gr ⊢;generalize cz.length=kp at hp ⊢;rw[(vo (by decide):x / 8 % 7=((x / 8 % 7).toNat:Int)),LD];have h1:=X1 aY;have cP:=X2 aY;generalize 1+(x / 8 % 7).toNat=t at h1 cP ⊢;have Zt:t<=7:=by
  have:∀x∈[1,2,3,4,5,6,7],x<=7:=by decide
  exact this t h1
 have N0:0<eQ.length:=di aV gr.len;rw[fT];refine aG (nK (uX (b7 ‹t<=_› (by decide)))) (mB (X:=Nat) (S:=Nat×Option V) (xs:=eP t) (g:=λj=>V.int (j:Int)) (L:=λs=>(I (.ref nl)::I (.int x)::I (.bool wide)::I (.ref σ.length)::I (cR φ (BU ws wide))::I (.ref kp)::I (.int t)::I (cR φ (qA s.1 (i9 0)))::s.2::n_10)) (J:=λae=>True) ab (by rw[sO];exact jO) (IH t eQ) (λae=>aS) (0,U) (.mk (by rw[k2];exact lM _)) (λy r s aC ae aW=>?_) λs aC aW=>?_)
 ·induction aW with
  |mk h=>
  refine fJ (aia ..) (cD ?_);rw[<-uI];exact oh.next (s.1+1,I (V.int (y:Int))) (.mk (by rw[gy]at h;lia))
 induction aW with
 |mk h=>
 replace h:s.1=t:=h;rw[h];refine fJ (aic ..) (aG (m:=lz _ _) (a:=.int ((min t 5:Nat):Int)) (af:=eQ) ?_ (Wp.iO (XU j5 W cP N0 Gb hp) λfA gB=>aG (m:=truth _) ab (hN ab ((aaD j5 W h1 (di N0 gB.len) (gB.list Gb) (gB.list hp) (Xi t h1)).mono λv aC aK=>?_))))
 ·refine(?_:Res.ok (V.int (min (t:Int) 5)) eQ=_);exact dR (λz=>Res.ok (V.int z) eQ) XH
 ·induction aK with
  |mk l=>exact .mk ((gr.trans gB).trans l)
end
def jh(n:Nat)(c:Int):eK:=if c % 3<2 then .fT (c % 3).toNat else .made (kK (c / 3) n) (pz (c / 3) n)
def nF(φ:Nat->Str)(ls:List Nat):eK->V
 |.fT i=>.int i
 |.made zs e=>bV φ (nT ls zs e)
def fO(φ:Nat->Str)(ls:List Nat)(t:eK):V:=.tup [cR φ (t.body ls),nF φ ls t]
noncomputable def eK.qi:eK->Bool
 |.fT _=>ak
 |_=>aH
structure jy where
 φ:Nat->Str
 ls:List Nat
 nl:Nat
 kp:Nat
 num:Nat
 h9:Nat
 g7:Nat
 x:Int
 put:Bool
 hl:V
 MB:V
 lu:V
 a:eK
 b:eK
noncomputable abbrev oi:=Option V×Option V×Option V
noncomputable def jy.loc(w:jy)(s:oi)(r:Option V×Option V×Option V):Loc:=(I (.ref 0)::I (.ref w.nl)::I (.int w.x)::I (.ref w.kp)::I (.bool w.put)::I w.hl::I w.MB::I w.lu::I (.ref w.num)::I (.ref w.h9)::I (.ref w.g7)::s.1::s.2.1::s.2.2::r.1::r.2.1::r.2.2::n_19)
structure r7(w:jy)(zs:List Int)(ss:List Str)(β:aq):Prop where
 z:β[0]? =I (.list (zs.map .int))
 l:β[w.nl]? =I (.list (ss.map V.str))
 p:β[w.kp]? =I (.list (bF w.φ w.ls))
 num:β.length<=w.num
 h9:β.length<=w.h9
 g7:β.length<=w.g7
 e5:w.num≠w.h9
 n2:w.num≠w.g7
 iQ:w.h9≠w.g7
 j5:cW w.φ
 AF:lF w.φ w.ls
 len:w.ls.length<=3
section
variable {w:jy}{zs:List Int}{ss:List Str}{β σ aC:aq}{d:Nat}{α:Type}{Q:α->aq->Prop}
theorem r7.pos(h:r7 w zs ss β):0<β.length:=fz (iu _) (dy h.z)
inductive PM(w:jy)(β:aq)(all:List V)(r:List Nat)(s:oi)(aC:aq):Prop
 |mk(acc:List V)(aP:∃i,r=[0,1].drop i)(h:acc++r.map (λk=>fO w.φ w.ls (if k=0 then w.a else w.b))=all)(cu:aC[w.g7]? =I (.list acc))(j2:aC[w.num]? =I (.list (zeros 0)))(eW:aC[w.h9]? =I (.list [.none,.none]))(le:dC β aC):PM w β all r s aC
theorem Uh{k:Nat}{s:oi}(B:r7 w zs ss β)(le:dC β aC)(ao:k<2)(Bp:(if k=0 then w.a else w.b)=jh w.ls.length (eY zs (3+k))){acc:List V}(cu:aC[w.g7]? =I (.list acc))(aj:acc.length<=2) :
  Wp aC (bindTo (stLoc f9.names) (cy sj) (.int k) (w.loc s (U,U,U))>>=cm (av (d+5)) (bU sj) f9.names) λr ht=>∃s',r=(.next,w.loc s' (U,U,U))/\∃DF,d3 aC DF/\ht=DF.set w.g7 (.list (acc++[fO w.φ w.ls (if k=0 then w.a else w.b)])):=by
 have rc:aX (d+5) "_law_cell" [.ref 0,.int ((3:Int)+(k:Int))] aC=.ok (.int (eY zs (3+k))) aC:=xT (d:=d+4) (k:=3+k) (bZ.at le B.z);have gf:acc.length<bz:=fz aj (by decide +kernel);have aV:0<w.g7:=di B.pos B.g7;generalize eY zs (3+k)=c at rc Bp;rw[Bp];refine fJ (ahQ ..) (aG qb (aG rc (aG (jR (by decide)) (aG qb (aG rc (aG (mZ (by decide)) (aG (m:=cmp _ _ _) (a:=.bool (decide (c % 3<2))) (af:=aC) ab (aG (m:=truth _) ab ?_))))))));unfold jh;by_cases h:c % 3<2
 ·rw[kg h,bj h];have e:V.tup [.tup [.str "input",.int (c % 3)],.int (c % 3)]=fO w.φ w.ls (.fT (c % 3).toNat):=by
   unfold fO;refine(?_:_=V.tup [cR w.φ (i9 (c % 3).toNat),.int ((c % 3).toNat:Int)]);rw[xi,<-vo (by decide)]
  rw[e];exact hM ab (aG (jk cu ab) (aG (k8 cu aV gf) (cD ⟨(_,_,_),ab,aC,.refl,ab⟩)))
 ·rw[jI h,bH h];refine hN ab (aG (jk cu ab) ?_);obtain⟨eb,e⟩:=(λn aM=>⟨d+4-n,Cd (n:=4) (w4 aM)⟩:∀n,n<=3->∃eb,d+5=eb+n+1) _ B.len;rw[e];refine Wp.iO (XV B.AF (bZ.at le B.p)) λSk a1=>Wp.iO (XS B.AF (a1.at (bZ.at le B.p))) λzZ a2=>?_;exact aG (k8 ((a1.trans a2).at cu) aV gf) (cD ⟨(_,_,_),ab,zZ,a1.trans a2,ab⟩)
theorem X3{K:a6×Loc->M α}{fu:Loc->M α}{s:oi}(B:r7 w zs ss β)(bu:w.a=jh w.ls.length (eY zs 3))(al:w.b=jh w.ls.length (eY zs 4))(le:dC β σ)(cu:σ[w.g7]? =I (.list []))(j2:σ[w.num]? =I (.list (zeros 0)))(eW:σ[w.h9]? =I (.list [.none,.none]))
  (next:∀s aC,dC β aC->aC[w.g7]? =I (.list [fO w.φ w.ls w.a,fO w.φ w.ls w.b])->aC[w.num]? =I (.list (zeros 0))->aC[w.h9]? =I (.list [.none,.none])->Wp aC (fu (w.loc s (U,U,U))) Q) :
  Wp σ (eT (av (d+5)) (cy sj) (bU sj) (.vals (lW 0 2)) f9.names (w.loc s (U,U,U))>>=dA K fu) Q:=by
 refine mB (X:=Nat) (S:=oi) (xs:=[0,1]) (g:=λj=>V.int (j:Int)) (L:=λs=>w.loc s (U,U,U)) (J:=λae=>True) ab jO (PM w β [fO w.φ w.ls w.a,fO w.φ w.ls w.b]) (λae=>aS) s (.mk [] ⟨0,ab⟩ ab cu j2 eW le) (λk r s aC ao aW=>aE λkk=>?_) λs aC aW=>?_
 ·obtain⟨acc,⟨i,aR⟩,h,cu,j2,eW,le⟩:=aW;have aj:acc.length<=2:=by
   have:=dR List.length h;rw[dM]at this;exact b7 (g0 ..) (sr this)
  have tl:k<2:=by
   rcases cY.mp ao with rfl|ao
   ·decide
   ·rw[bT.mp ao];decide
  have Bp:(if k=0 then w.a else w.b)=jh w.ls.length (eY zs (3+k)):=by
   rcases cY.mp ao with rfl|ao
   ·exact bu
   ·rw[bT.mp ao];exact al
  refine kk ((Uh (d:=d) (s:=s) B le tl Bp cu aj).mono λdn ht aU=>?_);obtain⟨s',rfl,DF,a,rfl⟩:=aU;refine .next s' (.mk _ ⟨i+1,?_⟩ (by rw[jM];exact h) (fg (a.at cu)) (ea B.n2.symm (a.at j2)) (ea B.iQ.symm (a.at eW)) (bZ.hQ (bZ.trans le λn o ae e=>a.at e) B.g7));rw[<-akg,<-aR];rfl
 ·obtain⟨acc,_,h,cu,j2,eW,le⟩:=aW;rw[zQ,lP]at h;subst h;exact next s aC le cu j2 eW
def kD(w:jy):Nat->Nat
 |0=>0
 |i+1=>(l7 w.ls w.a w.b i (kD w i)).2
def iS(w:jy)(i:Nat):a4:=(l7 w.ls w.a w.b i (kD w i)).1
def pe(w:jy):Nat->List V
 |0=>[.none,.none]
 |1=>[bV w.φ (iS w 0),.none]
 |_=>[bV w.φ (iS w 0),bV w.φ (iS w 1)]
theorem F4(i:Nat)(h:w.ls.length<=3):kD w i<=4*i:=by
 induction i with
 |zero=>exact cI _
 |succ i au=>
  refine(?_:(l7 w.ls w.a w.b i (kD w i)).2<=_);unfold l7
  induction (w.a.pb i || w.b.pb i) with
  |true=>rw[bj ab,LA];exact MQ h au
  |false=>rw[bH nofun];exact MQ (iu _) au
theorem Te{k:Nat}:iM σ (.int k) (([w.a,w.b].filter eK.qi).map (nF w.φ w.ls))=I (w.a.pb k || w.b.pb k):=by
 have one:∀{i k:Nat},eG σ (.int i) (.int k)=I (i==k):=λ{i k}=>by
  refine(?_:I ((i:Int)==(k:Int))=_);refine dR I ?_;by_cases e:i=k
  ·rw[e,jJ,jJ]
  ·rw[wY.mpr e,wY.mpr λq=>e (DB q)]
 have ar:∀{i:Nat}{l:List V}{b:Bool},iM σ (.int k) l=I b->iM σ (.int k) (.int i::l)=I ((i==k) || b):=λ{i l b} h=>by
  refine(?_:(match eG σ (.int i) (.int k),iM σ (.int k) l with|some e,some t=>I (e || t)|_,_=>U)=_);rw[one,h]
 have z7:iM σ (.int k) []=I aH:=rfl;generalize w.a=a;generalize w.b=b
 cases a with
 |fT i=>cases b with
  |fT j=>exact(ar (ar z7)).trans (by rw[Bool.or_false];rfl)
  |made zs e=>exact(ar z7).trans ab
 |made zs e=>cases b with
  |fT j=>exact(ar z7).trans (by rw[Bool.or_false];rfl)
  |made zs e=>exact z7
inductive Q7(w:jy)(β:aq)(r:List Nat)(s:oi)(aC:aq):Prop
 |mk(i:Nat)(aP:r=[0,1].drop i)(aR:i<=2)(cu:aC[w.g7]? =some (.list [fO w.φ w.ls w.a,fO w.φ w.ls w.b]))(j2:aC[w.num]? =some (.list (zeros (kD w i))))(eW:aC[w.h9]? =some (.list (pe w i)))(le:dC β aC):Q7 w β r s aC
theorem Pd{t:eK}(aj:w.ls≠[]):∃s r,cR w.φ (t.body w.ls)=.tup (.str s::r)/\(s==aB "input")=t.qi:=by
 cases t with
 |fT i=>exact⟨_,_,xi,(by decide +kernel:(aB "input" == aB "input")=ak)⟩
 |made zs e=>
  generalize w.ls=ls at aj
  induction ls using List.casesOn with
  |nil=>exact(aj ab).elim
  |cons l ls=>exact⟨_,_,sF,(by decide +kernel:(aB "make" == aB "input")=aH)⟩
theorem Y3{v:List (Option V)}{cj dO:Option V}{k:V}{s:oi}(aj:w.ls≠[])(cu:aC[w.g7]? =I (.list [fO w.φ w.ls w.a,fO w.φ w.ls w.b])) :
  gw (av d) (e0 jE) (eO jE) (eZ jE) (bM jE) (.lst w.g7) f9.names (w.loc (I k,cj,dO) (U,U,U)) aC=.ok (.ref aC.length) (aC++[O.list (([w.a,w.b].filter eK.qi).map (nF w.φ w.ls))]):=by
 refine xS (X:=eK) (xs:=[w.a,w.b]) (g:=fO w.φ w.ls) (L:=λo=>[U,o.map (fO w.φ w.ls)]) (p:=eK.qi) (f:=nF w.φ w.ls) ab (kq λht e=>by subst e;exact cu) ahS (ahT ..) (by refine(?_:2<=bz);decide +kernel) (λae az=>ahV ..) (λt ae=>?_) λt ae az=>by rw[ahU];exact(aN jl).trans ab
 refine aE λkk=>?_;obtain⟨s,r,ax,aO⟩:=Pd (t:=t) aj;refine kk ?_;rw[ahR];refine(aN gn).trans ?_;rw[ax];refine(aN gn).trans ((aN k7).trans ((aN (m:=truth _) ab).trans ?_));rw[aO];rfl
theorem Y5{i:Nat}(aR:i<2):(pe w i).set i (bV w.φ (iS w i))=pe w (i+1):=by
 rcases AR aR with rfl|rfl <;> rfl
theorem MS{i:Nat}:(pe w i).length=2:=by
 match i with
 |0=>rfl
 |1=>rfl
 |_+2=>rfl
theorem X5{K:a6×Loc->M α}{fu:Loc->M α}{s:oi}(B:r7 w zs ss β)(aj:w.ls≠[])(le:dC β σ)(cu:σ[w.g7]? =I (.list [fO w.φ w.ls w.a,fO w.φ w.ls w.b]))(j2:σ[w.num]? =I (.list (zeros 0)))(eW:σ[w.h9]? =I (.list [.none,.none]))
  (next:∀s aC,dC β aC->aC[w.g7]? =I (.list [fO w.φ w.ls w.a,fO w.φ w.ls w.b])->aC[w.h9]? =I (.list (pe w 2))->Wp aC (fu (w.loc s (U,U,U))) Q) :
  Wp σ (eT (av (d+5)) (cy ug) (bU ug) (.vals (lW 0 2)) f9.names (w.loc s (U,U,U))>>=dA K fu) Q:=by
 have vK:0<w.num:=di B.pos B.num;have Nw:0<w.h9:=di B.pos B.h9;refine mB (X:=Nat) (S:=oi) (xs:=[0,1]) (g:=λj=>V.int (j:Int)) (L:=λs=>w.loc s (U,U,U)) (J:=λae=>True) ab jO (Q7 w β) (λae=>aS) s (.mk 0 ab (by decide) cu j2 eW le) (λk r s aC ao aW=>aE λkk=>?_) λs aC aW=>?_
 ·obtain⟨i,aP,aR,cu,j2,eW,le⟩:=aW;have Gx:([0,1]:List Nat)[i]? =I k:=by rw[<-aj7,<-aP];rfl
  have pj:k=i/\i<2:=by
   rcases LQ (sq aR) with rfl|rfl|rfl
   ·cases Gx;exact⟨ab,by decide⟩
   ·cases Gx;exact⟨ab,by decide⟩
   ·cases Gx
  obtain⟨rfl,tl⟩:=pj;have kF:r=[0,1].drop (k+1):=by rw[<-akg,<-aP];rfl
  have ek:=F4 (w:=w) k B.len;refine kk (fJ (ahP ..) (aG (kx cu) (aG (Y3 (d:=d+5) (v:=[]) (s:=s) aj cu) (aG (Ww b2 Te) (aG (m:=truth _) ab ?_)))));have Hd:=cK (o':=O.list (([w.a,w.b].filter eK.qi).map (nF w.φ w.ls))) cu;have B6:=cK (o':=O.list (([w.a,w.b].filter eK.qi).map (nF w.φ w.ls))) j2;have Hh:=cK (o':=O.list (([w.a,w.b].filter eK.qi).map (nF w.φ w.ls))) eW;have dU:dC β (aC++[O.list (([w.a,w.b].filter eK.qi).map (nF w.φ w.ls))]):=bZ.new le;generalize (aC++[O.list (([w.a,w.b].filter eK.qi).map (nF w.φ w.ls))]:aq)=Sk at Hd B6 Hh dU ⊢;have ax:iS w k=(l7 w.ls w.a w.b k (kD w k)).1:=rfl;have aO:kD w (k+1)=(l7 w.ls w.a w.b k (kD w k)).2:=rfl;have ia:=Y5 (w:=w) tl
  induction hI:(w.a.pb k || w.b.pb k) with
  |true=>
   rw[show l7 w.ls w.a w.b k (kD w k)=openK w.ls (kD w k) by unfold l7;rw[bj hI]]at ax aO;have hd:∃eb,d+5=eb+w.ls.length+1:=⟨d+4-w.ls.length,Cd (n:=4) (w4 B.len)⟩;obtain⟨eb,iX⟩:=hd;have ho:=Mc (φ:=w.φ) (d:=eb) vK (λq=>hZ _ (di (dy B.p) (q ▸ B.num)):w.kp≠w.num) (bZ.at dU B.p) B6 (fz (Y4 tl (F4 k B.len) B.len) (by decide));rw[<-iX,<-ax,<-aO]at ho;refine hM ab (Wp.iO ho λzZ q=>?_);obtain⟨acf,du,_⟩:=q;have yX:=du _ _ (λq=>B.e5 (bT.mp q).symm) Hh;have o7:dC β zZ:=bZ.after dU du λn aM=>.inr (bT.mp aM ▸ B.num);refine aG (Lg yX Nw (kj k) (by rw[MS];lia)) (cD (.next (_,_,_) (.mk (k+1) kF tl (ea B.iQ (du _ _ (λq=>B.n2 (bT.mp q).symm) Hd)) (ea B.e5.symm acf) ?_ (o7.hQ B.h9))));rw[fg yX,Int.toNat_natCast,ia]
  |false=>
   rw[show l7 w.ls w.a w.b k (kD w k)=(.blank (kD w k),kD w k+1) by unfold l7;rw[bH (by rw[hI];exact nofun)]]at ax aO;refine hN ab (Jt B6 vK (fz (MR tl (F4 k B.len)) (by decide)) ?_);have yX:=ea (o':=.list (zeros (kD w k+1))) B.e5 Hh;rw[show V.tup [.str "blank",.int (kD w k:Int)]=bV w.φ (iS w k) by rw[ax];rfl];refine aG (Lg yX Nw (kj k) (by rw[MS];lia)) (cD (.next (_,_,_) (.mk (k+1) kF tl (ea B.iQ (ea B.n2 Hd)) (ea B.e5.symm ?_) ?_ ((dU.hQ B.num).hQ B.h9))))
   ·rw[fg B6,aO]
   ·rw[fg yX,Int.toNat_natCast,ia]
 ·obtain⟨i,aP,aR,cu,j2,eW,le⟩:=aW;have:i=2:=by
   rcases LQ (sq aR) with rfl|rfl|rfl
   ·cases aP
   ·cases aP
   ·rfl
  subst this;exact next s aC le cu eW
end
section
variable {w:jy}{zs:List Int}{ss:List Str}{β σ aC:aq}{d kr:Nat}{α:Type}{Q:α->aq->Prop}
def xr(w:jy):eK->a4
 |.fT i=>if i=0 then iS w 0 else iS w 1
 |.made zs e=>nT w.ls zs e
def k5(w:jy)(t:eK):a4:=if w.put then pE w.ls (xr w t) else atK w.ls (xr w t)
theorem K9{t:eK}:k5 w t=xQ w.ls w.put (iS w 0) (iS w 1) t:=by cases t <;> rfl
structure CC(w:jy)(t:eK):Prop where
 lt:∀i,t=.fT i->i<2
 Kx:kc w.ls (xr w t)
theorem Y6{i:Nat}(h:w.a.pb i=ak\/w.b.pb i=ak):kc w.ls (iS w i):=by
 unfold iS l7;rw[bj (h.elim (λh=>by rw[h];rfl) λh=>by rw[h];exact akt _)];exact EF
theorem J2{t:eK}(aY:t=w.a\/t=w.b){n:Nat}{c:Int}(h:t=jh n c):CC w t:=by
 have lt:∀i,t=.fT i->i<2:=λi e=>by
  replace e:=(h ..) ▸ e;unfold jh at e;by_cases q:c % 3<2
  ·replace e:=(bj q ..) ▸ e;cases e;exact Ma q
  ·replace e:=(bH q ..) ▸ e;cases e
 refine⟨lt,?_⟩
 induction t using eK.casesOn with
 |made zs e=>exact VF
 |fT i=>
  have aR:=lt i ab;have key:kc w.ls (iS w i):=Y6 (by
   rcases aY with aY|aY
   ·rw[<-aY];exact .inl (jJ i)
   ·rw[<-aY];exact .inr (jJ i))
  rcases AR aR with rfl|rfl
  ·exact key
  ·exact key
inductive PX(w:jy)(β:aq)(kr:Nat)(all:List V)(r:List eK)(s:Option V×Option V)(aC:aq):Prop
 |mk(acc:List V)(e:aC[kr]? =some (.list acc))(h:acc++r.map (λt=>bV w.φ (k5 w t))=all)(cu:aC[w.g7]? =I (.list [fO w.φ w.ls w.a,fO w.φ w.ls w.b]))(eW:aC[w.h9]? =I (.list (pe w 2)))(le:dC β aC):PX w β kr all r s aC
theorem X4{K:a6×Loc->M α}{fu:Loc->M α}{s:oi}(B:r7 w zs ss β)(aj:w.ls≠[])(ft:CC w w.a)(ba:CC w w.b)(le:dC β σ)(cu:σ[w.g7]? =I (.list [fO w.φ w.ls w.a,fO w.φ w.ls w.b]))(eW:σ[w.h9]? =I (.list (pe w 2)))(bK:σ[kr]? =I (.list []))(Nq:β.length<=kr)(e5:kr≠w.g7)(n2:kr≠w.h9)
  (next:∀cj dO aC,dC β aC->aC[w.g7]? =I (.list [fO w.φ w.ls w.a,fO w.φ w.ls w.b])->aC[w.h9]? =I (.list (pe w 2))->aC[kr]? =I (.list [bV w.φ (k5 w w.a),bV w.φ (k5 w w.b)])->Wp aC (fu (w.loc s (cj,I (.ref kr),dO))) Q) :
  Wp σ (eT (av (d+5)) (cy wM) (bU wM) (.lst w.g7) f9.names (w.loc s (U,I (.ref kr),U))>>=dA K fu) Q:=by
 have Gw:0<kr:=di B.pos Nq;refine mB (X:=eK) (S:=Option V×Option V) (xs:=[w.a,w.b]) (g:=fO w.φ w.ls) (L:=λu=>w.loc s (u.1,I (.ref kr),u.2)) (J:=λaC=>aC[w.g7]? =I (.list [fO w.φ w.ls w.a,fO w.φ w.ls w.b])) ab (kq λaC h=>h) (PX w β kr [bV w.φ (k5 w w.a),bV w.φ (k5 w w.b)]) (λaW=>by obtain⟨_,_,_,cu,_,_⟩:=aW;exact cu) (U,U) (.mk [] bK ab cu eW le) (λt r u aC aY aW=>aE λkk=>?_) λu aC aW=>?_
 ·obtain⟨acc,e,h,cu,eW,le⟩:=aW;have gp:CC w t:=by
   rcases cY.mp aY with rfl|aY
   ·exact ft
   ·rw[bT.mp aY];exact ba
  have gf:acc.length<bz:=by
   have:=dR List.length h;rw[dM]at this;exact fz (b7 (g0 ..) (sr this)) (by refine(?_:2<bz);decide +kernel)
  obtain⟨akM,ey,fI,dq⟩:=Pd (t:=t) aj;refine kk (fJ (ahO ..) ?_);have dB:(item (cR w.φ (t.body w.ls)) (V.int 0)>>=λUL=>cmp .Eq UL (V.str "input")>>=λUK=>truth UK>>=λady=>M.cond ady (item (.ref w.h9) (nF w.φ w.ls t)>>=λUJ=>(pure UJ:M V)) (pure (nF w.φ w.ls t):M V)) aC=.ok (bV w.φ (xr w t)) aC:=by
   rw[fI];refine(aN gn).trans ((aN k7).trans ((aN (m:=truth _) ab).trans ?_));rw[dq]
   induction t using eK.casesOn with
   |made zs e=>rfl
   |fT i=>
    have aR:=gp.lt i ab;refine(acJ ab).trans ((aN (jS (x:=bV w.φ (xr w (.fT i))) eW (kj i) ?_)).trans ab);rw[Int.toNat_natCast];rcases AR aR with rfl|rfl <;> rfl
  refine aG dB (aG (jk e ab) ?_);refine Wp.step (P:=fy (bV w.φ (k5 w t)) (dC aC)) ?_ λv ht aK=>?_
  ·refine aG (m:=truth _) ab ?_;unfold k5
   induction w.put with
   |true=>
    obtain⟨eb,iX⟩:∃eb,d+5=eb+w.ls.length+1:=⟨d+4-w.ls.length,Cd (n:=4) (w4 B.len)⟩;rw[iX,bj ab];exact hM ab (Wp.iO (Md B.j5 gp.Kx B.AF (bZ.at le B.p)) λht l=>cD (.mk l))
   |false=>
    rw[bH nofun];exact hN ab (Wp.iO (Me gp.Kx B.AF (bZ.at le B.p)) λht l=>cD (.mk l))
  ·induction aK with
   |mk l=>
   exact aG (k8 (bZ.at l e) Gw gf) (cD (.next (_,_) (.mk _ (fg (bZ.at l e)) (by rw[jM];exact h) (ea e5 (bZ.at l cu)) (ea n2 (bZ.at l eW)) ((bZ.trans le l).hQ Nq))))
 ·obtain⟨acc,e,h,cu,eW,le⟩:=aW;rw[zQ,lP]at h;subst h;exact next u.1 u.2 aC le cu eW e
structure Facts(w:jy):Prop where
 f:zw [] ⟨0,1,fBody w.ls w.put⟩ (fV w.ls w.put)
 g:zw [(0,fV w.ls w.put)] ⟨1,2,n9 w.ls w.a w.b⟩ (ni w.ls w.put w.a w.b)
 h:w.put=ak->zw [(0,fV w.ls w.put)] ⟨2,1,ng⟩ (fV w.ls w.put)
 rA:oY 14 (fV w.ls w.put)=ak
 Yw:oY 14 (ni w.ls w.put w.a w.b)=ak
 bu:w.φ 32=aB "a"
 al:w.φ 33=aB "b"
 hl:w.hl=cR w.φ (fBody w.ls w.put)
 lu:w.lu=ep w.φ (fV w.ls w.put)
theorem Yh{ws:List Nat}{s:oi}{cj dO:Option V}(B:r7 w zs ss β)(F:Facts w)(W:ka w.φ (eY zs 5 % 2==1) (1+(eY zs 5 / 2 % 4).toNat) ws)(lq:bF w.φ ws=(ss.take (1+(eY zs 5 / 2 % 4).toNat)).map V.str)(bf:ss.length=4)(le:dC β σ)(cu:σ[w.g7]? =I (.list [fO w.φ w.ls w.a,fO w.φ w.ls w.b]))(eW:σ[w.h9]? =I (.list (pe w 2)))(bK:σ[kr]? =I (.list [bV w.φ (k5 w w.a),bV w.φ (k5 w w.b)])) :
  Wp σ (Im (d+21) (w.loc s (cj,I (.ref kr),dO))) λv ae=>v=.bool ak:=by
 have rR:cx w.φ ⟨0,1,fBody w.ls w.put⟩=.tup [.str "f",.int 1,w.hl]:=by rw[we F.f.fit.ok,F.hl];rfl
 have GU:cx w.φ ⟨1,2,n9 w.ls w.a w.b⟩=.tup [.str "g",.int 2,.tup [.str "make",.tup [.tup [.str "b",.tup [.str "call",.str "f",.tup [cR w.φ (w.b.body w.ls)]]],.tup [.str "a",.tup [.str "call",.str "f",.tup [cR w.φ (w.a.body w.ls)]]]]]]:=by
  rw[we F.g.fit.ok];refine(?_:V.tup [.str "g",.int 2,cR w.φ (kQ [(33,r2 (w.b.body w.ls)),(32,r2 (w.a.body w.ls))])]=_);rw[sF,eE,eE,zQ,uI,uI,F.bu,F.al]
 have aK:V.tup [.str "h",.int 1,.tup [.str "call",.str "f",.tup [.tup [.str "call",.str "f",.tup [.tup [.str "input",.int 0]]]]]]=V.tup [.str "h",.int 1,cR w.φ ng]:=by
  refine dR (λv=>V.tup [.str "h",.int 1,v]) ?_;unfold ng;rw[uI,uI,xi];rfl
 have Vh:V.tup [.tup (pe w 2),.tup [.str "record",.tup [.tup [.str "a",bV w.φ (k5 w w.a)],.tup [.str "b",bV w.φ (k5 w w.b)]],.none]]=ep w.φ (ni w.ls w.put w.a w.b):=by
  rw[K9,K9];refine(?_:_=V.tup [.tup [bV w.φ (iS w 0),bV w.φ (iS w 1)],bV w.φ (.dc [(32,xQ w.ls w.put (iS w 0) (iS w 1) w.a),(33,xQ w.ls w.put (iS w 0) (iS w 1) w.b)] U)]);rw[bV,nM,eE,eE,zQ,F.bu,F.al];rfl
 refine fJ (ahW ..) (aG (jS (x:=fO w.φ w.ls w.b) cu (by decide) ab) (aG gn (aG (jS (x:=fO w.φ w.ls w.a) cu (by decide) ab) (aG gn (aG (oS eW) (aG (jS (x:=bV w.φ (k5 w w.a)) bK (by decide) ab) (aG (jS (x:=bV w.φ (k5 w w.b)) bK (by decide) ab) (aG (m:=bP _) ab (aG (m:=bP _) ab ?_)))))))));rw[<-rR,<-GU,aK,Vh];have ax:(σ++[O.list [cx w.φ ⟨0,1,fBody w.ls w.put⟩,cx w.φ ⟨1,2,n9 w.ls w.a w.b⟩]]++[O.list [cx w.φ ⟨0,1,fBody w.ls w.put⟩,V.tup [.str "h",.int 1,cR w.φ ng]]]:aq)[σ.length]? =I (.list ([⟨0,1,fBody w.ls w.put⟩,⟨1,2,n9 w.ls w.a w.b⟩].map (cx w.φ))):=cK b2;have aO:(σ++[O.list [cx w.φ ⟨0,1,fBody w.ls w.put⟩,cx w.φ ⟨1,2,n9 w.ls w.a w.b⟩]]++[O.list [cx w.φ ⟨0,1,fBody w.ls w.put⟩,V.tup [.str "h",.int 1,cR w.φ ng]]]:aq)[(σ++[O.list [cx w.φ ⟨0,1,fBody w.ls w.put⟩,cx w.φ ⟨1,2,n9 w.ls w.a w.b⟩]]:aq).length]? =I (.list [cx w.φ ⟨0,1,fBody w.ls w.put⟩,V.tup [.str "h",.int 1,cR w.φ ng]]):=b2;have dU:bx σ (σ++[O.list [cx w.φ ⟨0,1,fBody w.ls w.put⟩,cx w.φ ⟨1,2,n9 w.ls w.a w.b⟩]]++[O.list [cx w.φ ⟨0,1,fBody w.ls w.put⟩,V.tup [.str "h",.int 1,cR w.φ ng]]]):=bx.push.new;generalize (σ++[O.list [cx w.φ ⟨0,1,fBody w.ls w.put⟩,cx w.φ ⟨1,2,n9 w.ls w.a w.b⟩]]:aq).length=gC at aO ⊢;generalize (σ++[O.list [cx w.φ ⟨0,1,fBody w.ls w.put⟩,cx w.φ ⟨1,2,n9 w.ls w.a w.b⟩]]++[O.list [cx w.φ ⟨0,1,fBody w.ls w.put⟩,V.tup [.str "h",.int 1,cR w.φ ng]]]:aq)=c4 at ax aO dU ⊢;have yI:0<c4.length:=di (di B.pos (dC.nU le).len:0<σ.length) dU.len;have FQ:fR [⟨0,1,fBody w.ls w.put⟩,⟨1,2,n9 w.ls w.a w.b⟩] []=.good [(0,fV w.ls w.put),(1,ni w.ls w.put w.a w.b)]:=by rw[F.f.j];refine(F.g.j []).trans ab
 refine aE λkk=>?_;rcases(uF (d:=d+4) B.j5 FQ nofun yI ax) with ⟨_,cz,Hg,aL⟩|⟨_,_,_,f5⟩
 case exc=>obtain⟨h,_⟩:=f5;cases h
 induction aL with
 |@mk cz bb hg ie du=>
 cases hg;have gr:bx c4 (cz++[O.list [w.lu,ep w.φ (ni w.ls w.put w.a w.b)]]):=du.new;have acn:(cz++[O.list [w.lu,ep w.φ (ni w.ls w.put w.a w.b)]]:aq)[cz.length]? =I (.list ([fV w.ls w.put,ni w.ls w.put w.a w.b].map (ep w.φ))):=by rw[F.lu];exact b2
 have rc:aX (d+21) "_law_cell" [.ref 0,.int 5] (cz++[O.list [w.lu,ep w.φ (ni w.ls w.put w.a w.b)]])=.ok (.int (eY zs 5)) (cz++[O.list [w.lu,ep w.φ (ni w.ls w.put w.a w.b)]]):=xT (d:=d+20) (k:=5) (gr.list (dU.list (bZ.at le B.z)));obtain⟨eQ,wa,gB⟩:=(XW (d:=d) B.j5 ac0 W lq bf (di yI gr.len) (gr.list (dU.list (bZ.at le B.l)))).v;have iB:bx c4 eQ:=gr.trans gB;refine kk (aG (a:=aH) (af:=eQ) ((aN Hg).trans ((aN (m:=bP _) ab).trans ((aN (AB (D0 (s := "good") (by rw[uu,uu,F.rA,F.Yw];rfl) (cK ie) acn))).trans ((aN (m:=truth _) ab).trans ((aN rc).trans ((aN wa).trans ab)))))) (hN ab ?_));unfold QQ;refine aG (m:=truth _) ab ?_;have i7:=F.h;have ao:=F.rA
 induction Zz:w.put with
 |false=>exact aG (m:=truth _) ab (hM ab (cD ab))
 |true=>
  refine aG (m:=truth _) ab (hN ab ?_);have Od:=F.h Zz;have Zo:cx w.φ ⟨2,1,ng⟩=V.tup [.str "h",.int 1,cR w.φ ng]:=we Od.fit.ok;rw[<-Zo]at aO;have FP:fR [⟨0,1,fBody w.ls w.put⟩,⟨2,1,ng⟩] []=.good [(0,fV w.ls w.put),(2,fV w.ls w.put)]:=by rw[F.f.j];refine(Od.j []).trans ab
  refine aE λkk=>?_;rcases(uF (d:=d+4) B.j5 FP nofun (di yI iB.len) (iB.list aO)) with ⟨_,fA,Hg,aL⟩|⟨_,_,_,f5⟩
  case exc=>obtain⟨h,_⟩:=f5;cases h
  induction aL with
  |@mk fA bb hg aci vp=>
  cases hg;have acm:(fA++[O.list [w.lu,w.lu]]:aq)[fA.length]? =I (.list ([fV w.ls w.put,fV w.ls w.put].map (ep w.φ))):=by rw[F.lu];exact b2
  exact kk (aG Hg (aG (m:=bP _) ab (aG (u3 (D0 (φ:=w.φ) (ss:=[fV w.ls w.put,fV w.ls w.put]) (s := "good") (by rw[uu,uu,F.rA];rfl) (cK aci) acm)) (cD ab))))
end
def xU(P:List Str)(c:Nat):List Str:=match P[c]? with
 |some s=>[s,lQ]
 |none=>[]
noncomputable def DW(W:List Str)(c:Nat):List Str:=match W[c]? with
 |some s=>[s]
 |none=>[]
def kN(P W:List Str):Nat->List Str
 |0=>xU P 0
 |1=>xU P 1
 |2=>xU P 2
 |3=>[aB "x"]
 |4=>[aB "a",aB "b"]
 |5=>[aB "p",aB "q"]
 |6=>jj W
 |c+7=>DW W c
section
variable {P W S l r:List Str}{x y s:Str}
theorem W8{z:Str}:z∈lY x l↔z=x\/z∈l:=by
 induction l with
 |nil=>exact bT.trans (by rw[List.mem_nil_iff,or_false])
 |cons y r au=>
  rw[sQ];by_cases h:strLt y x=ak
  ·rw[bj h,cY,au,cY];exact⟨λq=>q.elim (λq=>.inr (.inl q)) λq=>q.elim .inl λq=>.inr (.inr q),λq=>q.elim (λq=>.inr (.inl q)) λq=>q.elim .inl λq=>.inr (.inr q)⟩
  ·rw[bH h,cY]
theorem W7:(lY x l).Perm (x::l):=by
 induction l with
 |nil=>exact .refl _
 |cons y r au=>
  rw[sQ];by_cases h:strLt y x=ak
  ·rw[bj h];exact(List.Perm.cons y au).trans (List.Perm.swap x y r)
  ·rw[bH h]
theorem EL:(jj l).Perm l:=by
 induction l with
 |nil=>exact .refl _
 |cons y r au=>exact W7.trans (List.Perm.cons y au)
def wA(x y:Str):Prop:=strLt x y=ak
theorem WE(h:l.Pairwise wA)(aI:x∉l):(lY x l).Pairwise wA:=by
 induction l with
 |nil=>exact R0 _ _
 |cons y r au=>
  rw[sQ];obtain⟨h1,h2⟩:=qV.mp h;by_cases q:strLt y x=ak
  ·rw[bj q];refine qV.mpr ⟨λz hz=>?_,au h2 λhm=>aI (da _ hm)⟩;rcases W8.mp hz with rfl|hz
   ·exact q
   ·exact h1 z hz
  ·rw[bH q];have m7:wA x y:=by
    unfold wA
    induction e:strLt x y with
    |true=>rfl
    |false=>exact absurd (Kk e (zY.mpr q)) λe=>aI (e ▸ b8)
   exact qV.mpr ⟨λz hz=>(cY.mp hz).elim (λe=>e ▸ m7) λhz=>EN m7 (h1 z hz),h⟩
theorem Vv(h:l.Nodup):(jj l).Pairwise wA:=by
 induction l with
 |nil=>exact List.Pairwise.nil
 |cons y r au=>
  obtain⟨h1,h2⟩:=zP.mp h;exact WE (au h2) λhm=>h1 (EL.mem_iff.mp hm)
theorem adK(h:l.Pairwise wA):sl l:=by
 induction l with
 |nil=>exact aS
 |cons y r au=>
  obtain⟨h1,h2⟩:=qV.mp h
  induction r using List.casesOn with
  |nil=>exact aS
  |cons z r=>exact⟨h1 z b8,au h2⟩
theorem HM{c:Nat}(h:∀x∈P,strLt x lQ=ak):sl (xU P c):=by
 unfold xU
 induction e:P[c]? with
 |none=>exact aS
 |some s=>exact⟨h s (g4 e),aS⟩
theorem acU(h:∀x∈P,strLt x lQ=ak)(fG:W.Nodup)(c:Nat):sl (kN P W c):=by
 match c with
 |0=>exact HM h
 |1=>exact HM h
 |2=>exact HM h
 |3=>exact aS
 |4=>exact⟨by decide +kernel,aS⟩
 |5=>exact⟨by decide +kernel,aS⟩
 |6=>exact adK (Vv fG)
 |c+7=>
  refine(?_:sl (DW W c));unfold DW;cases W[c]? <;> exact aS
theorem WU(h:S.length<=4):([0,1,2,3].take S.length).map (pick S)=S:=by
 match S,h with
 |[],_=>rfl
 |[a],_=>refine(?_:[hR a 0]=_);rw[g9]
 |[a,b],_=>refine(?_:[a,hR b 0]=_);rw[g9]
 |[a,b,c],_=>refine(?_:[a,b,hR c 0]=_);rw[g9]
 |[a,b,c,d],_=>refine(?_:[a,b,c,hR d 0]=_);rw[g9]
 |_::_::_::_::_::_,h=>exact absurd h (by simp)
theorem WV(h:(jj W).length<=4):(jN ak (jj W).length).map (jU (kN P W))=jj W:=by
 refine Eq.trans ?_ (WU h);have:∀m,m<=4->(jN ak m).map (jU (kN P W))=([0,1,2,3].take m).map (pick (jj W)):=λm hm=>by
  rcases LP hm with rfl|rfl|rfl|rfl|rfl <;> rfl
 exact this _ h
theorem WX(h:W.length<=4):(jN aH W.length).map (jU (kN P W))=W:=by
 match W,h with
 |[],_=>rfl
 |[a],_=>refine(?_:[hR a 0]=_);rw[g9]
 |[a,b],_=>refine(?_:[hR a 0,hR b 0]=_);rw[g9,g9]
 |[a,b,c],_=>refine(?_:[hR a 0,hR b 0,hR c 0]=_);rw[g9,g9,g9]
 |[a,b,c,d],_=>refine(?_:[hR a 0,hR b 0,hR c 0,hR d 0]=_);rw[g9,g9,g9,g9]
 |_::_::_::_::_::_,h=>exact absurd h (by simp)
theorem WW(h1:1<=P.length)(h3:P.length<=3)(hz:∀x∈P,strLt x lQ=ak):lF (jU (kN P W)) (gb 0 P.length)/\(gb 0 P.length).map (jU (kN P W))=P:=by
 have aI:jU (kN P W) 24=aB "x":=g9
 match P,h1,h3 with
 |[a],_,_=>
  refine⟨⟨aI,λl aj=>?_⟩,ab⟩;rw[bT.mp aj];exact⟨g9,hz a b8,ab⟩
 |[a,b],_,_=>
  refine⟨⟨aI,λl aj=>?_⟩,ab⟩;rcases cY.mp aj with rfl|aj
  ·exact⟨g9,hz a b8,ab⟩
  ·rw[bT.mp aj];exact⟨g9,hz b (da _ b8),ab⟩
 |[a,b,c],_,_=>
  refine⟨⟨aI,λl aj=>?_⟩,ab⟩;rcases cY.mp aj with rfl|aj
  ·exact⟨g9,hz a b8,ab⟩
  ·rcases cY.mp aj with rfl|aj
   ·exact⟨g9,hz b (da _ b8),ab⟩
   ·rw[bT.mp aj];exact⟨g9,hz c (da _ (da _ b8)),ab⟩
 |_::_::_::_::_,_,h=>exact absurd h (by simp)
end
theorem Y1{x:Nat}{t:List Nat}:∀{s:List Nat},s++x::t∈ins x (s++t):=by
 intro s
 induction s with
 |nil=>cases t <;> exact b8
 |cons a s au=>exact da _ (iK.mpr ⟨_,au,ab⟩)
theorem WZ:∀{r l:List Nat},l.Perm r->l∈perms r:=by
 intro r
 induction r with
 |nil=>intro l h;rw[List.Perm.eq_nil h];exact b8
 |cons x r au=>
  intro l h;obtain⟨s,t,rfl⟩:=List.append_of_mem (h.mem_iff.mpr b8);exact I3.mpr ⟨_,au (List.Perm.cons_inv ((List.perm_middle (a:=x) (l₁:=s) (l₂:=t)).symm.trans h):(s++t).Perm r),Y1⟩
theorem W0{f:Nat->Str}{l k:List Str}(h:l.Perm k):∀{m:List Nat},m.map f=k->∃ej:List Nat,ej.Perm m/\ej.map f=l:=by
 induction h with
 |nil=>intro m e;exact⟨m,.refl _,e⟩
 |cons x h au=>
  intro m e
  induction m using List.casesOn with
  |nil=>cases e
  |cons a m=>
   refine aE λkk=>?_;obtain⟨ax,aO⟩:=pX e;obtain⟨ej,h1,h2⟩:=au aO;refine kk ?_;exact⟨a::ej,.cons a h1,by rw[eE,ax,h2]⟩
 |swap x y t=>
  intro m e
  induction m using List.casesOn with
  |nil=>cases e
  |cons a m=>induction m using List.casesOn with
   |nil=>cases e
   |cons b m=>
    refine aE λkk=>?_;obtain⟨ax,aO⟩:=pX e;obtain⟨aO,c7⟩:=pX aO;refine kk ?_;exact⟨b::a::m,.swap a b m,by rw[eE,eE,ax,aO,c7]⟩
 |trans _ _ Y8 Y7=>
  intro m e;refine aE λkk=>?_;obtain⟨A4,h1,h2⟩:=Y7 e;obtain⟨s5,h3,bf⟩:=Y8 h2;refine kk ?_;exact⟨s5,h3.trans h1,bf⟩
theorem W2:([1,2,3,4].all λm=>(perms (jN ak m)).all λls=>decide (ew ls=jN ak m/\ew (jN ak m)=jN ak m/\ls.length=m/\(jN ak m).length=m)&&ls.all λl=>Nat.beq (cl l) 6)=ak:=by decide +kernel
theorem acw{wide:Bool}{a b:List Nat}(h:∀s,p6 a wide s=p6 b wide s)(t:Nat):pB a wide t=pB b wide t:=by
 induction t with
 |zero=>rfl
 |succ t au=>refine(?_:p6 a wide (pB a wide t)=p6 b wide (pB b wide t));rw[h,au]
theorem SK{P W:List Str}(wide:Bool)(h1:1<=W.length)(bf:W.length<=4)(aM:W.Nodup):∃ws,ka (jU (kN P W)) wide W.length ws/\ws.map (jU (kN P W))=W:=by
 have hp:jU (kN P W) 40=aB "p":=rfl;have aL:jU (kN P W) 41=aB "q":=g9;have i7:=ec.mp YG W.length (vm h1 bf)
 induction wide with
 |false=>
  refine⟨_,⟨h1,bf,?_,hK i7 λh ae=>h,λae az=>ab,nofun,hp,aL⟩,WX bf⟩;refine(?_:([56,64,72,80].take W.length).length=_);rw[Dx];exact Ds bf
 |true=>
  have aj:(jj W).length=W.length:=EL.length_eq;have hm:=WV (P:=P) (W:=W) (by rw[aj];exact bf);rw[aj]at hm;refine aE λkk=>?_;obtain⟨ws,cP,eS⟩:=W0 (EL (l:=W)).symm hm;refine kk ?_;have ml:=WZ cP;refine hK (ec.mp (ec.mp W2 W.length (vm h1 bf)) ws ml) λvZ BQ=>?_;refine aE λkk=>?_;obtain⟨s1,s2,uV,nI⟩:=qS vZ;refine kk ?_;refine⟨ws,⟨h1,bf,uV,hK i7 λae h=>ec.mp h ws ml,λt k=>?_,λae l aj=>uq (ec.mp BQ l aj),hp,aL⟩,eS⟩;unfold gE;rw[acw (b:=jN ak W.length) λs=>?_];unfold p6 xg;rw[bj ab,bj ab,s1,s2,uV,nI]
theorem So:∀{n:Nat}{z:List Bool},z.length=n->z∈DI n:=by
 intro n
 induction n with
 |zero=>intro z h;rw[aj6.mp h];exact b8
 |succ n au=>
  intro z h
  induction z using List.casesOn with
  |nil=>cases h
  |cons b z=>exact I3.mpr ⟨z,au (RT h),iK.mpr ⟨b,rY b,ab⟩⟩
theorem aa5:∀{n:Nat}{c:Int},(kK c n).length=n:=by
 intro n
 induction n with
 |zero=>intro c;rfl
 |succ n au=>intro c;exact dR (· + 1) au
theorem J3{n:Nat}{c:Int}:jh n c∈k4 n:=by
 unfold jh;by_cases h:c % 3<2
 ·rw[bj h];refine oB _ ?_;rcases AR (Ma h) with e|e
  ·rw[e];exact b8
  ·rw[e];exact da _ b8
 ·rw[bH h];exact ur _ (I3.mpr ⟨_,So aa5,iK.mpr ⟨_,rY _,ab⟩⟩)
theorem L9{n:Nat}(h1:1<=n)(h3:n<=3):n∈[1,2,3]:=(by decide:∀n,n<4->1<=n->n∈[1,2,3]) n (sq h3) h1
theorem Xe{n:Nat}{put:Bool}{a b:eK}(h1:1<=n)(h3:n<=3)(bu:a∈k4 n)(al:b∈k4 n):LG (gb 0 n) put a b=ak:=by
 have key:rn n put a=ak:=by
  have:n=1\/n=2\/n=3:=by lia
  rcases this with rfl|rfl|rfl
  ·exact ec.mp (ec.mp YO put (rY put)) a bu
  ·induction put with
   |false=>exact ec.mp YN a bu
   |true=>exact ec.mp YM a bu
  ·rw[<-List.take_append_drop 9 (k4 3)]at bu
   induction put with
   |false=>exact(hs.mp bu).elim (ec.mp YL a) (ec.mp YK a)
   |true=>exact(hs.mp bu).elim (ec.mp YJ a) (ec.mp YI a)
 exact ec.mp key b al
theorem abe{w:jy}{n:Nat}(h1:1<=n)(h3:n<=3)(aj:w.ls=gb 0 n)(bu:w.a∈k4 n)(al:w.b∈k4 n)(B9:w.φ 32=aB "a")(B8:w.φ 33=aB "b")(hl:w.hl=cR w.φ (fBody w.ls w.put))(lu:w.lu=ep w.φ (fV w.ls w.put)):Facts w:=by
 have vY:=Xe (put:=w.put) h1 h3 bu al;have GP:=ec.mp YD n (L9 h1 h3);rw[<-aj]at vY;refine hK (ec.mp (ec.mp YH n (L9 h1 h3)) w.put (rY _)) λf1 f2=>hK vY λjV ky=>?_;rw[<-aj]at f1 f2;obtain⟨dx,eH,oV⟩:=vv f1;obtain⟨dN,ef,WA⟩:=vv jV;have aO:dN=ni w.ls w.put w.a w.b:=Ai (a:=[fV w.ls w.put]) (b:=[fV w.ls w.put]) WA ab;refine⟨((pX oV).1:dx=fV w.ls w.put) ▸ eH,aO ▸ ef,λhp=>?_,f2,ky,B9,B8,hl,lu⟩;unfold LK at GP;rw[<-aj]at GP;rw[hp];obtain⟨s1,s2,uV⟩:=vv GP;exact(Ai (a:=[fV w.ls ak]) (b:=[fV w.ls ak]) uV ab:s1=fV w.ls ak) ▸ s2
theorem Yg{d:Nat}{zs:List Int}{σ:aq}(hz:σ[0]? =I (.list (zs.map .int))):Wp σ (aX (d+22) "law" [.ref 0]) λv ae=>v=.bool ak:=by
 rw[ahN];refine aG (xT (d:=d+20) (k:=1) hz) (Wp.step (Yj (d:=d+20)) λv c4 aK=>aE λkk=>?_);obtain⟨nl,ss,rfl,_,ie,eC,dU⟩:=aK;have MY:=bZ.at dU hz;have yI:0<c4.length:=di (dy hz:0<σ.length) (dC.nU dU).len;have aM:(eY zs 0 % 3).toNat<3:=vn (by decide);have j2:eY zs 0 % 3=((eY zs 0 % 3).toNat:Int):=vo (by decide);refine kk (aG (xT (d:=d+20) (k:=0) MY) (aG (mZ (by decide)) (aG (jR (by decide)) (aG qb ?_))));rw[j2,LD];generalize ald:1+(eY zs 0 % 3).toNat=n;have e5:1<=n:=by lia
 have iQ:n<=3:=by lia
 refine Wp.step (XR (d:=d+20) yI iQ eC.four ie) λv cz aK=>aE λkk=>?_;obtain⟨kp,P,rfl,alf,cU,aay,aax,du⟩:=aK;subst aay;have NX:∀x∈P,strLt x lQ=ak:=λx aI=>eC.lQ x (aax x aI);have MX:=bZ.at du MY;have acj:=bZ.at du ie;have ZO:(eY zs 5 / 2 % 4).toNat<4:=vn (by decide);have GN:(ss.take (1+(eY zs 5 / 2 % 4).toNat)).length=1+(eY zs 5 / 2 % 4).toNat:=by rw[Dx,eC.four];exact Ds (LF ZO)
 have NO:(ss.take (1+(eY zs 5 / 2 % 4).toNat)).Nodup:=(List.pairwise_iff_getElem.mpr λi j aR bw fE e=>eC.ne i j ss[i] fE (iw aR) (by rw[e];exact iw bw):ss.Nodup).sublist (List.take_sublist _ _);obtain⟨ws,fG,aao⟩:=SK (P:=P) (eY zs 5 % 2==1) (by rw[GN];lia) (by rw[GN];lia) NO;have lq:bF (jU (kN P (ss.take (1+(eY zs 5 / 2 % 4).toNat)))) ws=(ss.take (1+(eY zs 5 / 2 % 4).toNat)).map V.str:=by
  unfold bF;rw[<-dR (List.map V.str) aao,iv];rfl
 rw[GN]at fG;obtain⟨Bv,Gh⟩:=WW (W:=ss.take (1+(eY zs 5 / 2 % 4).toNat)) e5 iQ NX;have j5:=WY (acU (P:=P) (W:=ss.take (1+(eY zs 5 / 2 % 4).toNat)) NX NO);have B9:jU (kN P (ss.take (1+(eY zs 5 / 2 % 4).toNat))) 32=aB "a":=rfl;have B8:jU (kN P (ss.take (1+(eY zs 5 / 2 % 4).toNat))) 33=aB "b":=g9;generalize jU (kN P (ss.take (1+(eY zs 5 / 2 % 4).toNat)))=φ at fG lq Bv Gh j5 B9 B8;have B5:cz[kp]? =I (.list (bF φ (gb 0 P.length))):=by
  rw[cU];unfold bF;rw[<-dR (List.map V.str) Gh,iv];rfl
 have hlen:(gb 0 P.length).length=P.length:=by
  have:=dR List.length Gh;rw[c3]at this;exact this
 have dD:gb 0 P.length≠[]:=λe=>by rw[e]at hlen;rw[List.length_nil]at hlen;lia
 refine kk (aG (xT (d:=d+20) (k:=2) MX) (aG (jR (by decide)) (aG u2 ?_)));generalize (eY zs 2 % 2==1)=put;have hd:∀k,k<=20->∃eb,d+21=eb+k+1:=λk ao=>⟨d+20-k,Cd (n:=20) ao⟩;refine Wp.step (P:=fy (cR φ (fBody (gb 0 P.length) put)) (dC cz)) ?_ λv eQ aK=>?_
 ·rw[(xi.symm:V.tup [.str "input",.int 0]=cR φ (i9 0))];refine aG (m:=truth _) ab ?_;unfold fBody
  induction put with
  |true=>
   obtain⟨eb,iX⟩:=hd (gb 0 P.length).length (b7 (sr hlen) (b7 iQ (by decide)));rw[iX,show eb+(gb 0 P.length).length+1=(eb+1)+(gb 0 P.length).length by lia,bj ab];exact hM ab (Wp.iO (XQ dD B5) λaC a=>cD (.mk λn o ae e=>a.at e))
  |false=>
   rw[bH nofun];exact hN ab (aG (XX (d:=d+20) B5) (cD (.mk .refl)))
 induction aK with
 |@mk eQ gr=>
 have B4:=bZ.at gr B5;obtain⟨eb,iX⟩:=hd (gb 0 P.length).length (b7 (sr hlen) (b7 iQ (by decide)));have ti:=Mc (φ:=φ) (d:=eb) (kn:=eQ.length) (fz (iu _) (dy B4):0<eQ.length) (ls:=gb 0 P.length) (σ:=eQ++[O.list []]) (kp:=kp) (m:=0) (λq=>hZ _ (q ▸ dy B4)) (cK B4) b2 (by lia);rw[<-iX]at ti;refine aG (m:=bP _) ab (Wp.iO ti λfA q=>aE λkk=>?_);obtain⟨_,gB,_⟩:=q;have Mq:dC eQ fA:=bZ.after (bZ.push) gB λn aM=>.inr (by rw[bT.mp aM];exact cI _);have Ou:=bZ.at Mq B4;refine kk (Wp.step (P:=fy (bV φ (fV (gb 0 P.length) put).2) (dC fA)) ?_ λv d0 aK=>?_)
 ·refine aG (m:=truth _) ab ?_;unfold fV;dsimp only
  induction put with
  |true=>
   rw[iX,bj ab];exact hM ab (Wp.iO (Md j5 EF Bv Ou) λaC l=>cD (.mk l))
  |false=>
   rw[bH nofun];exact hN ab (Wp.iO (Me (d:=d+20) EF Bv Ou) λaC l=>cD (.mk l))
 induction aK with
 |@mk d0 iB=>
 have FE:dC cz d0:=bZ.trans gr (bZ.trans Mq iB);refine aG (m:=bP _) ab (aG (m:=bP _) ab (aG (m:=bP _) ab (aG (nK (by decide)) ?_)));have hy:(d0++[O.list []]:aq).length=d0.length+1:=by rw[dM];rfl
 have iR:(d0++[O.list []]++[O.list [V.none,V.none]]:aq).length=d0.length+2:=by rw[dM,dM];rfl
 have g2:(d0++[O.list []]++[O.list [V.none,V.none]]++[O.list []]:aq)[d0.length+2]? =I (.list []):=by rw[<-iR];exact b2
 rw[hy,iR]
 let w:jy:=⟨φ,gb 0 P.length,nl,kp,d0.length,d0.length+1,d0.length+2,eY zs 0,put,cR φ (fBody (gb 0 P.length) put),bV φ (openK (gb 0 P.length) 0).1,ep φ (fV (gb 0 P.length) put),jh P.length (eY zs 3),jh P.length (eY zs 4)⟩
 have B:r7 w zs ss d0:=⟨bZ.at FE MX,bZ.at FE acj,bZ.at FE B5,cI _,jL _,g0 _ 2,fZ (jK _),fZ (ajK (by decide)),fZ (jK _),j5,Bv,by refine(?_:(gb 0 P.length).length<=3);rw[hlen];exact iQ⟩;have bu:w.a=jh w.ls.length (eY zs 3):=by refine(?_:jh P.length _=jh (gb 0 P.length).length _);rw[hlen]
 have al:w.b=jh w.ls.length (eY zs 4):=by refine(?_:jh P.length _=jh (gb 0 P.length).length _);rw[hlen]
 refine X3 (w:=w) (d:=d+16) (s:=(U,U,U)) B bu al (bZ.push.new.new) g2 (cK (cK b2)) (cK (by rw[<-hy];exact b2):(d0++[O.list []]++[O.list [V.none,V.none]]++[O.list []]:aq)[d0.length+1]? =I (.list [.none,.none])) λs aC Bd cu j2 eW=>?_;refine fJ (ahY ..) (aG (nK (by decide)) (X5 (w:=w) (d:=d+16) B dD Bd cu j2 eW λs aC o7 cu eW=>?_));refine fJ (ahX ..) (aG (m:=bP _) ab (aG (kx (cK cu)) ?_));have ZP:=dy eW;refine X4 (w:=w) (d:=d+16) (kr:=aC.length) B dD (J2 (.inl ab) bu) (J2 (.inr ab) al) (bZ.new o7) (cK cu) (cK eW) b2 (dC.nU o7).len (Nat.ne_of_gt (dy cu)) (Nat.ne_of_gt ZP) λcj dO zZ Yd cu eW bK=>?_;exact Yh (d:=d) B (abe e5 iQ ab J3 J3 B9 B8 ab ab:Facts w) fG lq eC.four Yd cu eW bK
theorem law10:QF tx10 40:=λzs ae=>by
 obtain⟨_,σ,e,rfl⟩:=Yg (d:=18) (zs:=zs) (σ:=[.list (zs.map .int)]) ab;exact⟨σ,e⟩
end Mine.Internal
end
end
open PySem PySem.W PyProof.Rows
set_option tactic.hygienic true in
set_option maxHeartbeats 8000000 in
theorem PySem.Challenge.cw_uf010004_10_holds : PySem.Challenge.rw_uf010004_10.Holds := by
  refine Mine.Internal.front ?_
  intro w s₀ s₁ mg mb G Y fa o pm cd doc dV kV ho hd hcd hD hmg hg args vals as hpre hlay hrd hwl hlo
  refine Ground.open G ?_
  intro T B D TE TW
  have hmg' : mg "law" = some (.ref fa) := Mine.Internal.lawD_name ▸ hmg
  clear hmg
  clear hd hcd hD
  wrow_args hpre hlay hrd hwl hlo
  rename_i zs _ _ _ _ _ _ _ la vs _ hL _ hw _ hI _ hlen _
  have hB := Mine.Internal.base_of (tab := Mine.Internal.tab10) (mtab := Mine.Internal.mt10) (gs := Mine.Internal.gs10) (cs := Mine.Internal.cs10) (xt := Mine.Internal.xt10) Y T TE (by decide +kernel) (by kernel_rfl) (by decide +kernel) (by decide +kernel) (by decide +kernel) (by kernel_rfl)
  refine wpAny_mono (Mine.Internal.law_run (tx := Mine.Internal.tx10) hB (by decide +kernel) hmg' (by decide +kernel) (Mine.Internal.list_at hL hw) hI (by omega) Mine.Internal.law10 (Mine.Internal.room_caller (by decide))) (fun v s' hp => ?_) fun _ _ f => f.elim
  obtain ⟨rfl, h1, h2, h3⟩ := hp
  exact GoodW.toG ⟨.inl ⟨_, .bool true, [], rfl, fun _ => by kernel_rfl, .bool true, by kernel_rfl, fun _ => ⟨List.nodup_nil, fun _ hm => absurd hm List.not_mem_nil⟩⟩, h1, h2, h3.trans hg⟩
