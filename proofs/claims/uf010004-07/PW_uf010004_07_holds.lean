import PyProof.Rows.All
import KE.KDictLaws
import KE.KDictOf
import PyProof.TupleKey
import PyProof.DictRoadsH
import PyProof.Rows.PlainEq
import PyProof.ZipIter
import PyProof.EnumMake
import PyProof.DictWalks
import PyProof.Rows.DictUnroll
import Wide.All
import Open.Line
import Wide.FinOn
import PySem.Challenge.RW_uf010004_07
set_option Elab.async false
set_option maxRecDepth 100000
set_option genSizeOfSpec false
set_option genInjectivity false
set_option linter.unusedVariables false
set_option linter.unusedSimpArgs false
set_option tactic.hygienic false
open PySem PySem.W PyProof.Rows in
noncomputable def Mine.Internal.lawD : DefRec × List (Str × Expr) := (defOf Challenge.pw_uf010004_07 Challenge.rw_uf010004_07.name).get (by decide +kernel)
open PySem PySem.W PyProof.Rows in
theorem Mine.Internal.lawD_name : Mine.Internal.lawD.1.name = Str.ofString "law" := by kernel_rfl
open PySem PySem.W PyProof.Rows in
set_option maxHeartbeats 8000000 in
theorem Mine.Internal.front (hB : WalkO Challenge.pw_uf010004_07 [] (XL Challenge.pw_uf010004_07 []) (Hook.says Hook.none) Challenge.rw_uf010004_07.row.toRowW Mine.Internal.lawD.1 Mine.Internal.lawD.2 fun f vs => call f vs) : Challenge.rw_uf010004_07.Holds := by
  w_on; refine holds_law (by decide +kernel) fun said => ?_
  refine holds_open (q := Challenge.pw_uf010004_07) (loose := []) (Xt := fun s => xlAt Challenge.pw_uf010004_07 [] s && recOk (RowW.records Challenge.rw_uf010004_07.row.toRowW) s) (XP := XL Challenge.pw_uf010004_07 []) (Yf := Hook.obs Hook.none) (Ya := Hook.val Hook.none) (YP := Hook.says Hook.none) (N := 5424) ?hl (Hook.of Hook.none) (Hook.keeps Hook.none) (fun s e => xl_of s (Bool.and_eq_true_iff.mp e).1) XL.keeps (by kernel_rfl) (by kernel_rfl) (by kernel_rfl) (fun s e => recFacts_of (Bool.and_eq_true_iff.mp e).2) (by rfl) said (by decide +kernel) ⟨rfl, rfl, rfl, rfl, rfl, by decide +kernel⟩ ?hw hB
  case hl => intro w; kernel_rfl
  case hw => w_witness2

set_option backward.match.sparseCases false
set_option genSizeOfSpec false
set_option genInjectivity false
set_option linter.defProp false

noncomputable section
open Classical renaming byContradiction->aB,choose_spec->HX
open PySem renaming wpAny_bind->a0,wpAny_pure->cz,wpAny_mono->ei,wpAny_field->hU,wpAny_holding->k5,wpAny_of_eq->mq,wpAny_call_entry->m5,wpAny_seqItems->o9,typeLookup_type->pa,wpAny_setField_rec->qi,wpAny_newObj_type->qj,wpAny_callSpecial?_slot->qk,builtinLookup_eq_fast->ql,wpAny_specialOf->tJ,wpAny_rule->tK,isSubtype_type->tL,wpAny_attempt->vK,wpAny_standAt->yA,wpAny_isInstance->yB,wpAny_typeOf->BR,wpAny_onRaise->BS,wpAny_letGo->BT,codeAny_mono->BV,clipAt_cast->BW,call_meets->BX,wpAny_updateSeq->Hx,wpAny_ite_split->Hy,typeIs_str->Hz,codeAny_of_tree->HA,wpAny_updateSeq_pair->Pr,wpAny_truthy_bool->Ps,wpAny_noted->Pt,wpAny_execs_nil->Pu,isSubtype_stop->Pw,entryFor_of_tree->Px,arm_evalEach_cons->Py,wpAny_setField->aem,wpAny_sequenceKey->aen,wpAny_pyIter_tuple->aeo,wpAny_pyIter_slot->aep,wpAny_pyIter_list->aeq,wpAny_pyIter_dict->aer,wpAny_operating->aes,wpAny_list_append_plain->aet,wpAny_letTemporaryGo->aeu,tupleKind_room_in1->aev,slot_list_setitem->aew,slot_dict_getitem->aex,noFill_tuple_add->aez,kt_meets_setdefault->aeA,entryFor_alias->aeB,codeAny_extend_loopS->aeC,codeAny_builtin->aeD,callType_codes->aeE,arm_exec_Return->aeF,arm_eval_Subscript->aeG,arm_assign_Name->aeH
open Nat renaming le_refl->bx,le_trans->b0,lt_of_lt_of_le->d4,zero_le->eV,lt_of_lt_of_eq->fS,ne_of_lt->gv,le_succ->gH,le_add_right->ha,le_antisymm->iF,lt_or_ge->i4,lt_of_le_of_lt->i5,lt_succ_self->jY,add_le_add_left->jZ,zero_add->kx,sub_self->ky,le_of_lt->k7,le_max_left->pb,add_assoc->pd,succ_pos->qm,succ_le_succ->qn,le_max_right->qo,le_add_left->qp,add_comm->qq,max_le->tM,sub_zero->vM,not_lt->vN,lt_irrefl->vO,lt_succ_of_lt->yG,sub_le->BZ,not_le_of_lt->B0,mul_le_mul_left->B1,min_le_right->B2,add_le_add->B3,succ_ne_self->HB,min_self->HC,min_le_left->HD,le_of_succ_le->HE,le_of_eq->HF,le_of_ble_eq_true->HG,succ_lt_succ->PA,one_mul->PB,mul_le_mul_right->PC,le_total->PD,le_of_succ_le_succ->PE,add_right_comm->PF,add_mul->PG,zero_mul->ae1,succ_le_of_lt->ae2,succ_add_eq_add_succ->ae3,sub_lt->ae4,sub_add_cancel->ae5,not_succ_le_self->ae6,not_lt_zero->ae7,not_lt_of_le->ae8,mul_add->ae9,max_assoc->afa,lt_trans->afb,le_succ_of_le->afc,le_sub_of_add_le->afd,le_of_lt_succ->afe,eq_zero_or_pos->aff,add_sub_cancel_left->afg
open List renaming length_map->bC,mem_singleton->bN,mem_cons_self->b9,getElem?_eq_getElem->cD,length_append->dp,mem_cons_of_mem->dz,map_append->dY,map_cons->ea,mem_of_getElem?->ee,mem_map->ez,getElem?_map->e6,mem_append->gb,map_map->gw,lookup_cons->gx,nodup_cons->hV,getElem?_eq_none->hW,take_length->iG,mem_append_right->iH,take_add_one->jg,mem_append_left->jG,getElem?_append_right->j0,nodup_nil->mr,mem_iff_getElem->m8,getElem?_set_ne->oo,length_cons->pe,getElem?_append_left->pf,append_assoc->pg,length_reverse->qr,find?_cons->qs,nodup_append->rH,length_take->rI,zip_cons_cons->tN,length_range->tO,take_append_drop->vP,sum_append->vQ,map_reverse->vR,map_congr_left->vS,contains_iff_mem->vT,append_nil->vU,pairwise_cons->yH,mem_range->yI,length_zip->yJ,getElem?_set_self->yK,filterMap_map->yL,drop_eq_getElem_cons->yM,zip_eq_zipWith->B4,mem_reverse->B5,getElem?_zipWith->B6,mem_of_mem_take->HH,length_mapIdx->HI,length_eq_one_iff->HJ,length_drop->HK,getElem_mem->HL,getElem?_mapIdx->HM,filterMap_cons->HN,drop_zero->HO,any_eq_true->HP,reverse_reverse->PH,reverse_append->PI,pairwise_singleton->PJ,pairwise_append->PK,mem_filterMap->PL,mem_filter->PM,map_id->PN,lookup_append->PO,getElem?_reverse->PQ,getElem?_range->PR,getElem?_of_mem->PS,find?_eq_none->PT,ext_getElem?->PU,eq_nil_or_concat->PV,concat_eq_append->PW,any_cons->PX,zip_nil_right->afi,zip_map->afj,take_of_length_le->afk,take_nil->afl,sublist_append_left->afm,set_append_right->afn,reverse_perm->afo,reverse_cons->afp,range_succ->afq,pairwise_reverse->afr,pairwise_iff_getElem->afs,map_take->aft,map_snd_zip->afu,map_fst_zip->afv,length_take_le'->afw,length_filter_le->afx,idxOf_cons_self->afy,filter_cons->afz,eq_nil_of_length_eq_zero->afA
open Option renaming map_eq_some_iff->eU,bind_eq_some_iff->i3,isSome_iff_exists->m7,map_eq_none_iff->BY,or_none->aeW,or_eq_none_iff->aeX,none_or->aeY,isSome_map->aeZ
open PySem.Heap renaming get?_push_of_some->fH,get?_push_size->gR,size_push->vX,get?_update_self->yP,get?_update_other->yQ
open Option.some renaming inj->gm
open Int renaming natCast_nonneg->i6,le_trans->ph,not_lt->qt,emod_nonneg->qu,emod_lt_of_pos->qv,ofNat_le->tP,sub_sub->vV,le_of_lt->vW,lt_of_lt_of_le->yO,sub_zero->B7,lt_trans->B8,toNat_lt->HQ,min_eq_left->HR,max_eq_right->HS,zero_add->PZ,ofNat_sub->P0,ne_of_gt->P1,add_nonneg->P2,add_lt_add_right->P4,add_comm->P5,toNat_of_nonneg->afE,sub_nonpos_of_le->afF,ofNat_lt->afG,not_le->afH,lt_add_one_of_le->afI,eq_ofNat_of_zero_le->afJ,add_le_add_left->afK,add_assoc->afL
open Eq renaming symm->j1
open Ne renaming symm->kv
open List.cons renaming inj->kz
open Bool renaming false_ne_true->qw,or_eq_true->afT,false_or->afU
open PySem.Value.type renaming inj->yD
open Sum.inr renaming inj->yE
open Nat.succ renaming inj->yF
open Int.ofNat renaming inj->yN
open PySem.F renaming cmp_object->yR,slot_zip_next->HU,slot_tuple_iterator_next->HV,plainAttrs_list->HW,slot_list_reversed->Pz,typeCall_list_1->aeJ,sub_str_dict->aeK,slot_tuple_add->aeL,slot_dict_setdefault->aeM,plain_extend_loop->aeN,entry_tuple_add->aeO,entry_list_init->aeP,entry_dict_setdefault->aeQ,called_list->aeR,args_tuple_add_2->aeS,args_list_init_2->aeT,args_dict_setdefault_3->aeU,slot_str_eq_refl->afM,slot_dict_eq->afN,entry_zip_next->afO,entry_tuple_iterator_next->afP,args_zip_next_1->afQ,args_tuple_iterator_next_1->afR
open PyProof.Rows renaming slot_tuple_getitem->BU,slicePart_none->aey,mul_int->ag6,ltCps_eq->ag7,callWith_type->ag8
open Iff renaming rfl->HT
open List.Perm renaming eq_of_pairwise->PY,refl->afB
open PySem.Calls renaming Name_function_global->P6,loadGlobal_global->afS
open Array renaming getElem?_eq_getElem->P7,mem_toList_iff->afV,length_toList->afW
open Sum.inl renaming inj->aeI
open PySem.P renaming getItem_tuple->aeV
open PySem.Obj renaming data_mapFields->ae0
open PySem.Moved renaming eq_with->afh
open List.Pairwise renaming imp->afC,map->ahb
open PySem.ItemsOf renaming nil->afD
open PySem.SeqAt.RcNeAt renaming lists_lengths->ag2
open PySem.SeqAt.RcAt renaming lists_lengths->ag3
open PySem.MeetsSeq renaming list_pop_last->ag4
open PySem.AutoSeq1 renaming list_extend_list_list_0->ag5
open List.Sublist renaming refl->ag9,append->aha
open List.Nodup renaming idxOf_getElem->ahc
open PySem.Heap.SameBut renaming update->ahd
open PySem.Heap.IsSliceOf renaming new->ahe
open PySem.Heap.DictOf renaming new->ahf
open Bool renaming true->aw,false->aS
open Option renaming some->I,none->U
namespace Mine.Internal
theorem aa{α:Sort _}{a:α}:a=a:=Eq.refl a
theorem aL:True:=True.intro
inductive Lt where
 |v(i:Nat)
 |k(n:Nat)
 |s(a b:Lt)
 |m(n:Nat)(a:Lt)
 |w(n:Nat)(a:Lt)
noncomputable def Kt(c:List Nat):Nat->Nat:=List.rec (λaf=>0) (λx af r i=>Nat.rec x (λj af=>r j) i) c
def Lt.e(c:List Nat)(a:Lt):Nat:=Lt.rec (λi=>Kt c i) (λn=>n) (λaf aJ x y=>x+y) (λn af x=>n*x) (λn af x=>x*n) a
noncomputable def Lt.f(j:Nat)(a:Lt):Nat:=Lt.rec (λi=>bif Nat.beq j (i+1) then 1 else 0) (λn=>bif Nat.beq j 0 then n else 0) (λaf aJ x y=>x+y) (λn af x=>n*x) (λn af x=>n*x) a
noncomputable def dot(f:Nat->Nat)(c:List Nat):Nat->Nat:=List.rec (λaf=>0) (λx af r i=>f i*x+r (i+1)) c
theorem YS{f g:Nat->Nat}{c:List Nat}:∀{i},dot (λj=>f j+g j) c i=dot f c i+dot g c i:=by
 induction c with
 |nil=>exact rfl
 |cons x c aj=>exact(congr (congrArg _ (Nat.add_mul ..)) aj).trans (Nat.add_add_add_comm ..)
theorem Nn{n:Nat}{f:Nat->Nat}{c:List Nat}:∀{i},dot (λj=>n*f j) c i=n*dot f c i:=by
 induction c with
 |nil=>exact rfl
 |cons x c aj=>exact(congr (congrArg _ (Nat.mul_assoc ..)) aj).trans (Nat.mul_add ..).symm
theorem Nm{f:Nat->Nat}{c:List Nat}:∀{i},(∀j,i<=j->f j=0)->dot f c i=0:=by
 induction c with
 |nil=>exact λaf=>rfl
 |cons x c aj=>exact λh=>(congr (congrArg (λz=>(z*x + ·)) (h _ (Nat.le_refl _))) (aj λj bh=>h j (Nat.le_of_succ_le bh))).trans (by rw[Nat.zero_mul])
theorem GD{a b:Nat}(h:a≠b):Nat.beq a b=false:=Bool.eq_false_iff.mpr λe=>h (Nat.eq_of_beq_eq_true e)
theorem YQ{k:Nat}{c:List Nat}:∀{i},dot (λj=>bif Nat.beq j (k+i) then 1 else 0) c i=Kt c k:=by
 induction c generalizing k with
 |nil=>exact rfl
 |cons x c aj=>
  intro i;refine(?_:(bif Nat.beq i (k+i) then 1 else 0)*x+dot (λj=>bif Nat.beq j (k+i) then 1 else 0) c (i+1)=_)
  induction k with
  |zero=>rw[Nm λj bh=>by rw[GD (Nat.ne_of_gt (by rw[Nat.zero_add];exact bh))];rfl,Nat.zero_add,Nat.beq_refl];exact Nat.one_mul x
  |succ k=>rw[GD (Nat.ne_of_lt (Nat.lt_add_of_pos_left (Nat.succ_pos k))),Nat.succ_add_eq_add_succ,aj];exact(congrArg (· + _) (Nat.zero_mul x)).trans (Nat.zero_add _)
theorem Lt.is{c:List Nat}{a:Lt}:a.e c=dot (λj=>a.f j) (1::c) 0:=by
 induction a with
 |v i=>exact(YQ (i:=1)).symm.trans (Nat.zero_add _).symm
 |k n=>exact((congrArg (n*1 + ·) (Nm λj bh=>show(bif Nat.beq j 0 then n else 0)=0 by rw[GD (Nat.ne_of_gt bh)];rfl)).trans (Nat.mul_one n)).symm
 |s a b h1 h2=>exact(congr (congrArg _ h1) h2).trans YS.symm
 |m n a h=>exact(congrArg _ h).trans Nn.symm
 |w n a h=>exact(Nat.mul_comm ..).trans ((congrArg _ h).trans Nn.symm)
theorem YR{f g:Nat->Nat}{c:List Nat}:∀{i},(∀j,j<i+c.length->Nat.ble (f j) (g j)=true)->dot f c i<=dot g c i:=by
 induction c with
 |nil=>exact λaf=>Nat.le_refl _
 |cons x c aj=>exact λ{i} h=>Nat.add_le_add (Nat.mul_le_mul_right x (Nat.le_of_ble_eq_true (h i (Nat.lt_add_of_pos_right (Nat.succ_pos _))))) (aj λj bh=>h j (by rw[List.length_cons,<-Nat.succ_add_eq_add_succ];exact bh))
noncomputable def numOf(n:Nat):Nat×Nat:=match n % 32 with
 |31=>(n / 32 % 33554432,n / 1073741824)
 |30=>(n / 32 % 1024,n / 32768)
 |d=>(d,n / 32)
def Lt.of(f:Nat):Nat->Lt×Nat:=Nat.rec (λn=>(.k 0,n)) (λaf r n=>match n % 32 with
 |0=>(λp=>(λq=>(.s p.1 q.1,q.2)) (r p.2)) (r (n / 32))
 |1=>(λp=>(.k p.1,p.2)) (numOf (n / 32))
 |2=>(λp=>(λq=>(.m p.1 q.1,q.2)) (r p.2)) (numOf (n / 32))
 |3=>(λp=>(λq=>(.w p.1 q.1,q.2)) (r p.2)) (numOf (n / 32))
 |j+4=>(.v j,n / 32)) f
noncomputable abbrev BO:=Nat×Nat×Lt×Lt
def k0(f:Nat):Nat->List BO:=Nat.rec (λaf=>[]) (λaf r n=>(λm=>(λp=>(λq=>(n % 32,m.1,p.1,q.1)::r q.2) (Lt.of 20 p.2)) (Lt.of 20 m.2)) (numOf (n / 32))) f
def Jx(k a b:Nat)(P:Prop):Prop:=match k with
 |0=>a<=b
 |1=>a<=b->P
 |_=>a=b->P
def says(c:List Nat)(l:List BO):Prop:=List.rec True (λp af P=>Jx p.1 (p.2.2.1.e c) (p.2.2.2.e c) P) l
def Km(n m:Nat)(a b x y:Lt):Bool:=Nat.blt 0 m&&(List.range (n+1)).all λj=>Nat.ble (Lt.f j (.s (.m m a) y)) (Lt.f j (.s (.m m b) x))
def Kn(n k m:Nat)(a b x y:Lt)(R:Lt->Lt->Bool):Bool:=match k with
 |0=>Km n m a b x y
 |1=>R (.s (.m m a) x) (.s (.m m b) y)
 |2=>R (.s (.m m a) x) (.s (.m m b) y)
 |_=>R (.s (.m m b) x) (.s (.m m a) y)
def qN(n:Nat)(l:List BO):Lt->Lt->Bool:=List.rec (λaf aJ=>true) (λp af R x y=>Kn n p.1 p.2.1 p.2.2.1 p.2.2.2 x y R) l
theorem Lt.le{c:List Nat}{a b:Lt}(h:(List.range (c.length+1)).all (λj=>Nat.ble (a.f j) (b.f j))=true):a.e c<=b.e c:=by
 rw[Lt.is,Lt.is (a:=b)];exact YR λj bh=>List.all_eq_true.mp h j (List.mem_range.mpr (by rw[Nat.zero_add]at bh;exact bh))
theorem TN{c:List Nat}{m:Nat}{a b x y:Lt}(h:x.e c<=y.e c)(e:Km c.length m a b x y=true):a.e c<=b.e c:=by
 have e:=(Bool.and_eq_true _ _).mp e;exact Nat.le_of_mul_le_mul_left (Nat.le_of_add_le_add_right (Nat.le_trans (Lt.le (a:=.s (.m m a) y) (b:=.s (.m m b) x) e.2) (Nat.add_le_add_left h _))) (Nat.le_of_ble_eq_true e.1)
theorem TO{c:List Nat}{k m:Nat}{a b x y:Lt}{R:Lt->Lt->Bool}{P:Prop}(h:x.e c<=y.e c)(aj:∀{x y:Lt},x.e c<=y.e c->R x y=true->P)(e:Kn c.length k m a b x y R=true):Jx k (a.e c) (b.e c) P:=by
 have more:∀{a b:Lt},a.e c<=b.e c->(Lt.s (.m m a) x).e c<=(Lt.s (.m m b) y).e c:=λq=>Nat.add_le_add (Nat.mul_le_mul_left _ q) h
 induction k using Nat.casesOn with
 |zero=>exact TN h e
 |succ k=>induction k using Nat.casesOn with
  |zero=>exact λq=>aj (more q) e
  |succ k=>induction k using Nat.casesOn with
   |zero=>exact λq=>aj (more (Nat.le_of_eq q)) e
   |succ k=>exact λq=>aj (more (Nat.le_of_eq q.symm)) e
theorem sa{c:List Nat}{l:List BO}:∀{x y:Lt},x.e c<=y.e c->qN c.length l x y=true->says c l:=by
 induction l with
 |nil=>exact λaf aJ=>trivial
 |cons p l aj=>exact λh e=>TO h aj e
theorem er{P:Prop}(h:1<=0):P:=(Nat.not_succ_le_zero 0 h).elim
section
variable {a b c d e f g h:Nat}
theorem cp(n:Nat)(q:true=qN 1 (k0 8 n) (.k 0) (.k 0)):says [a] (k0 8 n):=sa (Nat.le_refl _) q.symm
theorem bF(n:Nat)(q:true=qN 2 (k0 8 n) (.k 0) (.k 0)):says [a,b] (k0 8 n):=sa (Nat.le_refl _) q.symm
theorem cb(n:Nat)(q:true=qN 3 (k0 8 n) (.k 0) (.k 0)):says [a,b,c] (k0 8 n):=sa (Nat.le_refl _) q.symm
theorem fq(n:Nat)(q:true=qN 4 (k0 8 n) (.k 0) (.k 0)):says [a,b,c,d] (k0 8 n):=sa (Nat.le_refl _) q.symm
theorem hG(n:Nat)(q:true=qN 5 (k0 8 n) (.k 0) (.k 0)):says [a,b,c,d,e] (k0 8 n):=sa (Nat.le_refl _) q.symm
theorem w3(n:Nat)(q:true=qN 6 (k0 8 n) (.k 0) (.k 0)):says [a,b,c,d,e,f] (k0 8 n):=sa (Nat.le_refl _) q.symm
theorem KY(n:Nat)(q:true=qN 7 (k0 8 n) (.k 0) (.k 0)):says [a,b,c,d,e,f,g] (k0 8 n):=sa (Nat.le_refl _) q.symm
end
theorem kQ{i n:Nat}(h:(i:Int)<n):i<n:=Int.ofNat_lt.mp h
theorem w0{i n:Nat}(h:i<n):(i:Int)<n:=Int.ofNat_lt.mpr h
theorem uy{i n:Nat}(h:i<=n):(i:Int)<=n:=Int.ofNat_le.mpr h
theorem wd{i:Int}{n:Nat}(aE:0<=i)(h:i<n):i.toNat<n:=(Int.toNat_lt aE).mpr h
theorem Uv{i:Int}{n:Nat}(aE:0<=i)(h:i.toNat<n):i<n:=(Int.toNat_lt aE).mp h
theorem rS{d k:Nat}(h:k<=d):d=d-k+k:=(Nat.sub_add_cancel h).symm
theorem Ds{n i:Nat}(h:i<n):(n:Int)-1-i=((n-1-i:Nat):Int):=by
 rw[Int.ofNat_sub (Nat.le_sub_one_of_lt h),Int.ofNat_sub (Nat.succ_le_of_lt (Nat.lt_of_le_of_lt (Nat.zero_le i) h))];rfl
theorem Dp{n i:Nat}(e:(n:Int)-1-i=((n-1-i:Nat):Int)):((n-1-i:Nat):Int)-1=(n:Int)-1-((i+1:Nat):Int):=by rw[<-e];exact Int.sub_sub ..
theorem r0{n i:Nat}(h:i<n):n-1-i<n:=Nat.lt_of_le_of_lt (Nat.sub_le ..) (Nat.sub_lt (Nat.lt_of_le_of_lt (Nat.zero_le i) h) Nat.one_pos)
theorem Dr{n i:Nat}(h:n<=i)(h':i<=n):(n:Int)-1-i = -1:=by rw[Nat.le_antisymm h h',Int.sub_sub,Int.add_comm,<-Int.sub_sub,Int.sub_self];rfl
theorem KL{a b c:Nat}(h:b<=c):min a b<=c:=Nat.le_trans (Nat.min_le_right ..) h
theorem Ul{i a b:Nat}(h:i<min a b):i<b:=Nat.lt_of_lt_of_le h (Nat.min_le_right ..)
theorem Uk{i a b:Nat}(h:i<min a b):i<=a:=Nat.le_of_lt (Nat.lt_of_lt_of_le h (Nat.min_le_left ..))
theorem Uj{x a b c:Nat}(e:x=min a b)(h:b<=c):x<=c:=e ▸ KL h
theorem zO{a b c:Nat}(h1:a<=c)(h2:b<=c):max a b<=c:=Nat.max_le.mpr ⟨h1,h2⟩
theorem Ub{x a b c:Nat}(h:x<=max a b)(h1:a<=c)(h2:b<=c):x<=c:=Nat.le_trans h (zO h1 h2)
theorem Ud{a b:Nat}:3*a+1<=3*max a b+1:=Nat.succ_le_succ (Nat.mul_le_mul_left 3 (Nat.le_max_left ..))
theorem Uc{a b:Nat}:3*b+1<=3*max a b+1:=Nat.succ_le_succ (Nat.mul_le_mul_left 3 (Nat.le_max_right ..))
theorem NI{i m:Int}(h:i<0):max (i+m) 0=max 0 (min (i+m) m):=by
 rw[Int.max_comm,Int.min_eq_left (by have:=Int.add_lt_add_right h m;rw[Int.zero_add]at this;exact Int.le_of_lt this)]
theorem NK{i m:Int}(h:¬i<0)(hm:0<=m):min i m=max 0 (min i m):=(Int.max_eq_right (Int.le_min.mpr ⟨Int.not_lt.mp h,hm⟩)).symm
theorem Zm{x m:Int}{n:Nat}(hm:0<=m)(h:(n:Int)=max 0 (min x m)):(n:Int)<=m:=h ▸ Int.max_le.mpr ⟨hm,Int.min_le_right ..⟩
theorem To{a b:Nat}(h:(a:Int)<b):((b:Int)-a-1+1).toNat=b-a:=by rw[Int.sub_add_cancel,<-Int.ofNat_sub (Nat.le_of_lt (kQ h))];rfl
theorem Tp{a b:Nat}(h:¬(a:Int)<b):(0:Int).toNat=b-a:=(Nat.sub_eq_zero_of_le (Int.ofNat_le.mp (Int.not_lt.mp h))).symm
theorem Ro{a j:Nat}:((a:Int)+(j:Int)*1).toNat=a+j:=by rw[Int.mul_one];rfl
theorem T9{b:Int}{n:Nat}(h1:-(n:Int)<b)(h2:b<n):b.natAbs<n:=by
 induction b with
 |ofNat k=>exact kQ h2
 |negSucc k=>exact kQ (Int.lt_of_neg_lt_neg h1)
theorem xY{x:Int}{k:Nat}(h:0<=x/\x<k):1+x=(((1+x).toNat:Nat):Int)/\1<=(1+x).toNat/\(1+x).toNat<=k:=by
 obtain⟨m,rfl⟩:=Int.eq_ofNat_of_zero_le h.1;have e:1+(m:Int)=((1+m:Nat):Int):=rfl;rw[e];exact⟨rfl,Nat.le_add_right ..,by rw[Nat.add_comm];exact kQ h.2⟩
theorem wC{n:Nat}:(-1000000:Int)<=n:=Int.le_trans (by decide) (Int.natCast_nonneg n)
theorem wB{n k:Nat}(h:n<=k)(ar:k<=1000000):(n:Int)<=1000000:=Int.ofNat_le.mpr (Nat.le_trans h ar)
theorem YH{x:Int}{k:Nat}(h:0<=x/\x<k)(ar:k<=1000):-1000000<=1+x/\1+x<=1000000:=⟨Int.le_trans (by decide) (Int.add_nonneg (by decide) h.1),Int.le_trans (Int.add_le_add_left (Int.le_of_lt h.2) 1) (Int.le_trans (Int.add_le_add_left (Int.ofNat_le.mpr ar) 1) (by decide))⟩
theorem SK{i:Nat}{n:Int}(h:i<(n-0).toNat):(i:Int)<n:=by rw[Int.sub_zero]at h;exact Int.lt_toNat.mp h
theorem SM{i t:Nat}(h:i<t):0<(t:Int)-i:=Int.sub_pos_of_lt (w0 h)
theorem SN{i t:Nat}(h:¬i<t):(t:Int)-i<=0:=Int.sub_nonpos_of_le (uy (Nat.le_of_not_lt h))
theorem CH{x:Int}{k:Nat}(h:0<=x/\x<k):x.toNat<k:=(Int.toNat_lt h.1).mpr h.2
theorem YI{x N:Int}{k i:Nat}(h:0<=x/\x<k)(e:1+x=N)(aI:(i:Int)<N):i<=k:=Nat.le_of_lt_succ (kQ (Int.lt_trans aI (by rw[<-e,Int.add_comm];exact Int.add_lt_add_right h.2 1)))
theorem Q9{x t z s:Nat}(h1:1+x<=t)(h2:z=1+t)(h3:z<=s):x<=s-2:=Nat.le_sub_of_add_le (fq 0x710480080E6084A1080C11948108021 rfl h1 h2 h3)
theorem NJ{n:Nat}{k:Int}(aE:0<=k)(h1:k<=n):(max 0 (min (if k<0 then k+n else k) n)).toNat=k.toNat:=by rw[if_neg (Int.not_lt.mpr aE),Int.min_eq_left h1,Int.max_eq_right aE]
theorem RX{s d:Nat}(h:2*s+6<=d+6)(h2:2<=s):2*(s-2)+6<=d+4:=by
 obtain⟨t,rfl⟩:=Nat.exists_eq_add_of_le' h2;rw[Nat.add_sub_cancel];rw[Nat.mul_add]at h;exact bF 0x10250182400406094060902400021 rfl h
end Mine.Internal

set_option backward.match.sparseCases true
set_option genSizeOfSpec false
set_option genInjectivity false
namespace Mine.Internal
universe jk jj nj tX wb y1 CB u8 Q4
inductive c8{hf:Sort jk}{hc:Sort jj}(p:hf->hc->Prop):Prop
 |mk(a:hf)(b:hc)(h:p a b):c8 p
inductive jE{hf:Sort jk}{hc:Sort jj}{ik:Sort nj}(p:hf->hc->ik->Prop):Prop
 |mk(a:hf)(b:hc)(c:ik)(h:p a b c):jE p
inductive oj{hf:Sort jk}{hc:Sort jj}{ik:Sort nj}{ji:Sort tX}(p:hf->hc->ik->ji->Prop):Prop
 |mk(a:hf)(b:hc)(c:ik)(d:ji)(h:p a b c d):oj p
inductive vG{hf:Sort jk}{hc:Sort jj}{ik:Sort nj}{ji:Sort tX}{kA:Sort wb}(p:hf->hc->ik->ji->kA->Prop):Prop
 |mk(a:hf)(b:hc)(c:ik)(d:ji)(e:kA)(h:p a b c d e):vG p
inductive Hq{hf:Sort jk}{hc:Sort jj}{ik:Sort nj}{ji:Sort tX}{kA:Sort wb}{nc:Sort y1}(p:hf->hc->ik->ji->kA->nc->Prop):Prop
 |mk(a:hf)(b:hc)(c:ik)(d:ji)(e:kA)(f:nc)(h:p a b c d e f):Hq p
inductive Po{hf:Sort jk}{hc:Sort jj}{ik:Sort nj}{ji:Sort tX}{kA:Sort wb}{nc:Sort y1}{qy:Sort CB}(p:hf->hc->ik->ji->kA->nc->qy->Prop):Prop
 |mk(a:hf)(b:hc)(c:ik)(d:ji)(e:kA)(f:nc)(g:qy)(h:p a b c d e f g):Po p
inductive Pn{hf:Sort jk}{hc:Sort jj}{ik:Sort nj}{ji:Sort tX}{kA:Sort wb}{nc:Sort y1}{qy:Sort CB}{v3:Sort u8}(p:hf->hc->ik->ji->kA->nc->qy->v3->Prop):Prop
 |mk(a:hf)(b:hc)(c:ik)(d:ji)(e:kA)(f:nc)(g:qy)(h:v3)(h:p a b c d e f g h):Pn p
inductive Pm{hf:Sort jk}{hc:Sort jj}{ik:Sort nj}{ji:Sort tX}{kA:Sort wb}{nc:Sort y1}{qy:Sort CB}{v3:Sort u8}{H0:Sort Q4}(p:hf->hc->ik->ji->kA->nc->qy->v3->H0->Prop):Prop
 |mk(a:hf)(b:hc)(c:ik)(d:ji)(e:kA)(f:nc)(g:qy)(h:v3)(i:H0)(h:p a b c d e f g h i):Pm p
inductive eH(a b c:Prop):Prop
 |mk(aE:a)(h1:b)(h2:c):eH a b c
inductive hA(a b c d:Prop):Prop
 |mk(aE:a)(h1:b)(h2:c)(h3:d):hA a b c d
inductive mn(a b c d e:Prop):Prop
 |mk(aE:a)(h1:b)(h2:c)(h3:d)(bY:e):mn a b c d e
inductive vJ(a b c d e f:Prop):Prop
 |mk(aE:a)(h1:b)(h2:c)(h3:d)(bY:e)(c0:f):vJ a b c d e f
inductive yy(a b c d e f g:Prop):Prop
 |mk(aE:a)(h1:b)(h2:c)(h3:d)(bY:e)(c0:f)(dH:g):yy a b c d e f g
inductive Hw(a b c d e f g h:Prop):Prop
 |mk(aE:a)(h1:b)(h2:c)(h3:d)(bY:e)(c0:f)(dH:g)(sU:h):Hw a b c d e f g h
inductive Hv(a b c d e f g h i:Prop):Prop
 |mk(aE:a)(h1:b)(h2:c)(h3:d)(bY:e)(c0:f)(dH:g)(sU:h)(My:i):Hv a b c d e f g h i
inductive Pq(a b c d e f g h i j:Prop):Prop
 |mk(aE:a)(h1:b)(h2:c)(h3:d)(bY:e)(c0:f)(dH:g)(sU:h)(My:i)(WL:j):Pq a b c d e f g h i j
inductive Pp(a b c d e f g h i j k:Prop):Prop
 |mk(aE:a)(h1:b)(h2:c)(h3:d)(bY:e)(c0:f)(dH:g)(sU:h)(My:i)(WL:j)(agF:k):Pp a b c d e f g h i j k
end Mine.Internal

set_option backward.match.sparseCases false
namespace Mine.Internal
open PySem
noncomputable def aK:=@if_pos
noncomputable def aR:=@if_neg
noncomputable def ff:=@congrArg
noncomputable def jf:=@decide_eq_false
noncomputable def k6:=@beq_self_eq_true
noncomputable def m6:=@decide_eq_true
noncomputable def rG:=@beq_eq_false_iff_ne
noncomputable def vL:=@of_decide_eq_true
noncomputable def yC:=@beq_false_of_ne
inductive V where
 |none
 |bool(b:Bool)
 |int(i:Int)
 |str(s:Str)
 |tup(l:List V)
 |ref(n:Nat)
 deriving Inhabited
noncomputable abbrev Key:=Int ⊕ Str
inductive O where
 |list(l:List V)
 |dict(v:Nat)(l:List (Key×V))
 |inst(c:Str)(k:Nat)
 |bT(l:List (Str×V))
 |eC(v:Nat)(l:List (List Int×V))
 |cache
 deriving Inhabited
noncomputable abbrev aN:=List O
inductive Res(α:Type) where
 |ok(a:α)(σ:aN)
 |bad
noncomputable def Res.bind{α β:Type}(r:Res α)(k:α->aN->Res β):Res β:=match r with
 |.ok a σ=>k a σ
 |.bad=>.bad
structure M(α:Type) where
 go:{β:Type}->(α->aN->Res β)->aN->Res β
 nat:∀{β:Type}(k:α->aN->Res β) (σ:aN),go k σ=(go Res.ok σ).bind k
noncomputable def M.run{α:Type}(m:M α)(σ:aN):Res α:=m.go Res.ok σ
noncomputable instance {α:Type}:CoeFun (M α) λaf=>aN->Res α:=⟨M.run⟩
namespace M
noncomputable def pure{α:Type}(a:α):M α:=⟨λk σ=>k a σ,λaf aJ=>aa⟩
noncomputable def bind{α β:Type}(m:M α)(f:α->M β):M β:=⟨λk σ=>m.go (λa σ=>(f a).go k σ) σ,λk σ=>by
 rw[m.nat,m.nat λa σ=>(f a).go Res.ok σ]
 cases m.go Res.ok σ with
 |ok a ag=>exact(f a).nat k ag
 |bad=>rfl⟩
noncomputable def bad{α:Type}:M α:=⟨λaf aJ=>.bad,λaf aJ=>aa⟩
noncomputable def cond{α:Type}(b:Bool)(m n:M α):M α:=⟨λk σ=>_root_.cond b (m.go k σ) (n.go k σ),λk σ=>by
 cases b with
 |true=>exact m.nat k σ
 |false=>exact n.nat k σ⟩
end M
noncomputable instance:Monad M where
 pure:=M.pure
 bind:=M.bind
noncomputable def jc(n:Nat):M O:=⟨λk σ=>match σ[n]? with
 |some o=>k o σ
 |none=>.bad,λk σ=>by cases σ[n]? <;> rfl⟩
noncomputable def oA(n:Nat)(o:O):M Unit:=⟨λk σ=>if 0<n/\n<σ.length then k () (σ.set n o) else .bad,λk σ=>by
 by_cases h:0<n/\n<σ.length
 ·rw[aK h,aK h];rfl
 ·rw[aR h,aR h];rfl⟩
noncomputable def cH(o:O):M V:=⟨λk σ=>k (.ref σ.length) (σ++[o]),λaf aJ=>aa⟩
noncomputable def putD(n:Nat)(l:List (Key×V)):M Unit:=⟨λk σ=>match σ[n]? with
 |some (.dict v _)=>if 0<n then k () (σ.set n (.dict (v+1) l)) else .bad
 |_=>.bad,λk σ=>by
 induction σ[n]? with
 |none=>rfl
 |some o=>induction o with
  |dict v m=>
   dsimp only;by_cases h:0<n
   ·rw[aK h,aK h];rfl
   ·rw[aR h,aR h];rfl
  |_=>rfl⟩
noncomputable def nh:O->Option Nat
 |.dict v _=>I v
 |.eC v _=>I v
 |_=>U
def zA(n:Nat)(l:List (List Int×V)):M Unit:=⟨λk σ=>match σ[n]?.bind nh with
 |some v=>if 0<n then k () (σ.set n (.eC (v+1) l)) else .bad
 |none=>.bad,λk σ=>by
 induction σ[n]?.bind nh with
 |none=>rfl
 |some v=>
  dsimp only;by_cases h:0<n
  ·rw[aK h,aK h];rfl
  ·rw[aR h,aR h];rfl⟩
noncomputable def c3{α:Type}(f:aN->Option α):M α:=⟨λk σ=>match f σ with
 |some a=>k a σ
 |none=>.bad,λk σ=>by cases f σ <;> rfl⟩
def hu(x:Str):Prop:=x.length<=sizeLine/\PyData.strOk x=aw
noncomputable instance (x:Str):Decidable (hu x):=inferInstanceAs (Decidable (_/\_))
theorem a5{α:Type}{q:α}{P:Prop}(h:(U:Option α)=I q):P:=nomatch h
theorem fw{P:Prop}(h:aS=aw):P:=nomatch h
theorem kD{P:Prop}(h:aw=aS):P:=nomatch h
theorem fU{α:Type}{a:α}{P:Prop}(h:I a=U):P:=nomatch h
theorem Kz{α:Type}{a:α}{l:List α}{P:Prop}(h:[]=a::l):P:=nomatch h
theorem NA{α:Type}{a:α}{l:List α}{P:Prop}(h:a::l=[]):P:=nomatch h
theorem ic{α:Type}{a:α}{σ:aN}{P:Prop}(h:(Res.bad:Res α)=.ok a σ):P:=nomatch h
section
variable {σ:aN}
theorem run_bind{α β:Type}{m:M α}{f:α->M β}:(m>>=f) σ=(m σ).bind λa σ=>f a σ:=m.nat _ σ
theorem a4{α β:Type}{m:M α}{f:α->M β}{a:α}{ag:aN}(h:m σ=.ok a ag):(m>>=f) σ=f a ag:=by rw[run_bind,h];rfl
theorem dR{α β:Type}{m:M α}{f:α->M β}(h:m σ=.bad):(m>>=f) σ=.bad:=by rw[run_bind,h];rfl
theorem pZ(n:Nat):jc n σ=(match σ[n]? with|some o=>.ok o σ|none=>.bad):=rfl
theorem Ju(n:Nat)(o:O):oA n o σ=(if 0<n/\n<σ.length then .ok () (σ.set n o) else .bad):=rfl
theorem hP{α:Type}(f:aN->Option α):c3 f σ=(match f σ with|some a=>.ok a σ|none=>.bad):=rfl
theorem M.assoc{α β a6:Type}(m:M α)(f:α->M β)(g:β->M a6):(m>>=f)>>=g=m>>=λa=>f a>>=g:=rfl
end
noncomputable def Eu:Expr->Bool
 |.ListComp _ _ _ _=>aw
 |_=>aS
noncomputable def Et:Expr->Bool
 |.Slice _ _ _ _=>aw
 |_=>aS
noncomputable def Ew:Expr->Bool
 |.Attribute _ _ _=>aw
 |_=>aS
theorem keep{G:Prop}(h:∀P:Prop,(G->P)->P):G:=h G id
end Mine.Internal

section
set_option compiler.extract_closed false
local macro_rules | `(tactic| rewrite [$t:term]) => `(tactic| first | refine Eq.substr ($t ..) ?_ | fail) | `(tactic| rewrite [$r, $rs,*]) => `(tactic| (rewrite [$r]; rewrite [$rs,*]))

set_option backward.match.sparseCases false
namespace Mine.Internal
open PySem
noncomputable abbrev Loc:=List (Option V)
noncomputable abbrev n_6:List (Option V):=[U,U,U,U,U,U]
noncomputable abbrev n_9:List (Option V):=[U,U,U,U,U,U,U,U,U]
noncomputable abbrev n_7:List (Option V):=[U,U,U,U,U,U,U]
noncomputable abbrev n_11:List (Option V):=[U,U,U,U,U,U,U,U,U,U,U]
noncomputable abbrev n_17:List (Option V):=[U,U,U,U,U,U,U,U,U,U,U,U,U,U,U,U,U]
noncomputable abbrev n_20:List (Option V):=[U,U,U,U,U,U,U,U,U,U,U,U,U,U,U,U,U,U,U,U]
noncomputable abbrev n_8:List (Option V):=[U,U,U,U,U,U,U,U]
noncomputable abbrev n_10:List (Option V):=[U,U,U,U,U,U,U,U,U,U]
noncomputable abbrev n_12:List (Option V):=[U,U,U,U,U,U,U,U,U,U,U,U]
noncomputable abbrev cC:=List (Str×NameKind)
noncomputable def mA:cC->Str->Nat->Option (Nat×NameKind)
 |[],_,_=>U
 |(y,k)::r,x,i=>match x==y with
  |true=>I (i,k)
  |false=>mA r x (i+1)
theorem t9:mA ((y,k)::r) x i=match x==y with|true=>I (i,k)|false=>mA r x (i+1):=rfl
def slot(ns:cC)(x:Str):Option (Nat×NameKind):=mA ns x 0
def bD{α:Type}:Option α->M α
 |some a=>pure a
 |none=>M.bad
def ldLoc(loc:Loc)(i:Nat):M V:=bD (loc[i]?.join)
def stLoc(ns:cC)(x:Str)(v:V)(loc:Loc):M Loc:=match slot ns x with
 |some (i,.local)=>pure (loc.set i (I v))
 |some (i,.cell)=>pure (loc.set i (I v))
 |_=>M.bad
def fJ(ns:cC)(x:Str)(v:V)(loc:Loc):M Loc:=match slot ns x with
 |some (i,.local)=>pure (loc.set i (I v))
 |_=>M.bad
structure Cfg where
 nH:Str->Bool
 call:Str->List V->M V
 glob:Str->Option V
 cls:Str->Option (List Str×List Str)
def Nz:Const->M V
 |.none=>pure .none
 |.bool b=>pure (.bool b)
 |.int i=>pure (.int i)
 |.str s=>if hu s then pure (.str s) else M.bad
 |_=>M.bad
def truth:V->M Bool
 |.bool b=>pure b
 |_=>M.bad
def Small(a:Int):Prop:=-18446744073709551616<a/\a<18446744073709551616
noncomputable instance (a:Int):Decidable (Small a):=inferInstanceAs (Decidable (_/\_))
def fb(n:Nat):M (List V):=do
 match <-jc n with
 |.list l=>pure l
 |_=>M.bad
noncomputable def keyOf:V->Option Key
 |.int i=>I (.inl i)
 |.str s=>I (.inr s)
 |_=>U
noncomputable def h7:Key->V
 |.inl i=>.int i
 |.inr s=>.str s
noncomputable abbrev Tab:=List (Key×V)
noncomputable def dF(l:Tab)(k:Key):Option V:=(l.find? λp=>p.1=k).map (·.2)
noncomputable def t2:List V->Option (List Int)
 |[]=>I []
 |.int i::r=>(t2 r).map (i :: ·)
 |_::_=>U
def ll:V->Option (List Int)
 |.tup l=>t2 l
 |_=>U
noncomputable abbrev n6:=List (List Int×V)
noncomputable def j6(l:n6)(k:List Int):Option V:=(l.find? λp=>p.1=k).map (·.2)
def mz(l:n6)(k:List Int)(v:V):n6:=if (j6 l k).isSome then l.map (λp=>if p.1=k then (p.1,v) else p) else l++[(k,v)]
noncomputable def kY(l:Tab)(k:Key)(v:V):Tab:=if l.any (λp=>p.1=k) then l.map (λp=>if p.1=k then (p.1,v) else p) else l++[(k,v)]
def intOp(op:Operator)(a b:Int):M V:=match op with
 |.Add=>pure (.int (a+b))
 |.Sub=>pure (.int (a-b))
 |.Mult=>if Small a\/Small b then pure (.int (a*b)) else M.bad
 |.FloorDiv=>if b≠0/\Small b then pure (.int (a.fdiv b)) else M.bad
 |.Mod=>if b≠0/\Small b then pure (.int (a.fmod b)) else M.bad
 |_=>M.bad
noncomputable def isAdd:Operator->Bool
 |.Add=>aw
 |_=>aS
def yf(a b:V):M V:=match a with
 |.str x=>(match b with
  |.str y=>if x.length+y.length<=sizeLine then pure (.str (x++y)) else M.bad
  |_=>M.bad)
 |.tup l=>(match b with
  |.tup m=>if l.length+m.length<=sizeLine then pure (.tup (l++m)) else M.bad
  |_=>M.bad)
 |.ref x=>(match b with
  |.ref y=>do
   let l <-fb x
   let m <-fb y
   if l.length+m.length<=sizeLine then cH (.list (l++m)) else M.bad
  |_=>M.bad)
 |_=>M.bad
def binop(op:Operator)(a b:V):M V:=match a with
 |.int x=>(match b with
  |.int y=>intOp op x y
  |_=>M.bad)
 |_=>cond (isAdd op) (yf a b) M.bad
mutual
noncomputable def ox(f:Nat->Option PyData):V->Option PyData
 |.none=>I .none
 |.bool b=>I (.bool b)
 |.int i=>I (.int i)
 |.str s=>I (.str s)
 |.tup l=>(gS f l).map .tuple
 |.ref n=>f n
noncomputable def gS(f:Nat->Option PyData):List V->Option (List PyData)
 |[]=>I []
 |x::r=>match ox f x,gS f r with
  |some d,some ds=>I (d::ds)
  |_,_=>U
end
noncomputable def ip(σ:aN):Nat->Nat->Option PyData
 |0,_=>U
 |k+1,n=>match σ[n]? with
  |some (.list l)=>(gS (ip σ k) l).map .list
  |_=>U
theorem IS:ip σ (k+1) n=match σ[n]? with|some (.list l)=>(gS (ip σ k) l).map .list|_=>U:=rfl
def toPy(σ:aN)(v:V):Option PyData:=ox (ip σ 4) v
noncomputable def gW(σ:aN)(n:Nat):Option Str:=match σ[n]? with
 |some (.inst c _)=>I c
 |_=>U
noncomputable def listAt(σ:aN)(n:Nat):Option (List V):=match σ[n]? with
 |some (.list l)=>I l
 |_=>U
noncomputable def dictAt(σ:aN)(n:Nat):Option Tab:=match σ[n]? with
 |some (.dict _ l)=>I l
 |_=>U
def xW(σ:aN)(n:Nat)(b:V):Option Bool:=match b with
 |.ref m=>(match gW σ n,gW σ m with
  |some _,some _=>I (n==m)
  |_,_=>(match listAt σ n,listAt σ m with
   |some l,some k=>if l.length=k.length then U else I aS
   |_,_=>U))
 |_=>U
def s3(σ:aN)(a b:V):Option Bool:=match a with
 |.ref n=>(match b with
  |.str _=>(dictAt σ n).map λaf=>aS
  |_=>U)
 |_=>U
def AR(σ:aN)(a b:V):Option Bool:=match a with
 |.ref n=>xW σ n b
 |_=>U
noncomputable def QZ(x y:Option PyData)(no:Option Bool):Option Bool:=match x with
 |some x=>(match y with
  |some y=>if min x.depth y.depth<=200 then I (PyData.eqv x y) else U
  |none=>no)
 |none=>no
def ej(σ:aN)(a b:V):Option Bool:=QZ (toPy σ a) (toPy σ b) (AR σ a b)
def j5(σ:aN)(x:V):List V->Option Bool
 |[]=>I aS
 |y::r=>match ej σ y x,j5 σ x r with
  |some e,some t=>I (e || t)
  |_,_=>U
noncomputable def strLt(a b:Str):Bool:=decide (a.cps.toList<b.cps.toList)
def among(a:V)(n:Nat):M Bool:=do
 match <-jc n with
 |.list l=>c3 λσ=>j5 σ a l
 |.dict _ l=>bD ((keyOf a).map λk=>(dF l k).isSome)
 |_=>M.bad
def uG(a b:V):M Bool:=match b with
 |.ref n=>among a n
 |_=>M.bad
def oF(f:Int->Int->Bool)(a b:V):M V:=match a with
 |.int x=>(match b with
  |.int y=>pure (.bool (f x y))
  |_=>M.bad)
 |_=>M.bad
noncomputable def isNone:V->Bool
 |.none=>aw
 |_=>aS
def uE(a b:V):M Bool:=match b with
 |.none=>pure (isNone a)
 |_=>M.bad
def cmp(op:CmpOp)(a b:V):M V:=match op with
 |.Eq=>c3 λσ=>((ej σ a b).or (s3 σ a b)).map V.bool
 |.NotEq=>c3 λσ=>(ej σ a b).map λe=>V.bool (!e)
 |.Lt=>oF (λx y=>decide (x<y)) a b
 |.LtE=>oF (λx y=>decide (x<=y)) a b
 |.Gt=>oF (λx y=>decide (y<x)) a b
 |.GtE=>oF (λx y=>decide (y<=x)) a b
 |.Is=>uE a b>>=λc=>pure (V.bool c)
 |.IsNot=>uE a b>>=λc=>pure (V.bool (!c))
 |.In=>uG a b>>=λc=>pure (V.bool c)
 |.NotIn=>uG a b>>=λc=>pure (V.bool (!c))
noncomputable def place(i:Int)(n:Nat):Option Nat:=
 if 0<=i then (if i<n then I i.toNat else U) else if 0<=i+n then I (i+n).toNat else U
noncomputable def fF(c:Nat):Str:=⟨#[c]⟩
def z6(l:List V):V->M V
 |.int i=>bD ((place i l.length).bind λk=>l[k]?)
 |_=>M.bad
def item:V->V->M V
 |.tup l,.int i=>bD ((place i l.length).bind λk=>l[k]?)
 |.str s,.int i=>bD ((place i s.length).bind λk=>(s.cps[k]?).map λc=>V.str (fF c))
 |.ref n,b=>do
  match <-jc n with
  |.list l=>z6 l b
  |.dict _ l=>bD ((keyOf b).bind (dF l))
  |.eC _ l=>bD ((ll b).bind (j6 l))
  |_=>M.bad
 |_,_=>M.bad
def rY(n:Nat)(l:List V)(b v:V):M Unit:=match b with
 |.int i=>if 0<=i/\i<l.length then oA n (.list (l.set i.toNat v)) else M.bad
 |_=>M.bad
def pC(n:Nat)(l:n6)(b v:V):M Unit:=match ll b with
 |some k=>if l.length+1<=sizeLine then zA n (mz l k v) else M.bad
 |none=>M.bad
def rZ(n:Nat)(l:Tab)(b v:V):M Unit:=match keyOf b with
 |some k=>if l.length+1<=sizeLine then putD n (kY l k v) else M.bad
 |none=>if l.isEmpty then pC n [] b v else M.bad
def setItem:V->V->V->M Unit
 |.ref n,b,v=>do
  match <-jc n with
  |.list l=>rY n l b v
  |.dict _ l=>rZ n l b v
  |.eC _ l=>pC n l b v
  |_=>M.bad
 |_,_,_=>M.bad
noncomputable def cut{α:Type}(l:List α)(lo aI:Option Int):List α:=
 (l.drop (lo.elim 0 (clipAt l.length))).take (aI.elim l.length (clipAt l.length)-lo.elim 0 (clipAt l.length))
def oV(s:Str)(lo aI:Option Int):Str:=⟨(cut s.cps.toList lo aI).toArray⟩
def j7(lo aI:Option Int):V->M V
 |.str s=>pure (.str (oV s lo aI))
 |.tup l=>pure (.tup (cut l lo aI))
 |.ref n=>do
  let l <-fb n
  cH (.list (cut l lo aI))
 |_=>M.bad
def bound:V->M (Option Int)
 |.none=>pure U
 |.int i=>pure (I i)
 |_=>M.bad
inductive k2 where
 |tup(l:List V)
 |lst(n:Nat)
inductive Src where
 |vals(l:List V)
 |lst(n:Nat)
 |keys(n v:Nat)(l:List V)
 |enum(n:Nat)
 |zip(a b:k2)(c:Nat)
 |rev(n k:Nat)
def k2.all(σ:aN):k2->Option (List V)
 |.tup l=>I l
 |.lst n=>listAt σ n
noncomputable def my(σ:aN)(n:Nat):Option Nat:=match σ[n]? with
 |some (.dict v _)=>I v
 |_=>U
noncomputable def pairUp(o p:Option V):Option V:=match o with
 |some x=>p.map λy=>V.tup [x,y]
 |none=>U
def Src.at(σ:aN):Src->Nat->Option (Option V)
 |.vals l,i=>I l[i]?
 |.lst n,i=>(listAt σ n).map λl=>l[i]?
 |.keys n v l,i=>if my σ n=I v then I l[i]? else U
 |.enum n,i=>(listAt σ n).map λl=>(l[i]?).map λx=>V.tup [.int i,x]
 |.zip a b _,i=>(a.all σ).bind λl=>(b.all σ).map λm=>pairUp l[i]? m[i]?
 |.rev n k,i=>(listAt σ n).bind λl=>if l.length=k then I l.reverse[i]? else U
def Src.get(s:Src)(i:Nat):M (Option V):=c3 λσ=>s.at σ i
def Src.size(σ:aN):Src->Option Nat
 |.vals l=>I l.length
 |.lst n=>(listAt σ n).map (·.length)
 |.keys n v l=>if my σ n=I v then I l.length else U
 |.enum n=>(listAt σ n).map (·.length)
 |.zip a b _=>(a.all σ).bind λl=>(b.all σ).map λm=>min l.length m.length
 |.rev n k=>(listAt σ n).bind λl=>if l.length=k then I k else U
def Src.count(s:Src):M Nat:=c3 s.size
def eY:V->M Src
 |.tup l=>pure (.vals l)
 |.ref n=>do
  match <-jc n with
  |.list _=>pure (.lst n)
  |.dict v l=>pure (.keys n v (l.map λp=>h7 p.1))
  |_=>M.bad
 |_=>M.bad
noncomputable def i9(a b:Int):List V:=(List.range (b-a).toNat).map λ(k:Nat)=>V.int (a+k)
noncomputable def allStrs:List V->Option (List Str)
 |[]=>I []
 |.str s::r=>(allStrs r).map (s :: ·)
 |_::_=>U
def uD:V->M (List V)
 |.tup l=>pure l
 |.ref n=>fb n
 |_=>M.bad
def km:V->M V
 |.tup l=>pure (.int l.length)
 |.ref n=>do
  let l <-fb n
  pure (.int l.length)
 |_=>M.bad
def n3(a:V):M V:=match a with
 |.tup l=>cH (.list l)
 |.ref n=>do
  match <-jc n with
  |.list l=>cH (.list l)
  |.dict _ l=>cH (.list (l.map λp=>h7 p.1))
  |_=>M.bad
 |_=>M.bad
def iM(x:Str):List Str->List Str
 |[]=>[x]
 |y::r=>if strLt y x then y::iM x r else x::y::r
theorem uc:iM x (y::r)=if strLt y x then y::iM x r else x::y::r:=rfl
def fg:List Str->List Str
 |[]=>[]
 |x::r=>iM x (fg r)
def zi(l:List V):Option (List V):=(allStrs l).map λss=>(fg ss).map V.str
def mT:V->M V
 |.ref n=>do
  let l <-fb n
  if l.length<64 then do
   let r <-bD (zi l)
   cH (.list r)
  else M.bad
 |_=>M.bad
def oX(a b:V):M V:=match a with
 |.int x=>(match b with
  |.int y=>pure (.int (min x y))
  |_=>M.bad)
 |_=>M.bad
def oW(a:V):M V:=do
 let l <-uD a
 pure (.tup l)
def GA(f:Str)(a:V):M V:=
  if f=("len" : Str) then km a
  else if f=("list" : Str) then n3 a
  else if f=("tuple" : Str) then oW a
  else if f=("sorted" : Str) then mT a
  else M.bad
def blt(f:Str):List V->M V
 |[a]=>GA f a
 |[a,b]=>if f=("min" : Str) then oX a b else M.bad
 |_=>M.bad
def zV:V->V->M V
 |.ref n,a=>do
  let l <-fb n
  if l.length+1<=sizeLine then do
   oA n (.list (l++[a]))
   pure .none
  else M.bad
 |_,_=>M.bad
def zR:V->V->M V
 |.str sep,a=>do
  let l <-uD a
  let ss <-bD (allStrs l)
  if (ss.map (·.length)).sum+ss.length*sep.length<=16777216 then pure (.str (Txt.join sep ss)) else M.bad
 |_,_=>M.bad
def qC(σ:aN)(x:V):List V->Nat->Option Nat
 |[],_=>U
 |y::r,i=>match ej σ y x with
  |some true=>I i
  |some false=>qC σ x r (i+1)
  |none=>U
def zS:V->V->M V
 |.ref n,a=>do
  let l <-fb n
  c3 λσ=>match j5 σ a l with
   |some true=>(qC σ a l 0).map λ(k:Nat)=>V.int (k:Int)
   |_=>U
 |_,_=>M.bad
def zQ:V->M V
 |.ref n=>do
  let l <-fb n
  match l.getLast? with
  |some v=>do
   oA n (.list l.dropLast)
   pure v
  |none=>M.bad
 |_=>M.bad
def zT:V->V->M V
 |.ref n,.ref m=>do
  let l <-fb n
  let k <-fb m
  if n≠m/\l.length+k.length<=sizeLine then do
   oA n (.list (l++k))
   pure .none
  else M.bad
 |_,_=>M.bad
def MI(n:Nat):M Tab:=c3 λσ=>dictAt σ n
def zU:V->V->V->M V
 |.ref n,k,v=>do
  let l <-MI n
  match keyOf k with
  |some q=>(match dF l q with
   |some x=>pure x
   |none=>if l.length+1<=sizeLine then do
     putD n (kY l q v)
     pure v
    else M.bad)
  |none=>M.bad
 |_,_,_=>M.bad
inductive qe where
 |append|join|index|pop|extend|setdefault
 |own(c:Str)
noncomputable def lJ(σ:aN)(n:Nat):Bool:=match σ[n]? with
 |some (.list _)=>aw
 |_=>aS
noncomputable def p0(σ:aN)(n:Nat):Option (List (Str×V)):=match σ[n]? with
 |some (.inst _ k)=>(match σ[k]? with
  |some (.bT l)=>I l
  |_=>U)
 |_=>U
noncomputable def jq(c m:Str):Str:=c++("." ++ m)
def ue(C:Cfg)(m:Str)(σ:aN)(n:Nat):Option Str:=(gW σ n).bind λc=>(C.cls c).bind λms=>(p0 σ n).bind λl=>
 if ms.1.contains m&&(l.lookup m).isNone then I c else U
noncomputable def oJ(σ:aN)(n:Nat):Bool:=match σ[n]? with
 |some (.dict _ _)=>aw
 |_=>aS
noncomputable def z1(m:Str):Option qe:=if m=("append" : Str) then I .append else if m=("index" : Str) then I .index else if m=("pop" : Str) then I .pop else if m=("extend" : Str) then I .extend else U
def d9(C:Cfg)(v:V)(m:Str)(σ:aN):Option qe:=match v with
 |.str _=>if m=("join" : Str) then I .join else U
 |.ref n=>if lJ σ n then z1 m else if oJ σ n then (if m=("setdefault" : Str) then I .setdefault else U)
  else (ue C m σ n).map .own
 |_=>U
def runM(C:Cfg)(m:Str):qe->V->List V->M V
 |.own c,o,as=>C.call (jq c m) (o::as)
 |.append,o,[a]=>zV o a
 |.join,o,[a]=>zR o a
 |.index,o,[a]=>zS o a
 |.pop,o,[]=>zQ o
 |.extend,o,[a]=>zT o a
 |.setdefault,o,[a,b]=>zU o a b
 |_,_,_=>M.bad
noncomputable def sd(c:Str):M V:=⟨λk σ=>k (.ref (σ.length+1)) (σ++[.bT [],.inst c σ.length]),λaf aJ=>aa⟩
noncomputable def uH{α:Type}(r:V)(m:M α):M α:=⟨λk σ=>match r with
 |.none=>m.go k σ
 |_=>.bad,λk σ=>by
 cases r with
 |none=>exact m.nat k σ
 |_=>rfl⟩
def el(C:Cfg)(c:Str)(vs:List V):M V:=do
 let o <-sd c
 let r <-C.call (jq c "__init__") (o::vs)
 uH r (pure o)
noncomputable def hK(l:List (Str×V))(m:Str)(v:V):List (Str×V):=if (l.lookup m).isSome then l.map (λp=>if p.1==m then (p.1,v) else p) else l++[(m,v)]
def DF(n:Nat)(m:Str)(v:V):M Unit:=⟨λk σ=>match σ[n]? with
 |some (.inst _ j)=>(match σ[j]? with
  |some (.bT l)=>if 0<j/\l.length+1<=sizeLine then k () (σ.set j (.bT (hK l m v))) else .bad
  |_=>.bad)
 |_=>.bad,λk σ=>by
 induction σ[n]? with
 |none=>rfl
 |some o=>induction o with
  |inst c j=>
   dsimp only
   induction σ[j]? with
   |none=>rfl
   |some o=>induction o with
    |bT l=>
     dsimp only;by_cases h:0<j/\l.length+1<=sizeLine
     ·rw[aK h,aK h];rfl
     ·rw[aR h,aR h];rfl
    |_=>rfl
  |_=>rfl⟩
def dT(C:Cfg)(m:Str)(v:V):V->M Unit
 |.ref n=>do
  let _ <-c3 λσ=>(gW σ n).bind λc=>(C.cls c).bind λms=>if ms.2.contains m then I () else U
  DF n m v
 |_=>M.bad
def cL(C:Cfg)(m:Str):V->M V
 |.ref n=>c3 λσ=>(gW σ n).bind λc=>(C.cls c).bind λms=>if ms.2.contains m then (p0 σ n).bind λl=>l.lookup m else U
 |_=>M.bad
inductive bE where
 |next|brk|cont
 |ret(v:V)
noncomputable def cx(ns:cC)(names:cC):cC:=names.map λ(x,k)=>if k == .free&&ns.lookup x==I .cell then (x,.cell) else (x,k)
def fL(ns:cC)(loc:Loc):cC->M Loc
 |[]=>pure []
 |(x,.free)::r=>(match slot ns x with
  |some (i,.cell)=>do
   let t <-fL ns loc r
   pure (((loc[i]?).getD U)::t)
  |_=>M.bad)
 |(_,.cell)::_=>M.bad
 |(_,_)::r=>do
  let t <-fL ns loc r
  pure (U::t)
theorem EC:fL ns loc ((x,.free)::r)=(match slot ns x with|some (i,.cell)=>(do let t <-fL ns loc r;pure (((loc[i]?).getD U)::t))|_=>M.bad):=rfl
def nG(ns:cC)(x:Str):Bool:=match slot ns x with
 |some (_,.globalImplicit)=>!(x==("__debug__" : Str))
 |_=>aS
def compLoop(s:Src)(hO:V->Loc->M Loc)(tests:Loc->M Bool)(elt:Loc->M V):Nat->Nat->Loc->M (List V)
 |0,_,_=>M.bad
 |k+1,i,loc=>do
  match <-s.get i with
  |none=>pure []
  |some v=>do
   let bP <-hO v loc
   if <-tests bP then do
    let x <-elt bP
    let r <-compLoop s hO tests elt k (i+1) bP
    pure (x::r)
   else compLoop s hO tests elt k (i+1) bP
noncomputable def zK:Expr->Option (Str×Pos)
 |.Name x p=>I (x,p)
 |_=>U
def zJ:List Expr->Option (List (Str×Pos))
 |[]=>I []
 |t::ts=>(zK t).bind λq=>(zJ ts).map λbq=>q::bq
def vk(st:Str->V->Loc->M Loc):List (Str×Pos)->List V->Loc->M Loc
 |[],[],loc=>pure loc
 |q::bq,v::vs,loc=>do
  let bP <-st q.1 v loc
  vk st bq vs bP
 |_,_,_=>M.bad
def bindNames(st:Str->V->Loc->M Loc)(ts:List Expr)(l:List V)(loc:Loc):M Loc:=match zJ ts with
 |some bq=>vk st bq l loc
 |none=>M.bad
noncomputable def CM:Expr->Option (List Expr×Nat×Pos)
 |.Tuple ts k p=>I (ts,k,p)
 |_=>U
def bindTo(st:Str->V->Loc->M Loc)(t:Expr)(v:V)(loc:Loc):M Loc:=match zK t with
 |some q=>st q.1 v loc
 |none=>match CM t with
  |some q=>(match v with
   |.tup l=>bindNames st q.1 l loc
   |_=>M.bad)
  |none=>M.bad
def nC(C:Cfg)(ns:cC)(x:Str)(loc:Loc):M V:=match slot ns x with
 |some (i,.local)=>ldLoc loc i
 |some (i,.cell)=>ldLoc loc i
 |some (_,.globalImplicit)=>bD (C.glob x)
 |_=>M.bad
noncomputable def xc:Expr->Bool
 |.Call (.Name _ _) [] [] _=>aw
 |_=>aS
noncomputable def sr:Expr->Bool
 |.Starred _ _=>aw
 |_=>aS
def qR(aW:List Expr):Bool:=aW.all λe=>!sr e
noncomputable def Ba:List Str:=["len", "list", "tuple", "sorted", "min"]
def Gq(C:Cfg)(ns:cC)(f:Str)(aW:List Expr):Bool:=nG ns f&&(qR aW&&(C.nH f || ((C.cls f).isSome || Ba.contains f)))
noncomputable def nameIn(e:Expr):Option {t:Str // ∃p,e=.Name t p}:=match e with
 |.Name t p=>I ⟨t,p,aa⟩
 |_=>U
noncomputable def Ez(e:Expr):Option {i:Int // ∃k p,e=.Constant (.int i) k p}:=match e with
 |.Constant c k p=>(match c with
  |.int i=>I ⟨i,k,p,aa⟩
  |_=>U)
 |_=>U
noncomputable def CY(e:Expr):Option {q:Expr×Expr×Pos // e=.Subscript q.1 q.2.1 q.2.2}:=match e with
 |.Subscript o i p=>I ⟨(o,i,p),aa⟩
 |_=>U
noncomputable def Gr(e:Expr):Option {q:Expr×List Expr×Pos // e=.Call q.1 q.2.1 [] q.2.2}:=match e with
 |.Call f as cm p=>(match cm with
  |[]=>I ⟨(f,as,p),aa⟩
  |_::_=>U)
 |_=>U
noncomputable def DN(l:List Expr):Option {t:Expr // l=[t]}:=match l with
 |[t]=>I ⟨t,aa⟩
 |_=>U
noncomputable def GN(e:Expr):Option {q:Expr×Str×Pos // e=.Attribute q.1 q.2.1 q.2.2}:=match e with
 |.Attribute o m p=>I ⟨(o,m,p),aa⟩
 |_=>U
noncomputable def wc(e:Expr):Option {q:List Expr×Nat×Pos // e=.Tuple q.1 q.2.1 q.2.2}:=match e with
 |.Tuple ts k p=>I ⟨(ts,k,p),aa⟩
 |_=>U
def nameOf(e:Expr):Option Str:=(nameIn e).map (·.1)
def s7(C:Cfg)(f:Str)(vs:List V):M V:=if C.nH f then C.call f vs else if (C.cls f).isSome then el C f vs else blt f vs
def nv:V->M Src
 |.int n=>if -1000000<=n/\n<=1000000 then pure (.vals (i9 0 n)) else M.bad
 |_=>M.bad
def xX:V->M Src
 |.ref n=>do
  let _ <-fb n
  pure (.enum n)
 |_=>M.bad
def r3:V->M Src
 |.tup l=>pure (.vals l.reverse)
 |.ref n=>do
  let l <-fb n
  pure (.rev n l.length)
 |_=>M.bad
def rK:V->M k2
 |.tup l=>pure (.tup l)
 |.ref n=>do
  let _ <-fb n
  pure (.lst n)
 |_=>M.bad
noncomputable def SX:V->Nat
 |.ref n=>n
 |_=>0
def tS(a b:V):M Src:=do
 let x <-rK a
 let y <-rK b
 let c <-cH .cache
 pure (.zip x y (SX c))
noncomputable def Ep:Expr->Bool
 |.Tuple _ _ _=>aw
 |_=>aS
def jm(s:Src)(t:Expr):Bool:=match s with
 |.enum _=>Ep t
 |.zip _ _ _=>Ep t
 |_=>aw
noncomputable def hs(k:ScopeKind)(names:cC):Bool:=(match k with|.function=>aw|_=>aS) &&
 names.all λp=>match p.2 with
  |.local=>(match names.lookup p.1 with|some .local=>aw|_=>aS)
  |_=>aw
def i8(C:Cfg)(ns:cC)(f:Str):Nat:=if nG ns f && !C.nH f then (if f=("range" : Str) then 1 else if f=("enumerate" : Str) then 2 else if f=("reversed" : Str) then 3 else if f=("zip" : Str) then 4 else 0) else 0
def Jj(t:Nat)(v:V):M Src:=if t=1 then nv v else if t=2 then xX v else if t=3 then r3 v else M.bad
def wF(C:Cfg)(ns:cC):Expr->Bool
 |.Call (.Name f _) [_] [] _=>i8 C ns f==3
 |_=>aS
def Src.back(σ:aN):Src->Option (List V)
 |.rev n k=>(listAt σ n).bind λl=>if l.length=k then I l.reverse else U
 |_=>U
def uv(s:Src):M V:=do
 let l <-c3 s.back
 cH (.list l)
mutual
noncomputable def ev(C:Cfg):Expr->cC->Loc->M V
 |.Constant c _ _,_,_=>Nz c
 |.Name x _,ns,loc=>if x=("__debug__" : Str) then M.bad else nC C ns x loc
 |.BinOp l op r _,ns,loc=>do
  let a <-ev C l ns loc
  let b <-ev C r ns loc
  binop op a b
 |.UnaryOp op x _,ns,loc=>(match op with
  |.Not=>do
   let a <-ev C x ns loc
   let t <-truth a
   pure (.bool (!t))
  |.USub=>(match Ez x with
   |some i=>pure (.int (-i.1))
   |none=>M.bad)
  |_=>M.bad)
 |.BoolOp op vs _,ns,loc=>AP C vs op ns loc
 |.Compare l [op] [r] _,ns,loc=>do
  let a <-ev C l ns loc
  let b <-ev C r ns loc
  cmp op a b
 |.Dict [] [] _,_,_=>cH (.dict 0 [])
 |.IfExp t a b _,ns,loc=>do
  let c <-ep C t ns loc (ev C t ns loc)
  M.cond c (ev C a ns loc) (ev C b ns loc)
 |.Subscript o (.Slice lo aI none _) _,ns,loc=>do
  let a <-ev C o ns loc
  let l <-s0 C lo ns loc
  let h <-s0 C aI ns loc
  let l' <-bound l
  let h' <-bound h
  j7 l' h' a
 |.Subscript o i _,ns,loc=>do
  let a <-ev C o ns loc
  let b <-ev C i ns loc
  item a b
 |.List aW _,ns,loc=>do
  let vs <-jw C aW ns loc
  if vs.length<=sizeLine then cH (.list vs) else M.bad
 |.Tuple aW _ _,ns,loc=>do
  let vs <-jw C aW ns loc
  if vs.length<=sizeLine then pure (.tup vs) else M.bad
 |.Call (.Name f _) as [] _,ns,loc=>
  if Gq C ns f as then AO C as ns loc f (jw C as ns loc) else M.bad
 |.Call (.Attribute o m ap) as [] p,ns,loc=>
  if ap.endLine=p.line/\as.length<30/\xc o=aS/\qR as=aw then do
   let v <-ev C o ns loc
   let CN <-c3 (d9 C v m)
   let vs <-jw C as ns loc
   runM C m CN v vs
  else M.bad
 |.Attribute o m _,ns,loc=>if xc o=aS then do
   let v <-ev C o ns loc
   cL C m v
  else M.bad
 |.ListComp elt [⟨target,iter,ifs,0⟩] scope _,ns,loc=>do
  let s <-src C iter ns loc (ev C iter ns loc)
  if jm s target&&hs scope.kind scope.names then do
   let n <-s.count
   if n<=sizeLine then do
    let bP <-fL ns loc scope.names
    let l <-compLoop s (bindTo (fJ (cx ns scope.names)) target) (tests C ifs (cx ns scope.names)) (ev C elt (cx ns scope.names)) (n+1) 0 bP
    cH (.list l)
   else M.bad
  else M.bad
 |_,_,_=>M.bad
noncomputable def AO(C:Cfg):List Expr->cC->Loc->Str->M (List V)->M V
 |[a],ns,loc,f,whole=>if wF C ns a&&f==("list" : Str) then (do
   let s <-src C a ns loc (ev C a ns loc)
   uv s)
  else (do
   let vs <-whole
   s7 C f vs)
 |_,_,_,f,whole=>do
  let vs <-whole
  s7 C f vs
noncomputable def s0(C:Cfg):Option Expr->cC->Loc->M V
 |none,_,_=>pure .none
 |some e,ns,loc=>ev C e ns loc
noncomputable def jw(C:Cfg):List Expr->cC->Loc->M (List V)
 |[],_,_=>pure []
 |e::r,ns,loc=>do
  let v <-ev C e ns loc
  let vs <-jw C r ns loc
  pure (v::vs)
noncomputable def AP(C:Cfg):List Expr->BoolOp->cC->Loc->M V
 |[],_,_,_=>M.bad
 |e::r,op,ns,loc=>do
  let v <-ev C e ns loc
  match r with
  |[]=>pure v
  |_::_=>do
   let t <-truth v
   match op with
   |.And=>M.cond t (AP C r op ns loc) (pure v)
   |.Or=>M.cond t (pure v) (AP C r op ns loc)
noncomputable def ep(C:Cfg):Expr->cC->Loc->M V->M Bool
 |.UnaryOp .Not x _,ns,loc,_=>do
  let b <-ep C x ns loc (ev C x ns loc)
  pure (!b)
 |.BoolOp op vs _,ns,loc,_=>y4 C vs op ns loc
 |.IfExp t a b _,ns,loc,_=>do
  let c <-ep C t ns loc (ev C t ns loc)
  M.cond c (ep C a ns loc (ev C a ns loc)) (ep C b ns loc (ev C b ns loc))
 |_,_,_,whole=>do
  let v <-whole
  truth v
noncomputable def y4(C:Cfg):List Expr->BoolOp->cC->Loc->M Bool
 |[],op,_,_=>pure (op == .And)
 |e::r,op,ns,loc=>do
  let b <-ep C e ns loc (ev C e ns loc)
  match op with
  |.And=>M.cond b (y4 C r op ns loc) (pure aS)
  |.Or=>M.cond b (pure aw) (y4 C r op ns loc)
noncomputable def tests(C:Cfg):List Expr->cC->Loc->M Bool
 |[],_,_=>pure aw
 |e::r,ns,loc=>match r with
  |[]=>ep C e ns loc (ev C e ns loc)
  |_::_=>M.bad
noncomputable def src(C:Cfg):Expr->cC->Loc->M V->M Src
 |.Call (.Name f _) as [] _,ns,loc,whole=>
  (match as with
  |[a]=>if (i8 C ns f=1\/i8 C ns f=2)\/i8 C ns f=3 then (do
    let v <-ev C a ns loc
    Jj (i8 C ns f) v)
   else (do
    let v <-whole
    eY v)
  |[a,b]=>if i8 C ns f=4 then (do
    let v <-ev C a ns loc
    let w <-ev C b ns loc
    tS v w)
   else (do
    let v <-whole
    eY v)
  |_=>do
   let v <-whole
   eY v)
 |_,_,_,whole=>do
  let v <-whole
  eY v
end
noncomputable def fO{α:Type}(K:bE×Loc->M α)(next:Loc->M α)(r:bE×Loc):M α:=⟨λk σ=>match r.1 with
 |.next=>(next r.2).go k σ
 |f=>(K (f,r.2)).go k σ,λk σ=>by
 obtain⟨f,loc⟩:=r
 induction f with
 |next=>exact(next loc).nat k σ
 |brk=>exact(K (.brk,loc)).nat k σ
 |cont=>exact(K (.cont,loc)).nat k σ
 |ret v=>exact(K (.ret v,loc)).nat k σ⟩
def andThen(r:bE×Loc)(k:Loc->M (bE×Loc)):M (bE×Loc):=fO (λx=>pure x) k r
def iJ(test:Loc->M Bool)(body:Loc->M (bE×Loc)):Nat->Loc->M (bE×Loc)
 |0,_=>M.bad
 |k+1,loc=>do
  let c <-test loc
  M.cond c (do
   let r <-body loc
   match r.1 with
   |.next=>iJ test body k r.2
   |.cont=>iJ test body k r.2
   |.brk=>pure (.next,r.2)
   |.ret v=>pure (.ret v,r.2)) (pure (.next,loc))
open Classical in
def ot(test:Loc->M Bool)(body:Loc->M (bE×Loc))(loc:Loc)(σ:aN):Res (bE×Loc):=
 if h:∃n,iJ test body n loc σ≠.bad then iJ test body (Classical.choose h) loc σ else .bad
def tT(test:Loc->M Bool)(body:Loc->M (bE×Loc))(loc:Loc):M (bE×Loc):=
 ⟨λk σ=>(ot test body loc σ).bind k,λk σ=>by cases ot test body loc σ <;> rfl⟩
def forLoop(s:Src)(hO:V->Loc->M Loc)(body:Loc->M (bE×Loc)):Nat->Nat->Loc->M (bE×Loc)
 |0,_,_=>M.bad
 |k+1,i,loc=>do
  match <-s.get i with
  |none=>pure (.next,loc)
  |some v=>do
   let bP <-hO v loc
   let r <-body bP
   match r.1 with
   |.next=>forLoop s hO body k (i+1) r.2
   |.cont=>forLoop s hO body k (i+1) r.2
   |.brk=>pure (.next,r.2)
   |.ret v=>pure (.ret v,r.2)
def xT(C:Cfg)(t value:Expr)(ns:cC)(loc:Loc):M (bE×Loc):=match nameIn t with
 |some x=>do
  let v <-ev C value ns loc
  let bP <-stLoc ns x.1 v loc
  pure (.next,bP)
 |none=>match CY t with
  |some q=>do
   let v <-ev C value ns loc
   let a <-ev C q.1.1 ns loc
   let b <-ev C q.1.2.1 ns loc
   setItem a b v
   pure (.next,loc)
  |none=>match GN t with
   |some q=>do
    let v <-ev C value ns loc
    let a <-ev C q.1.1 ns loc
    dT C q.1.2.1 v a
    pure (.next,loc)
   |none=>match wc t with
    |some _=>if (wc value).isNone then do
      let v <-ev C value ns loc
      let bP <-bindTo (stLoc ns) t v loc
      pure (.next,bP)
     else M.bad
    |none=>M.bad
mutual
noncomputable def ex(C:Cfg):Stmt->cC->Loc->M (bE×Loc)
 |.Expr e _,ns,loc=>(match Gr e with
  |some _=>do
   let _ <-ev C e ns loc
   pure (.next,loc)
  |none=>M.bad)
 |.Pass _,_,loc=>pure (.next,loc)
 |.Return none _,_,loc=>pure (.ret .none,loc)
 |.Return (some e) _,ns,loc=>do
  let v <-ev C e ns loc
  pure (.ret v,loc)
 |.Assign ts value _,ns,loc=>(match DN ts with
  |some t=>xT C t.1 value ns loc
  |none=>M.bad)
 |.If t a b _,ns,loc=>do
  let c <-ep C t ns loc (ev C t ns loc)
  M.cond c (dw C a ns loc) (dw C b ns loc)
 |.For target iter body [] _,ns,loc=>do
  let s <-src C iter ns loc (ev C iter ns loc)
  if jm s target then do
   let n <-s.count
   forLoop s (bindTo (stLoc ns) target) (dw C body ns) (n+1) 0 loc
  else M.bad
 |.While t body [] _,ns,loc=>tT (λl=>ep C t ns l (ev C t ns l)) (dw C body ns) loc
 |.Try body az rj fin _,ns,loc=>if rj.isEmpty&&(fin.isEmpty && !az.isEmpty) then dw C body ns loc else M.bad
 |_,_,_=>M.bad
noncomputable def dw(C:Cfg):List Stmt->cC->Loc->M (bE×Loc)
 |[],_,loc=>pure (.next,loc)
 |s::r,ns,loc=>do
  let x <-ex C s ns loc
  andThen x (dw C r ns)
end
structure dn where
 params:List Str
 names:cC
 body:List Stmt
noncomputable def sv(params:List Str)(args:List V):cC->Loc
 |[]=>[]
 |(x,_)::r=>((params.zip args).lookup x)::sv params args r
def x8(C:Cfg)(f:dn)(args:List V):M V:=
 if args.length=f.params.length then do
  let r <-dw C f.body f.names (sv f.params args f.names)
  pure (match r.1 with|.ret v=>v|_=>.none)
 else M.bad
structure ih where
 fns:Str->Option dn
 ms:Str->Option dn
 glob:Str->Option V
 cls:Str->Option (List Str×List Str)
noncomputable def ih.at(T:ih)(f:Str):Option dn:=(T.fns f).or (T.ms f)
def ro(T:ih):Nat->Str->List V->M V
 |0,_,_=>M.bad
 |n+1,f,args=>match T.at f with
  |some fn=>x8 ⟨λx=>(T.fns x).isSome,ro T n,T.glob,T.cls⟩ fn args
  |none=>M.bad
theorem NP:ro T (n+1) f args=match T.at f with|some fn=>x8 ⟨λx=>(T.fns x).isSome,ro T n,T.glob,T.cls⟩ fn args|none=>M.bad:=rfl
section
variable {σ:aN}{loc:Loc}
theorem JP(a b:Int)(i:Nat):(i9 a b)[i]? =if i<(b-a).toNat then I (.int (a+i)) else U:=by
 unfold i9;rw[e6];by_cases h:i<(b-a).toNat
 ·rw[aK h,PR h];rfl
 ·rw[aR h,hW (by simpa using h)];rfl
theorem p8{α β:Type}{m:M α}{f:α->M β}{b:β}{dt:aN}(h:(m>>=f) σ=.ok b dt):∃a bl,m σ=.ok a bl/\f a bl=.ok b dt:=by
 induction e:m σ with
 |bad=>rw[dR e]at h;exact ic h
 |ok a bl=>rw[a4 e]at h;exact⟨a,bl,aa,h⟩
theorem ya{α β:Type}{m:M α}{f:α->M β}(h:(m>>=f) σ≠.bad):∃a bl,m σ=.ok a bl/\(m>>=f) σ=f a bl:=by
 induction e:m σ with
 |bad=>replace h:=dR e ▸ h;exact absurd aa h
 |ok a bl=>exact⟨a,bl,aa,a4 e⟩
theorem A3(h:b7.at σ i=I o):compLoop b7 bt tt eF (k+1) i loc σ =
  (match o with|none=>(pure []:M (List V))|some v=>(bt v loc>>=λbP=>tt bP>>=λc=>if c=aw then (eF bP>>=λx=>compLoop b7 bt tt eF k (i+1) bP>>=λr=>pure (x::r)) else compLoop b7 bt tt eF k (i+1) bP)) σ:=by
 show(b7.get i>>=_) σ=_;refine(a4 (a:=o) (ag:=σ) (by unfold Src.get;rw[hP,h])).trans ?_;cases o <;> rfl
theorem NG(h:b7.at σ i=U):compLoop b7 bt tt eF (k+1) i loc σ=.bad:=by
 show(b7.get i>>=_) σ=_;rw[dR (by unfold Src.get;rw[hP,h])]
theorem MN(h:b7.at σ i=I o):forLoop b7 bt body (k+1) i loc σ =
  (match o with|none=>(pure (.next,loc):M (bE×Loc))|some v=>(bt v loc>>=λbP=>body bP>>=λr=>match r.1 with
   |.next=>forLoop b7 bt body k (i+1) r.2
   |.cont=>forLoop b7 bt body k (i+1) r.2
   |.brk=>pure (.next,r.2)
   |.ret v=>pure (.ret v,r.2))) σ:=by
 show(b7.get i>>=_) σ=_;refine(a4 (a:=o) (ag:=σ) (by unfold Src.get;rw[hP,h])).trans ?_;cases o <;> rfl
theorem kh(n:Nat):fb n σ=(match σ[n]? with|some (.list l)=>.ok l σ|_=>.bad):=by
 unfold fb
 induction e:σ[n]? with
 |none=>rw[dR (by rw[pZ,e])]
 |some o=>
  rw[a4 (a:=o) (ag:=σ) (by rw[pZ,e])];cases o <;> rfl
theorem length_append(x y:Str):(x++y).length=x.length+y.length:=by
 show(x.cps++y.cps).size=_;exact Array.size_append ..
theorem A2{α:Type}(l:List α)(lo aI:Option Int):(Mine.Internal.cut l lo aI).length<=l.length:=by
 unfold Mine.Internal.cut;rw[rI,HK];exact b0 (B2 _ _) (BZ _ _)
theorem rX(dA:0<n)(ao:n<σ.length):oA n o σ=.ok () (σ.set n o):=by rw[Ju,aK ⟨dA,ao⟩]
theorem Ja(h:i+1<=j):j-i=(j-(i+1))+1:=by
 rw[Nat.sub_add_eq,ae5 (afd (by rw[qq];exact h))]
theorem cE{α:Type}{l:List α}{n:Nat}{a:α}(h:l[n]? =I a):n<l.length:=by
 rcases i4 n l.length with hl|hl
 ·exact hl
 ·rw[hW hl]at h;exact a5 h
theorem zB(dA:0<n)(h:σ[n]? =I (.dict v l)):putD n m σ=.ok () (σ.set n (.dict (v+1) m)):=by
 show(match σ[n]? with|some (.dict v _)=>if 0<n then Res.ok () (σ.set n (.dict (v+1) m)) else .bad|_=>.bad)=_;rw[h];exact aK dA
theorem J3(dA:¬0<n):putD n m σ=.bad:=by
 show(match σ[n]? with|some (.dict v _)=>if 0<n then Res.ok () (σ.set n (.dict (v+1) m)) else .bad|_=>.bad)=_
 induction σ[n]? with
 |none=>rfl
 |some o=>induction o with
  |dict v l=>exact aR dA
  |_=>rfl
theorem zp(dA:¬0<n):oA n o σ=.bad:=by rw[Ju,aR λh=>dA h.1]
end
end Mine.Internal

set_option backward.match.sparseCases false
namespace Mine.Internal
open PySem PyProof.Rows
noncomputable abbrev Map:=List (Addr×Nat)
noncomputable def dZ(vs:List Value)(n:Nat):Obj:={ cls:=.type "tuple",data:=.seq vs.toArray n }
noncomputable def en(vs:List Value)(n:Nat):Obj:={ cls:=.type "list",data:=.seq vs.toArray n }
def c9(ρ:Map)(b:Addr):Prop:=∀p∈ρ,b≠p.1
mutual
inductive Rel(ρ:Map)(h:Heap):Value->V->Prop
 |none:Rel ρ h .none .none
 |bool(b:Bool):Rel ρ h (.bool b) (.bool b)
 |int(i:Int)(t:Tok):Rel ρ h (.int i t) (.int i)
 |str(x:Str)(t:Tok):hu x->Rel ρ h (.str x t) (.str x)
 |tup{a:Addr}{vs:List Value}{n:Nat}{l:List V}:c9 ρ a->h.get? a=some (dZ vs n)->vs.length<=sizeLine->b8 ρ h vs l->Rel ρ h (.ref a) (.tup l)
 |ref{a:Addr}{d n:Nat}:ρ[n]? =some (a,d)->Rel ρ h (.ref a) (.ref n)
inductive b8(ρ:Map)(h:Heap):List Value->List V->Prop
 |nil:b8 ρ h [] []
 |cons{v:Value}{vs:List Value}{x:V}{l:List V}:Rel ρ h v x->b8 ρ h vs l->b8 ρ h (v::vs) (x::l)
end
noncomputable def uB:Key->Value->Bool
 |.inl i,v=>Value.isInt i v
 |.inr x,v=>Value.isStrOf x v
noncomputable def keyHash(w:World):Key->Int
 |.inl i=>hashInt i
 |.inr x=>hashStr w x
theorem nF:∀{k:Key}{v:Value},uB k v=aw->(∃i t,k=.inl i/\v=.int i t)\/∃x t,k=.inr x/\v=.str x t
 |.inl i,v,h=>by obtain⟨t,e⟩:=Value.isInt_shape (k:=i) h;exact .inl ⟨i,t,aa,e⟩
 |.inr x,v,h=>by obtain⟨t,e⟩:=Value.isStrOf_shape (x:=x) h;exact .inr ⟨x,t,aa,e⟩
theorem Lj(i:Int)(t:Tok):Value.isInt i (.int i t)=aw:=by simp [Value.isInt]
theorem Li(x:Str)(t:Tok):Value.isStrOf x (.str x t)=aw:=by simp [Value.isStrOf]
theorem YA(h:Q aS s):wpAny (model prog w) A (eqBool (.int a t) (.str b u)) Q E s:=by
 unfold eqBool;refine k5 ?_;have e:(Value.int a t==Value.str b u)=aS:=rfl;rw[aR (by rw[e];decide)];show wpAny _ _ (compareOp .Eq (Value.int a t) (Value.str b u)>>=_) Q E s;exact a0 (EqMixed.eq_int_str (Ps h))
theorem Yz(h:Q aS s):wpAny (model prog w) A (eqBool (.str b u) (.int a t)) Q E s:=by
 unfold eqBool;refine k5 ?_;have e:(Value.str b u==Value.int a t)=aS:=rfl;rw[aR (by rw[e];decide)];show wpAny _ _ (compareOp .Eq (Value.str b u) (Value.int a t)>>=_) Q E s;exact a0 (EqMixed.eq_str_int (Ps h))
def keyKind(prog:Program)(w:World):KeyKind prog w Key where
 is:=uB
 hash:=keyHash w
 inj:=λv a b aV au=>by
  rcases nF aV with ⟨i,t,rfl,rfl⟩|⟨x,t,rfl,rfl⟩
  ·rcases nF au with ⟨j,u,rfl,e⟩|⟨y,u,rfl,e⟩
   ·cases e;rfl
   ·cases e
  ·rcases nF au with ⟨j,u,rfl,e⟩|⟨y,u,rfl,e⟩
   ·cases e
   ·cases e;rfl
 byValue:=λk v h=>by rcases nF h with ⟨i,t,_,rfl⟩|⟨x,t,_,rfl⟩ <;> rfl
 pyHash:=λaM h=>by
  rcases nF aM with ⟨i,t,rfl,rfl⟩|⟨x,t,rfl,rfl⟩
  ·exact wpAny_pyHash_int h
  ·exact wpAny_pyHash_str h
 eqBool:=λ{A E s a b u v Q} aY aM h=>by
  rcases nF aY with ⟨i,t,rfl,rfl⟩|⟨x,t,rfl,rfl⟩
  ·rcases nF aM with ⟨j,eu,rfl,rfl⟩|⟨y,eu,rfl,rfl⟩
   ·refine wpAny_eqBool_int ?_;have e:(i==j)=decide ((Sum.inl i:Key)=.inl j):=by
     by_cases kT:i=j
     ·subst kT;simp
     ·rw[jf (λe=>kT (aeI e))];exact yC kT
    rw[e];exact h
   ·exact YA h
  ·rcases nF aM with ⟨j,eu,rfl,rfl⟩|⟨y,eu,rfl,rfl⟩
   ·exact Yz h
   ·refine wpAny_eqBool_str ?_;have e:decide (x=y)=decide ((Sum.inr x:Key)=.inr y):=by
     by_cases fM:x=y
     ·subst fM;simp
     ·rw[jf fM,jf (λe=>fM (yE e))]
    rw[e];exact h
 «strs»:=λk x t v h=>by
  rcases nF h with ⟨i,eu,rfl,e⟩|⟨y,eu,rfl,e⟩
  ·cases e
  ·cases e;exact(strKind prog w).«strs» x x t v (Li x t)
inductive f7(ρ:Map)(h:Heap):List (Key×Value)->List (Key×V)->Prop
 |nil:f7 ρ h [] []
 |cons{k:Key}{v:Value}{x:V}{cj:List (Key×Value)}{l:List (Key×V)}:(∀s,k=.inr s->hu s)->Rel ρ h v x->f7 ρ h cj l->f7 ρ h ((k,v)::cj) ((k,x)::l)
inductive ij(ρ:Map)(h:Heap):List (List Int×Addr×Value)->List (List Int×V)->Prop
 |nil:ij ρ h [] []
 |cons{k:List Int}{a:Addr}{v:Value}{x:V}{xs:List (List Int×Addr×Value)}{l:List (List Int×V)}:(c9 ρ a/\∃vs n,h.get? a=some (dZ vs n))->Rel ρ h v x->ij ρ h xs l->ij ρ h ((k,a,v)::xs) ((k,x)::l)
noncomputable abbrev y8(prog:Program)(w:World):HeapKind prog w (List Int):=tupleKind (intKind prog w)
structure eG where
 prog:Program
 w:World
 heap:Heap
noncomputable abbrev eG.get?(K:eG)(b:Addr):Option Obj:=K.heap.get? b
def vI(K:eG)(c:Str)(C:Addr):Prop:=CmpCls K.heap C/\∃mg,K.heap.Ns mainGlobals mg/\mg c=I (.ref C)
theorem vI.at{K:eG}{c:Str}{C:Addr}{mg:Str->Option Value}(k:vI K c C)(g:K.heap.Ns mainGlobals mg):mg c=I (.ref C):=by
 refine aB λae=>?_;obtain⟨_,m,⟨o,aW,dI,h1,h2,_,h3⟩,e⟩:=k;obtain⟨o',agK,agL,u0,xM,_,WN⟩:=g;refine ae ?_;replace u0:=h1 ▸ u0;cases u0;replace xM:=h2 ▸ xM;cases xM;rw[<-WN,h3];exact e
def tD(o:Obj):Prop:=∃aW dI,o.data=.dict aW dI
structure o5(ρ:Map)(h:Heap)(fC:Str->Option Value)(l:List (Str×V)):Prop where
 has:∀x a,l.lookup x=I a->∃v,fC x=I v/\Rel ρ h v a
 no:∀x,l.lookup x=U->fC x=U
inductive Hb(ρ:Map)(h:Heap)(a:Addr)(l:List V):Prop
 |mk(vs:List Value)(n:Nat)(g:h.get? a=some (en vs n))(hl:vs.length<=sizeLine)(r:b8 ρ h vs l):Hb ρ h a l
inductive Hr(K:eG)(ρ:Map)(h:Heap)(p:Addr×Nat)(v:Nat)(l:List (Key×V)):Prop
 |mk(e:p.2=v)(az:(p.1==sysModules)=false)(cj:List (Key×Value))(hd:h.DictOf (keyKind K.prog K.w) p.1 cj)(hl:cj.length<=sizeLine)(r:f7 ρ h cj l):Hr K ρ h p v l
inductive Pb(K:eG)(ρ:Map)(h:Heap)(a:Addr)(c:Str)(k:Nat):Prop
 |mk(C:Addr)(o:Obj)(di:Addr)(d:Nat)(aA:vI K c C)(g:h.get? a=some o)(h1:o.cls=.ref C)(h2:∀cd,o.data≠.cls cd)(h3:o.dict=some di)(bY:di≠a)(e:ρ[k]? =some (di,d)):Pb K ρ h a c k
inductive Ph(ρ:Map)(h:Heap)(a:Addr)(l:List (Str×V)):Prop
 |mk(hl:l.length<=sizeLine)(fC:Str->Option Value)(ao:h.Ns1 a fC)(f:o5 ρ h fC l):Ph ρ h a l
inductive GV(K:eG)(ρ:Map)(h:Heap)(p:Addr×Nat)(v:Nat)(l:List (List Int×V)):Prop
 |mk(e:p.2=v)(az:(p.1==sysModules)=false)(xs:List (List Int×Addr×Value))(hd:h.DictOfH (y8 K.prog K.w) p.1 xs)(hl:xs.length<=sizeLine)(r:ij ρ h xs l):GV K ρ h p v l
inductive Oh(h:Heap)(a:Addr):Prop
 |mk(vs:List Value)(n:Nat)(g:h.get? a=some (dZ vs n)):Oh h a
def jU(K:eG)(ρ:Map)(h:Heap)(p:Addr×Nat):O->Prop
 |.list l=>Hb ρ h p.1 l
 |.dict v l=>Hr K ρ h p v l
 |.inst c k=>Pb K ρ h p.1 c k
 |.bT l=>Ph ρ h p.1 l
 |.eC v l=>GV K ρ h p v l
 |.cache=>Oh h p.1
structure Inv(ab:eG)(σ:aN)(ρ:Map)(h:Heap):Prop where
 base:∀b o,ab.get? b=I o->h.get? b=I o
 len:ρ.length=σ.length
 objs:∀(n:Nat) (o:O) (p:Addr×Nat),σ[n]? =I o->ρ[n]? =I p->jU ab ρ h p o
 fresh:∀(n:Nat) (p:Addr×Nat),ρ[n]? =I p->0<n->ab.get? p.1=U
 apart:∀(i j:Nat) (p q:Addr×Nat),ρ[i]? =I p->ρ[j]? =I q->i≠j->p.1≠q.1
structure og(o o':Obj):Prop where
 tup:∀vs n,o=dZ vs n->o'=o
theorem og.refl:og o o:=⟨λaf aJ b3=>aa⟩
theorem og.trans(x:og o o')(y:og o' DO):og o DO where
 tup:=λvs n e=>(y.tup vs n ((x.tup vs n e).trans e)).trans (x.tup vs n e)
structure Ext(W:List Addr)(ρ:Map)(h:Heap)(aU:Map)(h':Heap):Prop where
 pre:∀(n:Nat) (a:Addr) (v:Nat),ρ[n]? =I (a,v)->∃v',aU[n]? =I (a,v')/\v<=v'/\(v'=v->∀o,h.get? a=I o->tD o->h'.get? a=I o)
 keep:∀b o,h.get? b=I o->b∉W->c9 ρ b->h'.get? b=I o
 kM:∀b o,h.get? b=I o->∃o',h'.get? b=I o'/\og o o'
 new:∀(i:Nat) (p:Addr×Nat),aU[i]? =I p->ρ.length<=i->h.get? p.1=U
section
variable {W:List Addr}{ρ aU j2:Map}{h h' gi:Heap}
theorem Ext.alive(x:Ext W ρ h aU h'):∀b o,h.get? b=I o->∃o',h'.get? b=I o':=λb o e=>by obtain⟨o',aG,_⟩:=x.kM b o e;exact⟨o',aG⟩
theorem Ext.rO(x:Ext W ρ h aU h'):∀b vs n,h.get? b=I (dZ vs n)->h'.get? b=I (dZ vs n):=λb vs n e=>by
 obtain⟨o',aG,k⟩:=x.kM b _ e;rw[aG,k.tup vs n aa]
theorem Ext.refl:Ext W ρ h ρ h where
 pre:=λaf aJ v e=>⟨v,e,bx _,λaf aJ g b3=>g⟩
 keep:=λaf aJ e b3 eW=>e
 kM:=λaf o e=>⟨o,e,.refl⟩
 new:=λi p e aI=>by rw[hW aI]at e;exact a5 e
theorem c9.ext(x:Ext W ρ h aU h')(au:h.get? b=I o)(off:c9 ρ b):c9 aU b:=λp hp=>by
 obtain⟨i,aI⟩:=PS hp;rcases i4 i ρ.length with hl|hl
 ·obtain⟨_,h1,_⟩:=x.pre i _ _ (cD hl);replace h1:=aI ▸ h1;cases h1;exact off ρ[i] (HL hl)
 ·have eZ:=x.new i p aI hl;exact λeq=>(by replace eZ:=au ▸ (j1 (eq ..)) ▸ eZ;exact fU eZ)
theorem Ext.trans(x:Ext W ρ h aU h')(y:Ext W aU h' j2 gi):Ext W ρ h j2 gi where
 pre:=λn a v e=>by
  refine aB λae=>?_;obtain⟨v',aG,l,k⟩:=x.pre n a v e;obtain⟨Q2,Gb,l',eo⟩:=y.pre n a v' aG;refine ae ⟨Q2,Gb,b0 l l',λq o g d=>?_⟩;have d8:v'=v:=iF (q ▸ l') l;exact eo (q.trans d8.symm) o (k d8 o g d) d
 keep:=λb o e g6 js=>y.keep b o (x.keep b o e g6 js) g6 (c9.ext x e js)
 kM:=λb o e=>by
  refine aB λae=>?_;obtain⟨o',aG,s⟩:=x.kM b o e;obtain⟨DO,Gb,s'⟩:=y.kM b o' aG;exact ae ⟨DO,Gb,s.trans s'⟩
 new:=λi p e aI=>by
  rcases i4 i aU.length with hl|hl
  ·refine aB λae=>?_;obtain⟨_,h1,_⟩:=y.pre i _ _ (cD hl);refine ae ?_;replace h1:=e ▸ h1;cases h1;exact x.new i aU[i] (cD hl) aI
  ·have eZ:=y.new i p e hl
   induction av:h.get? p.1 with
   |none=>rfl
   |some o=>obtain⟨o',aG⟩:=x.alive _ _ av;replace aG:=eZ ▸ aG;exact a5 aG
theorem Ext.weak(x:Ext W ρ h aU h')(hw:∀b∈W,b∈W'\/h.get? b=U):Ext W' ρ h aU h' where
 pre:=x.pre
 keep:=λb o e g6 js=>x.keep b o e (λhm=>(hw b hm).elim g6 λaG=>by rw[e]at aG;exact fU aG) js
 kM:=x.kM
 new:=x.new
theorem Ext.of_keep(hJ:∀b∈W,c9 ρ b)(ar:∀b o,h.get? b=I o->b∉W->h'.get? b=I o)(aP:∀b o,h.get? b=I o->b∈W->∃o',h'.get? b=I o'/\og o o'):Ext W ρ h ρ h' where
 pre:=λn a v e=>⟨v,e,bx _,λaf o g aJ=>ar a o g λhm=>hJ a hm _ (ee e) aa⟩
 keep:=λb o e g6 af=>ar b o e g6
 kM:=λb o e=>by
  by_cases hm:b∈W
  ·exact aP b o e hm
  ·exact⟨o,ar b o e hm,.refl⟩
 new:=λi p e aI=>by rw[hW aI]at e;exact a5 e
theorem Ext.of_keeps(ar:∀b o,h.get? b=I o->h'.get? b=I o):Ext W ρ h ρ h' where
 pre:=λn a v e=>⟨v,e,bx _,λaf o g aJ=>ar a o g⟩
 keep:=λb o e af aJ=>ar b o e
 kM:=λb o e=>⟨o,ar b o e,.refl⟩
 new:=λi p e aI=>by rw[hW aI]at e;exact a5 e
def Sub(ρ:Map)(h:Heap)(aU:Map)(h':Heap):Prop:=
 (∀(n:Nat) (a:Addr) (v:Nat),ρ[n]? =I (a,v)->∃v',aU[n]? =I (a,v'))/\∀b vs n,c9 ρ b->h.get? b=I (dZ vs n)->c9 aU b/\h'.get? b=I (dZ vs n)
theorem Ext.sub(x:Ext W ρ h aU h'):Sub ρ h aU h':=⟨λn a v e=>by obtain⟨v',aG,_⟩:=x.pre n a v e;exact⟨v',aG⟩,λb vs n off e=>⟨c9.ext x e off,x.rO b vs n e⟩⟩
theorem Sub.snoc(hp:∀vs n,h.get? p.1≠I (dZ vs n)):Sub ρ h (ρ++[p]) h:=⟨λn a v e=>⟨v,by
 rw[pf (by rcases i4 n ρ.length with hl|hl;exact hl;rw[hW hl]at e;exact a5 e)];exact e⟩,λb vs n off e=>⟨λq aH=>by
 rcases gb.mp aH with aH|aH
 ·exact off q aH
 ·rw[bN.mp aH];exact λeq=>hp vs n (eq ▸ e),e⟩⟩
theorem Sub.keeps(ar:∀b o,h.get? b=I o->h'.get? b=I o):Sub ρ h ρ h':=⟨λaf aJ v e=>⟨v,e⟩,λb af aJ off e=>⟨off,ar b _ e⟩⟩
theorem b8.ind{P:∀(vs:List Value) (l:List V),b8 ρ h vs l->Prop}(aE:P [] [] .nil)(h1:∀{v:Value}{vs:List Value}{x:V}{l:List V}(a:Rel ρ h v x) (r:b8 ρ h vs l),P vs l r->P (v::vs) (x::l) (.cons a r)){vs:List Value}{l:List V}(r:b8 ρ h vs l):P vs l r:=
 b8.rec (motive_1:=λaf aJ b3=>True) (motive_2:=λvs l r=>P vs l r) aL (λaf=>aL) (λaf aJ=>aL) (λaf aJ b3=>aL) (λaf aJ b3 eW nd=>aL) (λaf=>aL) aE (λa r af aj=>h1 a r aj) r
theorem Rel.cs{P:∀(v:Value) (x:V),Rel ρ h v x->Prop}(none:P .none .none .none)(bool:∀b:Bool,P (.bool b) (.bool b) (.bool b))(int:∀(i:Int) (t:Tok),P (.int i t) (.int i) (.int i t))(str:∀(x:Str) (t:Tok) (ak:hu x),P (.str x t) (.str x) (.str x t ak))
  (tup:∀{a:Addr}{vs:List Value}{n:Nat}{l:List V}(off:c9 ρ a) (g:h.get? a=some (dZ vs n)) (hl:vs.length<=sizeLine) (r:b8 ρ h vs l),P (.ref a) (.tup l) (.tup off g hl r)) (ref:∀{a:Addr}{d n:Nat}(e:ρ[n]? =some (a,d)),P (.ref a) (.ref n) (.ref e)) {v:Value}{x:V}(r:Rel ρ h v x):P v x r:=
 Rel.casesOn (motive_1:=P) r none bool int str tup ref
theorem Rel.sub(x:Sub ρ h aU h')(r:Rel ρ h v a):Rel aU h' v a:=
 Rel.rec (motive_1:=λv a af=>Rel aU h' v a) (motive_2:=λvs l af=>b8 aU h' vs l) .none (λb=>.bool b) (λi t=>.int i t) (λs t az=>.str s t az) (λoff e hl af aj=>.tup (x.2 _ _ _ off e).1 (x.2 _ _ _ off e).2 hl aj) (λe=>(x.1 _ _ _ e).elim λaf aG=>.ref aG) .nil (λaf aJ a b=>.cons a b) r
theorem b8.sub(x:Sub ρ h aU h')(r:b8 ρ h vs l):b8 aU h' vs l:=b8.ind (P:=λvs l af=>b8 aU h' vs l) .nil (λa af aj=>.cons (a.sub x) aj) r
theorem Rel.ext(x:Ext W ρ h aU h')(r:Rel ρ h v a):Rel aU h' v a:=r.sub x.sub
theorem b8.ext(x:Ext W ρ h aU h')(r:b8 ρ h vs l):b8 aU h' vs l:=r.sub x.sub
theorem f7.sub(x:Sub ρ h aU h')(r:f7 ρ h cj l):f7 aU h' cj l:=by
 induction r with
 |nil=>exact .nil
 |cons az r _ aj=>exact .cons az (r.sub x) aj
theorem ij.sub(x:Sub ρ h aU h')(r:ij ρ h xs l):ij aU h' xs l:=by
 induction r with
 |nil=>exact .nil
 |cons ar r _ aj=>obtain⟨off,vs,n,e⟩:=ar;exact .cons ⟨(x.2 _ _ _ off e).1,vs,n,(x.2 _ _ _ off e).2⟩ (r.sub x) aj
theorem ij.length(r:ij ρ h xs l):xs.length=l.length:=by
 induction r with
 |nil=>rfl
 |cons _ _ _ aj=>rw[pe,pe,aj]
theorem ij.rO(r:ij ρ h xs l):∀q∈xs,c9 ρ q.2.1/\∃vs n,h.get? q.2.1=I (dZ vs n):=by
 induction r with
 |nil=>exact λaf hm=>nomatch hm
 |cons ar _ _ aj=>exact λq hm=>(List.mem_cons.mp hm).elim (λe=>e ▸ ar) (aj q)
theorem f7.length(r:f7 ρ h cj l):cj.length=l.length:=by
 induction r with
 |nil=>rfl
 |cons _ _ _ aj=>rw[pe,pe,aj]
theorem f7.keys(r:f7 ρ h cj l):cj.map (·.1)=l.map (·.1):=by
 induction r with
 |nil=>rfl
 |cons _ _ _ aj=>rw[ea,ea,aj]
theorem b8.length{vs:List Value}{l:List V}(r:b8 ρ h vs l):vs.length=l.length:=b8.ind (P:=λvs l af=>vs.length=l.length) aa (λaf aJ aj=>by rw[pe,pe,aj]) r
theorem b8.append(r:b8 ρ h vs l)(s:b8 ρ h ws m):b8 ρ h (vs++ws) (l++m):=b8.ind (P:=λvs l af=>b8 ρ h (vs++ws) (l++m)) s (λa af aj=>.cons a aj) r
theorem b8.get{k:Nat}(r:b8 ρ h vs l):l[k]? =I x->∃v,vs[k]? =I v/\Rel ρ h v x:=by
 induction r using b8.ind generalizing k with
 |aE=>intro e;exact a5 e
 |h1 a r aj=>
  intro e
  induction k with
  |zero=>cases e;exact⟨_,aa,a⟩
  |succ k=>exact aj e
theorem b8.get_none{k:Nat}(r:b8 ρ h vs l)(e:l[k]? =U):vs[k]? =U:=by
 rw[List.getElem?_eq_none_iff]at e ⊢;rw[r.length];exact e
end
noncomputable abbrev At(H:Heap)(bj:Nat)(s:Shared):Shared:={ s with heap:=H,toks:=bj }
section
variable (ab:eG)
inductive o2(W:List Addr)(ρ:Map)(s:Shared)(ag:aN)(R:Map->Heap->Prop)(s':Shared):Prop
 |mk(aU:Map)(h':Heap)(bj:Nat)(e:s'=(At h' bj s))(i:Inv ab ag aU h')(x:Ext W ρ s.heap aU h')(r:R aU h'):o2 W ρ s ag R s'
def ah(W:List Addr)(ρ:Map)(s:Shared)(A:Around){α β:Type}(R:α->Map->Heap->β->Prop)(t:Sem β)(r:Res α):Prop:=
 match r with
 |.bad=>True
 |.ok a ag=>wpAny (model ab.prog ab.w) A t (λb s'=>o2 ab W ρ s ag (λaU h'=>R a aU h' b) s') (λaf aJ=>False) s
end
section
variable {ab:eG}{A:Around}{W:List Addr}{ρ:Map}{s:Shared}{α β a6 HZ:Type}{σ:aN}
theorem o2.mono(h:∀aU h',R aU h'->qc aU h'):o2 ab W ρ s ag R s'->o2 ab W ρ s ag qc s':=
 λa8=>by obtain⟨aU,h',bj,e,i,x,r⟩:=a8;exact⟨aU,h',bj,e,i,x,h _ _ r⟩
theorem o2.after(x:Ext W ρ s.heap a7 H):o2 ab W a7 (At H bj s) ag R s'->o2 ab W ρ s ag R s':=
 λa8=>by obtain⟨aU,h',bj,e,i,il,r⟩:=a8;exact⟨aU,h',bj,e,i,x.trans il,r⟩
theorem ah.bind{t:Sem β}{f:β->Sem a6}{m:M α}{k:α->M HZ}{R:α->Map->Heap->β->Prop}{qc:HZ->Map->Heap->a6->Prop}
  (h1:ah ab W ρ s A R t (m σ))
  (h2:∀a bl a7 H bj b,Inv ab bl a7 H->Ext W ρ s.heap a7 H->R a a7 H b->ah ab W a7 (At H bj s) A qc (f b) (k a bl)) :
  ah ab W ρ s A qc (t>>=f) ((m>>=k) σ):=by
 rw[run_bind]
 induction e:m σ with
 |bad=>exact aL
 |ok a bl=>
  rw[e]at h1
  change ah ab W ρ s A qc (t>>=f) (k a bl)
  have go:∀(Q:a6->Shared->Prop) (E:Value->Shared->Prop),(∀b a7 H bj,Ext W ρ s.heap a7 H->ah ab W a7 (At H bj s) A qc (f b) (k a bl)->wpAny (model ab.prog ab.w) A (f b) Q E (At H bj s))->wpAny (model ab.prog ab.w) A (t>>=f) Q E s:=λQ E aH=>
   a0 (ei h1 (λb s' hp=>by
    obtain⟨a7,H,bj,rfl,i,x,r⟩:=hp;exact aH b a7 H bj x (h2 a bl a7 H bj b i x r)) λaf aJ h'=>h'.elim)
  induction ay:k a bl with
  |bad=>exact aL
  |ok d dt=>
   refine go _ _ λb a7 H bj x az=>?_;rw[ay]at az;exact ei az (λaf aJ hp=>hp.after x) λaf aJ f=>f
theorem ah.ret(i:Inv ab σ ρ s.heap)(r:R a ρ s.heap b) :
  ah ab W ρ s A R (Pure.pure b:Sem β) ((Pure.pure a:M α) σ):=
 cz ⟨ρ,s.heap,s.toks,aa,i,Ext.refl,r⟩
theorem ah.weak(h:ah ab W ρ s A R t r)(hw:∀b∈W,b∈W'\/s.heap.get? b=U) :
  ah ab W' ρ s A R t r:=by
 induction r with
 |bad=>exact aL
 |ok a ag=>exact ei h (λb s' a8=>by obtain⟨aU,h',bj,e,i,x,r⟩:=a8;exact⟨aU,h',bj,e,i,x.weak hw,r⟩) λaf aJ x=>x
theorem ah.ahead(aP:∀(Q:PUnit->Shared->Prop) (E:Value->Shared->Prop),Q ⟨⟩ s->wpAny (model ab.prog ab.w) A t Q E s)
  (h:ah ab W ρ s A R (f ⟨⟩) r):ah ab W ρ s A R (t>>=f) r:=by
 induction r with
 |bad=>exact aL
 |ok a ag=>exact a0 (aP _ _ h)
theorem ah.standAt(h:ah ab W ρ s A R (f ⟨⟩) r) :
  ah ab W ρ s A R (PySem.standAt p>>=f) r:=ah.ahead (λaf aJ aH=>yA aH) h
theorem ah.holding(h:ah ab W ρ s A R t r) :
  ah ab W ρ s A R (PySem.holding vs t) r:=by
 induction r with
 |bad=>exact aL
 |ok a ag=>exact k5 h
theorem ah.of_wp
  (h:wpAny (model ab.prog ab.w) A t (λb s'=>o2 ab W ρ s ag (λaU h'=>R a aU h' b) s') (λaf aJ=>False) s):ah ab W ρ s A R t (.ok a ag):=h
end
end Mine.Internal

set_option backward.match.sparseCases false
namespace Mine.Internal
open PySem
def iW(C:Cfg)(elt target:Expr)(ifs:List Expr)(scope:Scope)(s:Src)(ns:cC)(loc:Loc):M V:=
 if jm s target&&hs scope.kind scope.names then
  s.count>>=λn=>(if n<=sizeLine then (fL ns loc scope.names>>=λbP=>
  compLoop s (bindTo (fJ (cx ns scope.names)) target) (tests C ifs (cx ns scope.names)) (ev C elt (cx ns scope.names)) (n+1) 0 bP>>=λl=>
  cH (.list l)) else M.bad)
 else M.bad
def iV(C:Cfg)(target:Expr)(body:List Stmt)(s:Src)(ns:cC)(loc:Loc):M (bE×Loc):=
 if jm s target then s.count>>=λn=>forLoop s (bindTo (stLoc ns) target) (dw C body ns) (n+1) 0 loc else M.bad
def qA(C:Cfg)(t:Expr)(body:List Stmt)(ns:cC)(loc:Loc):M (bE×Loc):=tT (λl=>ep C t ns l (ev C t ns l)) (dw C body ns) loc
noncomputable def fZ{α:Type}(C:Cfg)(nq:List Stmt)(ns:cC)(loc:Loc)(K:bE×Loc->M α):M α:=dw C nq ns loc>>=K
def dN(r:bE×Loc):M V:=pure (match r.1 with|.ret v=>v|_=>.none)
noncomputable def dg(l:List Stmt)(i:Nat):Stmt:=(l[i]?).getD (.Pass ⟨0,0,0,0⟩)
noncomputable def qS:Expr:=.Constant .none 0 ⟨0,0,0,0⟩
def mG(l:List Expr)(i:Nat):Expr:=(l[i]?).getD qS
def fz:Stmt->Expr
 |.Assign _ v _=>v
 |.Return (some v) _=>v
 |.Expr v _=>v
 |.For _ i _ _ _=>i
 |.If t _ _ _=>t
 |.While t _ _ _=>t
 |_=>qS
def dM:Stmt->Expr
 |.For t _ _ _ _=>t
 |.Assign ts _ _=>mG ts 0
 |_=>qS
noncomputable def cY:Stmt->List Stmt
 |.For _ _ b _ _=>b
 |.If _ b _ _=>b
 |.While _ b _ _=>b
 |.Try b _ _ _ _=>b
 |_=>[]
noncomputable def agb:Stmt->List Stmt
 |.If _ _ b _=>b
 |_=>[]
def jO(e:Expr)(i:Nat):Expr:=match e with
 |.BoolOp _ vs _=>mG vs i
 |.BinOp l _ r _=>mG [l,r] i
 |.UnaryOp _ x _=>x
 |.IfExp t a b _=>mG [t,a,b] i
 |.Compare l _ rs _=>mG (l::rs) i
 |.Call f as _ _=>mG (f::as) i
 |.Attribute o _ _=>o
 |.Subscript o j _=>mG [o,j] i
 |.Slice lo aI st _=>mG [lo.getD qS,aI.getD qS,st.getD qS] i
 |.List aW _=>mG aW i
 |.Dict cm vs _=>mG (cm.map (·.getD qS)++vs) i
 |.Tuple aW _ _=>mG aW i
 |.ListComp elt gs _ _=>mG (elt::gs.flatMap λg=>g.iter::g.target::g.ifs) i
 |_=>qS
def fR(e:Expr):Expr:=jO e 0
def agR(e:Expr):Expr:=jO e 1
def fP(e:Expr):Expr:=jO e 2
noncomputable def fQ:Expr->List Expr
 |.ListComp _ [g] _ _=>g.ifs
 |_=>[]
noncomputable def bQ:Expr->Scope
 |.ListComp _ _ s _=>s
 |_=>default
end Mine.Internal

set_option backward.match.sparseCases false
namespace Mine.Internal
open PySem PyProof.Rows
noncomputable def defOf(d:DefRec):Str×dn:=(d.name,⟨d.params.args.map (·.arg),d.scope.names,d.body⟩)
def Nq(q:Program):List (Str×dn):=(recsOf q).map defOf
noncomputable def DL(q:Program)(loose:List Str):List (ClsRec×MethRec):=(plainsOf q loose).flatMap λc=>c.meths.map λm=>(c,m)
noncomputable def DW(m:MethRec):dn:=⟨m.params.args.map (·.arg),m.scope.names,m.body⟩
def Ut(q:Program)(loose:List Str):List (Str×dn):=(DL q loose).map λp=>(jq p.1.name p.2.name,DW p.2)
noncomputable def Zh(cs:List (Str×List Str×List Str)):Str->Option (List Str×List Str):=λx=>cs.lookup x
noncomputable def MO(tab:List (Str×dn)):Str->Option dn:=λx=>tab.lookup x
def A5(T:ih)(d:Nat):Cfg:=⟨λx=>(T.fns x).isSome,ro T d,T.glob,T.cls⟩
noncomputable def UI:PyData->Option V
 |.none=>I .none
 |.bool b=>I (.bool b)
 |.int i=>I (.int i)
 |.str s=>if hu s then I (.str s) else U
 |_=>U
def MH(q:Program):Str->Option V:=λx=>(valOf q x).bind UI
noncomputable def globT(gs:List (Str×V)):Str->Option V:=λx=>gs.lookup x
noncomputable def intOf:V->Option Int
 |.int a=>I a
 |_=>U
noncomputable def strOf:V->Option Str
 |.str a=>I a
 |_=>U
def Dj(o:Option V)(v:V):Bool:=((intOf v).isSome&&(o.bind intOf==intOf v)) || ((strOf v).isSome&&(o.bind strOf==strOf v))
def WV(q:Program)(gs:List (Str×V)):Bool:=gs.all λp=>Dj (MH q p.1) p.2
def CQ(tab mtab:List (Str×dn))(gs:List (Str×V))(cs:List (Str×List Str×List Str)):ih:=⟨MO tab,MO mtab,globT gs,Zh cs⟩
def O0(T:ih)(d:Nat):Prop:=∀zs:List Int,zs.length<=63->∃σ,ro T d "law" [.ref 0] [.list (zs.map .int)]=.ok (.bool aw) σ
end Mine.Internal

section
variable {ab:Mine.Internal.eG}{A:PySem.Around}{W:List PySem.Addr}{ρ:Mine.Internal.Map}{s:PySem.Shared}{σ:Mine.Internal.aN}{env:PySem.Env}{ns:Mine.Internal.cC}{tx:Mine.Internal.ih}{C:Mine.Internal.Cfg}

set_option backward.match.sparseCases false
namespace Mine.Internal
open PySem PyProof.Rows
theorem Dd:∀{ns:cC}{i j:Nat}{k:NameKind},mA ns x i=I (j,k)->ns.lookup x=I k:=by
 intro cO
 induction cO with
 |nil=>
  intro _ _ _ h;exact a5 h
 |cons pr r Dd=>
  obtain⟨y,eo⟩:=pr;intro i j k h;rw[t9]at h;rw[gx]
  split at h
  ·rename_i he;rw[he];cases h;rfl
  ·rename_i he;rw[he];exact Dd h
theorem wq(h:slot ns x=I (j,k)):ns.lookup x=I k:=Dd h
theorem zk:∀{ns:cC}{i j:Nat}{k:NameKind},mA ns x i=I (j,k)->i<=j:=by
 intro cO
 induction cO with
 |nil=>
  intro _ _ _ h;exact a5 h
 |cons pr r zk=>
  obtain⟨y,eo⟩:=pr;intro i j k h;rw[t9]at h
  split at h
  ·cases h;exact bx _
  ·exact HE (zk h)
set_option tactic.hygienic true in
theorem De:∀{ns:cC}{i j:Nat}{k eo:NameKind},mA ns x i=I (j,k)->mA ns y i=I (j,eo)->x=y:=by
 intro cO
 induction cO with
 |nil=>
  intro _ _ _ _ h _;exact a5 h
 |cons pr r De=>
  obtain⟨z,sl⟩:=pr;intro i j k eo h h';rw[t9]at h h'
  split at h <;> split at h'
  ·rename_i av _ ay;exact(beq_iff_eq.mp av).trans (beq_iff_eq.mp ay).symm
  ·cases h;exact absurd (zk h') (ae6 _)
  ·cases h';exact absurd (zk h) (ae6 _)
  ·exact De h h'
theorem zj(h:slot ns x=I (j,k))(h':slot ns y=I (j,eo)):x=y:=De h h'
structure c7(ab:eG)(env:Env)(ns:cC)(loc:Loc)(ρ:Map)(h:Heap):Prop where
 names:env.scope.names=ns
 kind:env.scope.kind=.function
 globals:env.globals=mainGlobals
 kk:env.builtins=builtinsNs
 vars:∃m,h.Ns env.locals m/\∀x i v,slot ns x=I (i,.local)->loc[i]? =I (I v)->∃val,m x=I val/\Rel ρ h val v
 cell:∀x i,slot ns x=I (i,.cell)->∃c o,env.cells.lookup x=I c/\h.IsCell c o/\∀v,loc[i]? =I (I v)->∃val,o=I val/\Rel ρ h val v
 live:∀x c,env.cells.lookup x=I c->∃o,h.IsCell c o
 kI:c9 ρ env.locals
 h5:∀x c,env.cells.lookup x=I c->c≠env.locals/\c9 ρ c
 apart:∀x y c,env.cells.lookup x=I c->env.cells.lookup y=I c->x=y
noncomputable def eg(env:Env):List Addr:=env.locals::env.scope.names.filterMap λp=>env.cells.lookup p.1
def pF(env:Env)(b:Addr):Prop:=b≠env.locals/\∀y c,env.cells.lookup y=I c->b≠c
section
variable {aU:Map}{h h':Heap}{loc:Loc}
theorem mem_of_lookup{α:Type}:∀{l:List (Str×α)}{n:Str}{c:α},l.lookup n=I c->(n,c)∈l:=by
 intro cO
 induction cO with
 |nil=>
  intro _ _ h;exact a5 h
 |cons pr r mem_of_lookup=>
  obtain⟨k,v⟩:=pr;intro n c h;rw[gx]at h
  split at h
  ·rename_i e
   cases h;rw[beq_iff_eq.mp e];exact b9 ..
  ·exact dz _ (mem_of_lookup h)
theorem Xe(hm:(x,k)∈env.scope.names)(aA:env.cells.lookup x=I c):c∈eg env:=dz _ (PL.mpr ⟨(x,k),hm,aA⟩)
theorem pF.Kv(h:pF env b):b∉eg env:=λhm=>by
 rcases List.mem_cons.mp hm with rfl|hm
 ·exact h.1 aa
 ·obtain⟨⟨x,k⟩,_,aA⟩:=PL.mp hm;exact h.2 x b aA aa
theorem c7.Kq(F:c7 ab env ns loc ρ h)(hd:h.get? b=U):pF env b:=by
 refine⟨λe=>?_,λy c aA e=>?_⟩
 ·obtain⟨m,⟨o,aW,dI,ho,r⟩,aM⟩:=F.vars;rw[<-e,hd]at ho;exact a5 ho
 ·obtain⟨_,o,ho,_⟩:=F.live y c aA;rw[<-e,hd]at ho;exact a5 ho
theorem Ext.Ku(x:Ext W ρ h aU h')(ao:h.Ns a m)(g6:a∉W)(off:c9 ρ a):h'.Ns a m:=by
 obtain⟨o,aW,dI,ho,hd,r⟩:=ao;exact⟨o,aW,dI,x.keep _ _ ho g6 off,hd,r⟩
theorem Ext.cell(x:Ext W ρ h aU h')(ao:h.IsCell a v)(g6:a∉W)(off:c9 ρ a):h'.IsCell a v:=by
 obtain⟨o,ho,hd⟩:=ao;exact⟨o,x.keep _ _ ho g6 off,hd⟩
theorem c7.ext(F:c7 ab env ns loc ρ h)(x:Ext W ρ h aU h')(g6:∀b∈W,pF env b):c7 ab env ns loc aU h' where
 names:=F.names
 kind:=F.kind
 globals:=F.globals
 kk:=F.kk
 vars:=by
  refine aB λae=>?_;obtain⟨m,ao,aM⟩:=F.vars;refine ae ⟨m,x.Ku ao (λhm=>(g6 _ hm).1 aa) F.kI,λy i v h1 h2=>?_⟩;refine aB λae=>?_;obtain⟨val,e,aX⟩:=aM y i v h1 h2;exact ae ⟨val,e,aX.ext x⟩
 cell:=λy i h1=>by
  refine aB λae=>?_;obtain⟨c,o,e,aA,aM⟩:=F.cell y i h1;refine ae ⟨c,o,e,x.cell aA (λhm=>(g6 _ hm).2 y c e aa) (F.h5 y c e).2,λv hl=>?_⟩;refine aB λae=>?_;obtain⟨val,aG,aX⟩:=aM v hl;exact ae ⟨val,aG,aX.ext x⟩
 live:=λy c e=>by
  obtain⟨o,aA⟩:=F.live y c e;exact⟨o,x.cell aA (λhm=>(g6 _ hm).2 y c e aa) (F.h5 y c e).2⟩
 kI:=by
  refine aB λae=>?_;obtain⟨m,⟨o,aW,dI,ho,r⟩,aM⟩:=F.vars;exact ae (c9.ext x ho F.kI)
 h5:=λy c e=>by
  refine aB λae=>?_;obtain⟨_,o,ho,_⟩:=F.live y c e;exact ae ⟨(F.h5 y c e).1,c9.ext x ho (F.h5 y c e).2⟩
 apart:=F.apart
end
structure e4(A:Around)(n:Nat):Prop where
 handled:A.handled=U
 depth:A.depth+2*n<recursionLimit
 units:A.units+16*n+300<cLine
structure vr(A:Around)(n:Nat):Prop where
 handled:A.handled=U
 depth:A.depth+2*n<=recursionLimit
 units:A.units+16*n+290<cLine
section
variable {aU:Map}{h h':Heap}
theorem jU.sub(r:jU ab ρ h p o)(x:Sub ρ h aU h')(h1:∀b2,h.get? p.1=I b2->h'.get? p.1=I b2):jU ab aU h' p o:=by
 induction o with
 |list l=>
  refine aB λae=>?_;obtain⟨vs,n,g,hl,bf⟩:=r;exact ae ⟨vs,n,h1 _ g,hl,bf.sub x⟩
 |dict v l=>
  refine aB λae=>?_;obtain⟨e,az,cj,⟨b2,aW,dI,g,rest⟩,hl,bf⟩:=r;exact ae ⟨e,az,cj,⟨b2,aW,dI,h1 _ g,rest⟩,hl,bf.sub x⟩
 |inst c k=>
  refine aB λae=>?_;obtain⟨C,b2,di,d,aA,g,h3,bY,c0,dH,e⟩:=r;obtain⟨f3,aG⟩:=x.1 _ _ _ e;exact ae ⟨C,b2,di,f3,aA,h1 _ g,h3,bY,c0,dH,aG⟩
 |bT l=>
  refine aB λae=>?_;obtain⟨hl,fC,⟨b2,aW,dI,g,rest⟩,f⟩:=r;refine ae ?_;exact⟨hl,fC,⟨b2,aW,dI,h1 _ g,rest⟩,λy a e=>by obtain⟨v,aG,fA⟩:=f.has y a e;exact⟨v,aG,fA.sub x⟩,f.no⟩
 |eC v l=>
  refine aB λae=>?_;obtain⟨e,az,xs,⟨b2,aW,dI,g,h3,bY,c0,dH,sU⟩,hl,bf⟩:=r;refine ae ⟨e,az,xs,⟨b2,aW,dI,h1 _ g,h3,bY,c0,λq aH=>?_,sU⟩,hl,bf.sub x⟩;refine aB λae=>?_;obtain⟨o,items,n,ho,r⟩:=dH q aH;obtain⟨off,vs,m,e⟩:=bf.rO q aH;refine ae ?_;replace ho:=e ▸ ho;cases ho;exact⟨_,items,n,((x.2 _ _ _ off e).2),r⟩
 |cache=>
  refine aB λae=>?_;obtain⟨vs,n,g⟩:=r;exact ae ⟨vs,n,h1 _ g⟩
theorem jU.ext(r:jU ab ρ h p o)(x:Ext W ρ h aU h')(h1:∀b2,h.get? p.1=I b2->h'.get? p.1=I b2):jU ab aU h' p o:=r.sub x.sub h1
theorem jU.live(r:jU ab ρ h p o):∃b2,h.get? p.1=I b2:=by
 induction o with
 |list l=>
  obtain⟨vs,n,g,hl,bf⟩:=r;exact⟨_,g⟩
 |dict v l=>
  obtain⟨e,az,cj,⟨b2,aW,dI,g,rest⟩,hl,bf⟩:=r;exact⟨_,g⟩
 |inst c k=>
  obtain⟨C,b2,di,d,aA,g,_⟩:=r;exact⟨_,g⟩
 |bT l=>
  obtain⟨hl,fC,⟨b2,aW,dI,g,rest⟩,f⟩:=r;exact⟨_,g⟩
 |eC v l=>
  obtain⟨e,az,cj,⟨b2,aW,dI,g,rest⟩,hl,bf⟩:=r;exact⟨_,g⟩
 |cache=>
  obtain⟨vs,n,g⟩:=r;exact⟨_,g⟩
theorem Inv.lt(i:Inv ab σ ρ h){n:Nat}(e:ρ[n]? =I p):∃o,σ[n]? =I o:=by
 have hl:n<ρ.length:=by
  rcases i4 n ρ.length with hl|hl
  ·exact hl
  ·rw[hW hl]at e;exact a5 e
 exact⟨_,cD (i.len ▸ hl)⟩
theorem Inv.alive(i:Inv ab σ ρ h)(hp:p∈ρ):∃b2,h.get? p.1=I b2:=by
 obtain⟨n,ao⟩:=PS hp;obtain⟨o,ho⟩:=i.lt ao;exact(i.objs n o p ho ao).live
theorem Inv.keep(i:Inv ab σ ρ h)(x:Ext W ρ h ρ h')(g6:∀b∈W,c9 ρ b/\ab.get? b=U)(ar:∀b o,h.get? b=I o->b∉W->h'.get? b=I o):Inv ab σ ρ h' where
 base:=λb o e=>ar b o (i.base b o e) λhm=>by rw[(g6 b hm).2]at e;exact a5 e
 len:=i.len
 objs:=λn o p av ay=>(i.objs n o p av ay).ext x (λb2 g=>ar _ _ g λhm=>(g6 _ hm).1 p (ee ay) aa)
 fresh:=i.fresh
 apart:=i.apart
theorem Inv.keeps(i:Inv ab σ ρ h)(ar:∀b o,h.get? b=I o->h'.get? b=I o):Inv ab σ ρ h':=
 i.keep (W:=[]) (Ext.of_keeps ar) (λaf hm=>nomatch hm) λb o e af=>ar b o e
theorem u3:h.get? h.objs.size=U:=by
 induction e:h.get? h.objs.size with
 |none=>rfl
 |some o=>exact absurd (Heap.lt_size e) (vO _)
theorem Inv.mF(i:Inv ab σ ρ h):c9 ρ h.objs.size:=λp hp=>by
 obtain⟨bS,av⟩:=i.alive hp;exact λe=>absurd (Heap.lt_size av) (e ▸ vO _)
theorem wo(e:(ρ++[q])[n]? =I p):ρ[n]? =I p\/(n=ρ.length/\p=q):=by
 rcases i4 n ρ.length with hl|hl
 ·replace e:=pf hl ▸ e;exact .inl e
 ·replace e:=j0 hl ▸ e;rcases aff (n-ρ.length) with hz|hz
  ·replace e:=hz ▸ e;cases e;exact .inr ⟨iF (Nat.le_of_sub_eq_zero hz) hl,aa⟩
  ·rw[hW (by simp;exact hz)]at e;exact a5 e
theorem Si{n:Nat}(e:ρ[n]? =I p):(ρ++[q])[n]? =I p:=by
 rw[pf (by rcases i4 n ρ.length with hl|hl;exact hl;rw[hW hl]at e;exact a5 e)];exact e
theorem Inv.grow(i:Inv ab σ a7 dE)(y:Sub a7 dE (a7++[(a,0)]) h')(ar:∀b o,dE.get? b=I o->h'.get? b=I o)(hJ:c9 a7 a)(aE:ab.get? a=U)(ho:jU ab (a7++[(a,0)]) h' (a,0) o) :
  Inv ab (σ++[o]) (a7++[(a,0)]) h':=by
 refine⟨λb o e=>ar _ _ (i.base b o e),by simp [i.len],λn o' p av ay=>?_,λn p hp ao=>?_,λj k p q av ay sL=>?_⟩
 ·rcases wo ay with ay|⟨rfl,rfl⟩
  ·have hl:n<σ.length:=by
    rcases i4 n a7.length with hl|hl
    ·rw[<-i.len];exact hl
    ·replace ay:=hW hl ▸ ay;exact a5 ay
   replace av:=pf hl ▸ av;exact(i.objs n o' p av ay).sub y (λb2 g=>ar _ _ g)
  ·replace av:=(ky ..) ▸ (j0 (bx _) ..) ▸ (i.len ..) ▸ av;cases av;exact ho
 ·rcases wo hp with hp|⟨_,rfl⟩
  ·exact i.fresh n p hp ao
  ·exact aE
 ·rcases wo av with av|⟨rfl,rfl⟩ <;> rcases wo ay with ay|⟨rfl,rfl⟩
  ·exact i.apart j k p q av ay sL
  ·exact(hJ p (ee av)).symm
  ·exact hJ q (ee ay)
  ·exact absurd aa sL
theorem Ext.grow(x:Ext W ρ dE a7 h')(aV:dE.get? a=U):Ext W ρ dE (a7++[(a,0)]) h':=by
 refine⟨λn b v e=>?_,x.keep,x.kM,λj p e bh=>?_⟩
 ·obtain⟨v',aG,r⟩:=x.pre n b v e;exact⟨v',Si aG,r⟩
 ·rcases wo e with e|⟨_,rfl⟩
  ·exact x.new j p e bh
  ·exact aV
theorem Inv.more(i:Inv ab σ a7 h')(x:Ext W ρ dE a7 h')(aV:dE.get? a=U)(xn:∀vs n,h'.get? a≠I (dZ vs n))(hJ:c9 a7 a)(aE:ab.get? a=U)(ho:jU ab (a7++[(a,0)]) h' (a,0) o) :
  Inv ab (σ++[o]) (a7++[(a,0)]) h'/\Ext W ρ dE (a7++[(a,0)]) h':=⟨i.grow (.snoc xn) (λaf aJ e=>e) hJ aE ho,x.grow aV⟩
theorem Inv.new(i:Inv ab σ ρ h)(ar:∀b o,h.get? b=I o->h'.get? b=I o)(aV:h.get? a=U)(ho:Ext W ρ h (ρ++[(a,0)]) h'->jU ab (ρ++[(a,0)]) h' (a,0) o) :
  Inv ab (σ++[o]) (ρ++[(a,0)]) h'/\Ext W ρ h (ρ++[(a,0)]) h':=by
 have x:Ext W ρ h (ρ++[(a,0)]) h':=(Ext.of_keeps ar).grow aV;exact⟨i.grow x.sub ar (λp hp e=>by obtain⟨bS,av⟩:=i.alive hp;rw[<-e,aV]at av;exact a5 av)
  (by cases e:ab.get? a with|none=>rfl|some o=>rw[i.base _ _ e]at aV;exact fU aV) (ho x),x⟩
theorem wu(e:(ρ.set n q)[m]? =I p):(m=n/\p=q)\/(m≠n/\ρ[m]? =I p):=by
 by_cases hm:m=n
 ·subst hm;rcases i4 m ρ.length with hl|hl
  ·replace e:=yK hl ▸ e;cases e;exact .inl ⟨aa,aa⟩
  ·rw[hW (by simpa using hl)]at e;exact a5 e
 ·replace e:=oo (kv hm) ▸ e;exact .inr ⟨hm,e⟩
theorem Inv.put(i:Inv ab σ ρ h)(dA:0<n)(ao:ρ[n]? =I (a,v))(aM:v<=v')(oO:v'=v->∀b2,h.get? a=I b2->¬tD b2)(ar:∀b b2,b≠a->h.get? b=I b2->h'.get? b=I b2)(xn:∀vs n,h.get? a≠I (dZ vs n))(E8:∃wU,h'.get? a=I wU)
  (ho:Ext W ρ h (ρ.set n (a,v')) h'->jU ab (ρ.set n (a,v')) h' (a,v') o):Inv ab (σ.set n o) (ρ.set n (a,v')) h'/\Ext W ρ h (ρ.set n (a,v')) h':=by
 have fu:n<ρ.length:=by
  rcases i4 n ρ.length with hl|hl
  ·exact hl
  ·replace ao:=hW hl ▸ ao;exact a5 ao
 have ak:Ext W ρ h (ρ.set n (a,v')) h':=
  {pre:=λm b u e=>by
    by_cases hm:m=n
    ·subst hm;replace e:=ao ▸ e;cases e;exact⟨v',yK fu,aM,λq o g d=>absurd d (oO q o g)⟩
    ·exact⟨u,by rw[oo (kv hm)];exact e,bx _,λaf o g aJ=>ar b o (i.apart m n _ _ e ao hm) g⟩
   keep:=λb b2 e af au=>ar b b2 (λeq=>au _ (ee ao) eq) e
   kM:=λb b2 e=>by
    by_cases au:b=a
    ·obtain⟨o',aG⟩:=E8;rw[au]at e ⊢;exact⟨o',aG,⟨λvs n eq=>absurd (eq ▸ e) (xn vs n)⟩⟩
    ·exact⟨b2,ar b b2 au e,.refl⟩
   new:=λj p e bh=>by rw[hW (by simpa using bh)]at e;exact a5 e }
 refine⟨⟨λb b2 e=>ar b b2 (λeq=>?_) (i.base b b2 e),by simp [i.len],λm o' p av ay=>?_,λm p hp hm=>?_,λj k p q av ay sL=>?_⟩,ak⟩
 ·have:=i.fresh _ _ ao dA;replace e:=eq ▸ e;replace this:=e ▸ this;exact fU this
 ·rcases wu ay with ⟨rfl,rfl⟩|⟨hm,ay⟩
  ·replace av:=yK (i.len ▸ fu) ▸ av;cases av;exact ho ak
  ·replace av:=oo (kv hm) ▸ av;exact(i.objs m o' p av ay).ext ak (λb2 g=>ar _ _ (i.apart m n p (a,v) ay ao hm) g)
 ·rcases wu hp with ⟨rfl,rfl⟩|⟨_,hp⟩
  ·exact i.fresh m (a,v) ao hm
  ·exact i.fresh m p hp hm
 ·rcases wu av with ⟨rfl,rfl⟩|⟨h1,kZ⟩
  ·rcases wu ay with ⟨rfl,rfl⟩|⟨h2,ve⟩
   ·exact absurd aa sL
   ·exact i.apart j k (a,v) q ao ve sL
  ·rcases wu ay with ⟨rfl,rfl⟩|⟨h2,ve⟩
   ·exact i.apart j k p (a,v) kZ ao sL
   ·exact i.apart j k p q kZ ve sL
theorem Inv.set(i:Inv ab σ ρ h)(dA:0<n)(ao:ρ[n]? =I (a,v))(oO:∀b2,h.get? a=I b2->¬tD b2)(ar:∀b b2,b≠a->h.get? b=I b2->h'.get? b=I b2)(xn:∀vs n,h.get? a≠I (dZ vs n))(E8:∃wU,h'.get? a=I wU)
  (ho:Ext W ρ h ρ h'->jU ab ρ h' (a,v) o):Inv ab (σ.set n o) ρ h'/\Ext W ρ h ρ h':=by
 have e:ρ.set n (a,v)=ρ:=by
  apply PU
  intro m;by_cases hm:m=n
  ·subst hm;rw[ao,yK (by rcases i4 m ρ.length with hl|hl;exact hl;rw[hW hl]at ao;exact a5 ao)]
  ·rw[oo (kv hm)]
 have:=i.put (W:=W) (v':=v) (o:=o) dA ao (bx _) (λaf=>oO) ar xn E8 (by rw[e];exact ho);rw[e]at this;exact this
end
theorem UU(h:tD o):og o o' where
 tup:=λvs n e=>by
  obtain⟨_,_,h⟩:=h;replace h:=e ▸ h;cases h
theorem UT:og (en vs n) o' where
 tup:=λws m e=>by simp [en,dZ]at e
theorem oI{h:Heap}{a:Addr}{vs:List Value}{n:Nat}(g:h.get? a=I (en vs n))(ws:List Value)(m:Nat):h.get? a≠I (dZ ws m):=λe=>by
 rw[g]at e;injection e with e;injection e with e;exact absurd (yD e) (by decide)
theorem Gf{h:Heap}{a:Addr}{o:Obj}(g:h.get? a=I o)(d:tD o)(ws:List Value)(m:Nat):h.get? a≠I (dZ ws m):=λe=>by
 replace e:=g ▸ e;cases e;obtain⟨_,_,d⟩:=d;cases d
def cW:V->Map->Heap->Value->Prop:=λv ρ h b=>Rel ρ h b v
def vu:Bool->Map->Heap->Bool->Prop:=λv af aJ b=>b=v
def G1:List V->Map->Heap->List Value->Prop:=λl ρ h vs=>b8 ρ h vs l
section
variable {α β:Type}
theorem ah.same(i:Inv ab σ ρ s.heap)
  (h:∀(Q:β->Shared->Prop) (E:Value->Shared->Prop),(∀b bj,R a ρ s.heap b->Q b { s with toks:=bj })->wpAny (model ab.prog ab.w) A t Q E s):ah ab W ρ s A R t (.ok a σ):=
 h _ _ λb bj r=>⟨ρ,s.heap,bj,aa,i,Ext.refl,r⟩
theorem ah.grown(i:Inv ab σ ρ s.heap)
  (h:∀(Q:β->Shared->Prop) (E:Value->Shared->Prop),(∀b h' bj,(∀c o,s.heap.get? c=I o->h'.get? c=I o)->R a ρ h' b->Q b (At h' bj s))->wpAny (model ab.prog ab.w) A t Q E s) :
  ah ab W ρ s A R t (.ok a σ):=
 h _ _ λb h' bj ar r=>⟨ρ,h',bj,aa,i.keeps ar,Ext.of_keeps ar,r⟩
theorem ah.newTuple(i:Inv ab σ ρ s.heap)(r:b8 ρ s.heap vs l)(hl:l.length<=sizeLine):ah ab W ρ s A cW (PySem.newTuple vs) (.ok (.tup l) σ):=by
 have hlen:=r.length;have ar:∀b o,s.heap.get? b=I o->(s.heap.push (dZ vs 0)).get? b=I o:=λb o e=>fH _ e;refine ah.grown i λQ E br=>?_;refine qj (T := "tuple") (br _ (s.heap.push (dZ vs 0)) s.toks ar ?_) (by refine(?_:vs.toArray.size<=sizeLine);rw[List.size_toArray,r.length];exact hl);exact Rel.tup (n:=0) i.mF (gR _ aa) (by exact cb 0x298202182229021 aa hl hlen) (r.ext (W:=[]) (Ext.of_keeps ar))
theorem ah.newList(i:Inv ab σ ρ s.heap)(r:b8 ρ s.heap vs l)(hl:l.length<=sizeLine):ah ab W ρ s A cW (PySem.newList vs) (cH (.list l) σ):=by
 have hlen:=r.length;have ar:∀b o,s.heap.get? b=I o->(s.heap.push (en vs 0)).get? b=I o:=λb o e=>fH _ e;have cg:=i.new (W:=W) (o:=.list l) ar u3 λx=>⟨vs,0,gR _ aa,by exact cb 0x298202182229021 aa hl hlen,r.ext x⟩;refine qj (T := "list") ⟨ρ++[(s.heap.objs.size,0)],s.heap.push (en vs 0),s.toks,aa,cg.1,cg.2,?_⟩ (by refine(?_:vs.toArray.size<=sizeLine);rw[List.size_toArray,r.length];exact hl);refine Rel.ref (d:=0) ?_;rw[<-i.len,j0 (bx _),ky];rfl
theorem ah.wW(i:Inv ab σ ρ s.heap)
  (h:∀(Q:Value->Shared->Prop) (E:Value->Shared->Prop),(∀a vs n h' bj,(∀c o,s.heap.get? c=I o->h'.get? c=I o)->s.heap.get? a=U->h'.get? a=I (en vs n)->vs.length<=sizeLine ->
   b8 ρ h' vs l->Q (.ref a) (At h' bj s))->wpAny (model ab.prog ab.w) A t Q E s):ah ab W ρ s A cW t (cH (.list l) σ):=by
 refine h _ _ λa vs n h' bj ar aV hg hl r=>?_;have cg:=i.new (W:=W) (o:=.list l) (h':=h') ar aV λaf=>⟨vs,n,hg,hl,r.sub (.snoc (oI hg))⟩;exact⟨ρ++[(a,0)],h',bj,aa,cg.1,cg.2,Rel.ref (d:=0) (by rw[<-i.len,j0 (bx _),ky];rfl)⟩
theorem ah.TZ(i:Inv ab σ ρ s.heap)
  (h:∀(Q:Value->Shared->Prop) (E:Value->Shared->Prop),(∀a cj h' bj,(∀c o,s.heap.get? c=I o->h'.get? c=I o)->s.heap.get? a=U->(a==sysModules)=aS->h'.DictOf (keyKind ab.prog ab.w) a cj->cj.length<=sizeLine ->
   f7 ρ h' cj l->Q (.ref a) (At h' bj s))->wpAny (model ab.prog ab.w) A t Q E s):ah ab W ρ s A cW t (cH (.dict 0 l) σ):=by
 refine h _ _ λa cj h' bj ar aV az hg hl r=>?_;have cg:=i.new (W:=W) (o:=.dict 0 l) (h':=h') ar aV λaf=>⟨aa,az,cj,hg,hl,r.sub (.snoc λws m e=>by obtain⟨o,aW,dI,g,_,hd,_⟩:=hg;replace g:=e ▸ g;cases g;cases hd)⟩;exact⟨ρ++[(a,0)],h',bj,aa,cg.1,cg.2,Rel.ref (d:=0) (by rw[<-i.len,j0 (bx _),ky];rfl)⟩
end
section
theorem Inv.list(i:Inv ab σ ρ s.heap){n:Nat}{l:List V}{a:Addr}{d:Nat}(bX:σ[n]? =I (.list l))(js:ρ[n]? =I (a,d)) :
  Hb ρ s.heap a l:=i.objs n _ _ bX js
theorem gd{h:Heap}{a:Addr}{vs:List Value}{k:Nat}(e:h.get? a=I (en vs k)):h.IsList a vs.toArray:=⟨_,e,aa,k,aa⟩
theorem mJ{h:Heap}{a:Addr}{vs:List Value}{k:Nat}(e:h.get? a=I (dZ vs k)):h.IsTuple a vs.toArray:=⟨_,e,aa,k,aa⟩
theorem pB:sizeLine<2 ^ 63:=by decide
theorem ah.fb{β a6:Type}{t:Sem β}{n:Nat}{k:List V->M a6}{R:a6->Map->Heap->β->Prop}(h:∀l,σ[n]? =I (.list l)->ah ab W ρ s A R t (k l σ)) :
  ah ab W ρ s A R t ((fb n>>=k) σ):=by
 induction e:σ[n]? with
 |none=>rw[dR (by rw[kh,e])];exact aL
 |some o=>
  induction o with
  |list l=>rw[a4 (by rw[kh,e])];exact h l e
  |dict _ _=>rw[dR (by rw[kh,e])];exact aL
  |inst _ _=>rw[dR (by rw[kh,e])];exact aL
  |bT _=>rw[dR (by rw[kh,e])];exact aL
  |eC _ _=>rw[dR (by rw[kh,e])];exact aL
  |cache=>rw[dR (by rw[kh,e])];exact aL
theorem C1{x y:Str}(ak:PyData.strOk x=aw)(a9:PyData.strOk y=aw):PyData.strOk (x++y)=aw:=by
 unfold PyData.strOk at *;refine(?_:(x.cps++y.cps).all _=aw);rw[Array.all_append,ak,a9];rfl
theorem Ue{a b:Int}(h:Small a\/Small b):IntMulOk a b:=
 h.elim (λh=>IntMulOk.of_left (intBits_le_64 h.1 h.2)) λh=>IntMulOk.of_right (intBits_le_64 h.1 h.2)
theorem Small.noPylong{a b:Int}(h:Small b):Builtin.divisionGoesByPylong a b=aS:=PyProof.noPylong_of_log2 (by
 have h1:b.natAbs<2 ^ 64:=T9 (n:=2 ^ 64) h.1 h.2;by_cases hz:b.natAbs=0
 ·rw[hz];decide
 ·exact(Nat.log2_lt hz).mpr (d4 h1 (Nat.pow_le_pow_right (by decide) (by decide))))
theorem ah.ite{α β:Type}{t:Sem β}{c:Prop}[Decidable c] {m:M α}{R:α->Map->Heap->β->Prop}(h:c->ah ab W ρ s A R t (m σ)):ah ab W ρ s A R t ((if c then m else M.bad) σ):=by
 by_cases aA:c
 ·rw[aK aA];exact h aA
 ·rw[aR aA];exact aL
theorem ah.intOp{op:Operator}{a b:Int}{t u:Tok}(i:Inv ab σ ρ s.heap):ah ab W ρ s A cW (binaryOp op (.int a t) (.int b u)) (Mine.Internal.intOp op a b σ):=by
 induction op with
 |Add=>exact ah.same i λQ E br=>add_int (br _ _ (.int _ _))
 |Sub=>exact ah.same i λQ E br=>sub_int (br _ _ (.int _ _))
 |Mult=>exact ah.ite λaA=>ah.same i λQ E br=>ag6 (br _ _ (.int _ _)) (Ue aA)
 |FloorDiv=>exact ah.ite λaA=>ah.same i λQ E br=>floordiv_int aA.1 (br _ _ (.int _ _)) (.inl aA.2.noPylong)
 |Mod=>exact ah.ite λaA=>ah.same i λQ E br=>mod_int aA.1 (br _ _ (.int _ _))
 |_=>exact aL
theorem ah.yf{a b:Value}{x y:V}(i:Inv ab σ ρ s.heap)(bf:Rel ρ s.heap a x)(bO:Rel ρ s.heap b y) :
  ah ab W ρ s A cW (binaryOp .Add a b) (Mine.Internal.yf x y σ):=by
 induction bf using Rel.cs with
 |str _ _ ak=>
  induction bO using Rel.cs with
  |str _ _ a9=>exact ah.ite λaA=>ah.same i λQ E br=>add_str (λeu bj=>br _ _ (.str _ _ ⟨by rw[length_append];exact aA,C1 ak.2 a9.2⟩)) aA
  |_=>exact aL
 |@tup ad vs n l fX ga la cR=>
  induction bO using Rel.cs with
  |@tup bd ws k m b2 rg c2 h0=>
   refine ah.ite λaA=>?_;have h1:=cR.length;have h2:=h0.length;by_cases aM:vs=[]
   ·subst aM;cases cR;refine ah.same i λQ E br=>?_;exact concat_meets ⟨_,ga,aa⟩ ⟨_,rg,aa⟩ aez seq_tuple_add aeL aeO (aeS _ _)
     (tuple_addW0 ad bd ([]:List Value).toArray ws.toArray n k U U #[] #[] aa) ⟨ga,rg,br _ _ (.tup b2 rg c2 h0)⟩
   ·by_cases hw:ws=[]
    ·subst hw;cases h0;refine ah.same i λQ E br=>?_;rw[vU]at br;exact concat_meets ⟨_,ga,aa⟩ ⟨_,rg,aa⟩ aez seq_tuple_add aeL aeO (aeS _ _)
      (tuple_addW1 ad bd vs.toArray ([]:List Value).toArray n k U U #[] #[] (by simpa using aM) aa) ⟨ga,rg,br _ _ (.tup fX ga la cR)⟩
    ·have ar:∀b o,s.heap.get? b=I o->(s.heap.push (dZ (vs++ws) 0)).get? b=I o:=λb o e=>fH _ e;refine ah.grown i λQ E br=>P.add_tuple (n:=n) (n2:=k) ga rg (by simpa using aM) (by simpa using hw) ?_ (by simp;exact hG 0x320E0080A808887088C520021 aa aA h1 h2);have:=br (.ref s.heap.objs.size) (s.heap.push (dZ (vs++ws) 0)) s.toks ar (.tup (n:=0) i.mF (gR _ aa) (by simp;exact hG 0x320E0080A808887088C520021 aa aA h1 h2) ((cR.append h0).sub (Sub.keeps ar)))
     simpa [dZ] using this
  |_=>exact aL
 |ref cG=>
  induction bO using Rel.cs with
  |ref dJ=>
   refine ah.fb λl hl=>ah.fb λm hm=>ah.ite λaA=>?_;obtain⟨vs,k,ga,la,cR⟩:=i.list hl cG;obtain⟨ws,eo,rg,c2,h0⟩:=i.list hm dJ;have h1:=cR.length;have h2:=h0.length;refine ah.wW i λQ E br=>P.add_list (n:=k) (n2:=eo) ga rg ?_ (by simp;exact hG 0x320E0080A808887088C520021 aa aA h1 h2);have ar:∀b o,s.heap.get? b=I o->(s.heap.push (en (vs++ws) 0)).get? b=I o:=λb o e=>fH _ e;have:=br s.heap.objs.size (vs++ws) 0 (s.heap.push (en (vs++ws) 0)) s.toks ar u3 (gR _ aa) (by simp;exact hG 0x320E0080A808887088C520021 aa aA h1 h2) ((cR.append h0).sub (Sub.keeps ar))
   simpa [en] using this
  |_=>exact aL
 |_=>exact aL
theorem ah.binop(i:Inv ab σ ρ s.heap)(bf:Rel ρ s.heap a x)(bO:Rel ρ s.heap b y) :
  ah ab W ρ s A cW (binaryOp op a b) (binop op x y σ):=by
 have other:ah ab W ρ s A cW (binaryOp op a b) ((cond (isAdd op) (Mine.Internal.yf x y) M.bad) σ):=by
  induction op with
  |Add=>exact ah.yf i bf bO
  |_=>exact aL
 induction bf using Rel.cs with
 |int p t=>
  induction bO using Rel.cs with
  |int q u=>exact ah.intOp i
  |_=>exact aL
 |none=>exact other
 |bool _=>exact other
 |str _ _ _=>exact other
 |tup _ _ _=>exact other
 |ref _=>exact other
end
section
variable {h:Heap}
def ti(h:Heap)(v:Value)(d:PyData):Prop:=∃as,Reads h v d as/\d.canLay0=aw
def yk(h:Heap)(vs:List Value)(ds:List PyData):Prop:=∃as,ReadsAll h vs ds as/\PyData.canLayAll0 ds=aw
theorem JO(h1:∀d,ox f x=I d->ti h v d)(h2:∀ds,gS f l=I ds->yk h vs ds)(e:gS f (x::l)=I ds):yk h (v::vs) ds:=by
 have e:(match ox f x,gS f l with|some d,some ds=>I (d::ds)|_,_=>U)=I ds:=e
 induction av:ox f x with
 |none=>replace e:=av ▸ e;exact a5 e
 |some d=>
  induction ay:gS f l with
  |none=>replace e:=ay ▸ av ▸ e;exact a5 e
  |some Nl=>
   replace e:=ay ▸ av ▸ e;cases e;refine aB λae=>?_;obtain⟨as,aX,aA⟩:=h1 d av;obtain⟨bs,LM,xF⟩:=h2 Nl ay;refine ae ?_;exact⟨as++bs,.cons aX LM,by show(d.canLay0&&PyData.canLayAll0 Nl)=aw;rw[aA,xF];rfl⟩
theorem IP(aZ:∀n d a b,f n=I d->ρ[n]? =I (a,b)->ti h (.ref a) d)(r:Rel ρ h v x)(e:ox f x=I d):ti h v d:=by
 refine Rel.rec (motive_1:=λv x af=>∀d,ox f x=I d->ti h v d) (motive_2:=λvs l af=>∀ds,gS f l=I ds->yk h vs ds) ?_ ?_ ?_ ?_ ?_ ?_ ?_ ?_ r d e
 ·intro d e;cases e;exact⟨_,.none,aa⟩
 ·intro b d e;cases e;exact⟨_,.bool b,aa⟩
 ·intro i t d e;cases e;exact⟨_,.int i t,aa⟩
 ·intro x t ak d e;cases e;exact⟨_,.str x t,ak.2⟩
 ·intro a vs n l _ g _ r aj d e;obtain⟨ds,av,rfl⟩:=eU.mp (show(gS f l).map PyData.tuple=I d from e);obtain⟨as,aX,aA⟩:=aj ds av;exact⟨as,.tuple (vs:=vs.toArray) (n:=n) g aa aa (by simpa using aX),aA⟩
 ·intro a b n ao d e;exact aZ _ _ _ _ e ao
 ·intro ds e;cases e;exact⟨_,.nil,aa⟩
 ·intro v vs x l _ _ h1 h2 ds e;exact JO h1 h2 e
theorem Rm(aZ:∀n d a b,f n=I d->ρ[n]? =I (a,b)->ti h (.ref a) d)(r:b8 ρ h vs l)(e:gS f l=I ds):yk h vs ds:=
 b8.ind (P:=λvs l af=>∀ds,gS f l=I ds->yk h vs ds) (λds e=>by cases e;exact⟨_,.nil,aa⟩) (λr af aj ds e=>JO (λd=>IP aZ r) aj e) r ds e
theorem IQ(i:Inv ab σ ρ h):∀(k n:Nat) (d:PyData) (a b:Addr),ip σ k n=I d->ρ[n]? =I (a,b)->ti h (.ref a) d
 |0,_,_,_,_,e,_=>by exact a5 e
 |k+1,n,d,a,b,e,ao=>by
  have e:(match σ[n]? with|some (.list l)=>(gS (ip σ k) l).map PyData.list|_=>U)=I d:=e
  induction av:σ[n]? with
  |none=>rw[av]at e;exact a5 e
  |some o=>
   rw[av]at e
   induction o with
   |dict _ _=>exact a5 e
   |inst _ _=>exact a5 e
   |bT _=>exact a5 e
   |eC _ _=>exact a5 e
   |cache=>exact a5 e
   |list l=>
    obtain⟨ds,ay,rfl⟩:=eU.mp e;obtain⟨vs,m,g,hl,r⟩:=i.objs n _ _ av ao;obtain⟨as,aX,aA⟩:=Rm (λn d a b=>IQ i k n d a b) r ay;exact⟨a::as,.list (vs:=vs.toArray) (n:=m) g aa aa (by simpa using aX),aA⟩
theorem tY(i:Inv ab σ ρ h)(r:Rel ρ h v x)(e:toPy σ x=I d):ti h v d:=
 IP (λn d a b=>IQ i 4 n d a b) r e
end
section
theorem Ct(h:ej σ x y=I b):(∃di ki,toPy σ x=I di/\toPy σ y=I ki/\min di.depth ki.depth<=200/\b=PyData.eqv di ki)\/AR σ x y=I b:=by
 unfold ej at h
 induction av:toPy σ x with
 |none=>replace h:=av ▸ h;exact .inr h
 |some di=>
  induction ay:toPy σ y with
  |none=>replace h:=ay ▸ av ▸ h;exact .inr h
  |some ki=>
   replace h:=ay ▸ av ▸ h;have h:(if min di.depth ki.depth<=200 then I (PyData.eqv di ki) else U)=I b:=h;by_cases hd:min di.depth ki.depth<=200
   ·replace h:=aK hd ▸ h;cases h;exact .inl ⟨di,ki,aa,aa,hd,aa⟩
   ·replace h:=aR hd ▸ h;exact a5 h
theorem xd(e:gW σ k=I c):∃j,σ[k]? =I (.inst c j):=by
 unfold gW at e
 induction q:σ[k]? with
 |none=>rw[q]at e;exact a5 e
 |some o=>
  rw[q]at e
  induction o with
  |inst fG j=>cases e;exact⟨j,aa⟩
  |_=>exact a5 e
theorem uw(e:listAt σ k=I l):σ[k]? =I (.list l):=by
 unfold listAt at e
 induction q:σ[k]? with
 |none=>rw[q]at e;exact a5 e
 |some o=>
  rw[q]at e
  induction o with
  |list fG=>cases e;rfl
  |_=>exact a5 e
theorem Np(e:dictAt σ k=I l):∃v,σ[k]? =I (.dict v l):=by
 unfold dictAt at e
 induction q:σ[k]? with
 |none=>rw[q]at e;exact a5 e
 |some o=>
  rw[q]at e
  induction o with
  |dict v fG=>cases e;exact⟨v,aa⟩
  |_=>exact a5 e
theorem Yx(h:AR σ x y=I b):∃n m,x=.ref n/\y=.ref m/\((∃c d i j,σ[n]? =I (.inst c i)/\σ[m]? =I (.inst d j)/\b=(n==m))\/∃l k,σ[n]? =I (.list l)/\σ[m]? =I (.list k)/\l.length≠k.length/\b=aS):=by
 induction x using V.casesOn with
 |ref n=>
  induction y using V.casesOn with
  |ref m=>
   refine⟨n,m,aa,aa,?_⟩;have lists:(match listAt σ n,listAt σ m with|some l,some k=>if l.length=k.length then U else I aS|_,_=>U)=I b->∃l k,σ[n]? =I (.list l)/\σ[m]? =I (.list k)/\l.length≠k.length/\b=aS:=λh=>by
    induction av:listAt σ n with
    |none=>replace h:=av ▸ h;exact a5 h
    |some l=>
     induction ay:listAt σ m with
     |none=>replace h:=ay ▸ av ▸ h;exact a5 h
     |some k=>
      replace h:=ay ▸ av ▸ h;dsimp only at h;by_cases hl:l.length=k.length
      ·replace h:=aK hl ▸ h;exact a5 h
      ·replace h:=aR hl ▸ h;cases h;exact⟨l,k,uw av,uw ay,hl,aa⟩
   have h:(match gW σ n,gW σ m with|some _,some _=>I (n==m)|_,_=>(match listAt σ n,listAt σ m with|some l,some k=>if l.length=k.length then U else I aS|_,_=>U))=I b:=h
   induction av:gW σ n with
   |none=>replace h:=av ▸ h;exact .inr (lists h)
   |some c=>
    induction ay:gW σ m with
    |none=>replace h:=ay ▸ av ▸ h;exact .inr (lists h)
    |some d=>
     replace h:=ay ▸ av ▸ h;cases h;obtain⟨i,h1⟩:=xd av;obtain⟨j,h2⟩:=xd ay;exact .inl ⟨c,d,i,j,h1,h2,aa⟩
  |_=>exact a5 h
 |_=>exact a5 h
theorem ah.ask{α β:Type}{t:Sem β}{f:aN->Option α}{R:α->Map->Heap->β->Prop}(h:∀a,f σ=I a->ah ab W ρ s A R t (.ok a σ)):ah ab W ρ s A R t (c3 f σ):=by
 rw[hP]
 induction e:f σ with
 |none=>exact aL
 |some a=>exact h a e
theorem YB(i:Inv ab σ ρ s.heap)(bf:Rel ρ s.heap a x)(bO:Rel ρ s.heap b y)(ex:toPy σ x=I di)(nY:toPy σ y=I ki)
  (hd:min di.depth ki.depth<=200) (aY:A.units+200<cLine):SeqAt.EqAt A s a b (PyData.eqv di ki):=by
 refine aB λae=>?_;obtain⟨as,cR,cI⟩:=tY i bf ex;obtain⟨bs,h0,c4⟩:=tY i bO nY;exact ae (SeqAt.eqAt_reads di ki A s a b as bs cR h0 cI c4 (i5 (jZ ‹_<=200› _) ‹_›))
theorem jU.cache(r:jU ab ρ h p o)(e:h.get? p.1=I (dZ vs n)):o=.cache:=by
 induction o with
 |list l=>
  obtain⟨ws,m,g,_⟩:=r;exact absurd e (oI g vs n)
 |dict v l=>
  obtain⟨_,_,_,⟨_,_,_,g,_,d,_⟩,_⟩:=r;replace g:=e ▸ g;cases g;cases d
 |inst c k=>
  obtain⟨_,_,_,_,_,g,d,_⟩:=r;replace g:=e ▸ g;cases g;cases d
 |bT l=>
  obtain⟨_,_,⟨_,_,_,g,d,_⟩,_⟩:=r;replace g:=e ▸ g;cases g;cases d
 |eC v l=>
  obtain⟨_,_,_,⟨_,_,_,g,_,d,_⟩,_⟩:=r;replace g:=e ▸ g;cases g;cases d
 |cache=>rfl
theorem Rel.uniq(i:Inv ab σ ρ h)(r:Rel ρ h v x)(q:Rel ρ h v y):x=y:=by
 refine Rel.rec (motive_1:=λv x af=>∀y,Rel ρ h v y->x=y) (motive_2:=λvs l af=>∀m,b8 ρ h vs m->l=m) ?_ ?_ ?_ ?_ ?_ ?_ ?_ ?_ r y q
 ·intro y q;cases q;rfl
 ·intro b y q;cases q;rfl
 ·intro j t y q;cases q;rfl
 ·intro z t _ y q;cases q;rfl
 ·intro a vs n l off g _ _ aj y q
  cases q with
  |tup _ ck _ bI=>replace ck:=g ▸ ck;cases ck;rw[aj _ bI]
  |ref e=>exact absurd aa (off _ (ee e))
 ·intro a d n e y q
  cases q with
  |tup off _ _ _=>exact absurd aa (off _ (ee e))
  |@ref _ f3 m aG=>
   by_cases pR:n=m
   ·rw[pR]
   ·exact absurd aa (i.apart n m (a,d) (a,f3) e aG pR)
 ·intro m q;cases q;rfl
 ·intro v vs x l _ _ h1 h2 m q
  cases q with
  |cons a b=>rw[h1 _ a,h2 _ b]
theorem Inv.cmp{h:Heap}(i:Inv ab σ ρ h){n j d:Nat}{c:Str}{a:Addr}(bX:σ[n]? =I (.inst c j))(bL:ρ[n]? =I (a,d)):∃C,h.CmpInst a C [.type "object"]:=by
 refine aB λae=>?_;obtain⟨C,o,di,f3,⟨X,_⟩,g,h3,_⟩:=i.objs n _ _ bX bL;obtain⟨N,gz,cl,he,ao⟩:=X.keeps i.base;obtain⟨nm,q,bs,sn,sub,col,kj,hH,iQ,kd,q2,uC,hr⟩:=cl.obj;exact ae ⟨C,o,nm,q,N,bs,aw,sn,sub,aS,col,kj,hH,iQ,kd,q2,uC, "object.__new__",gz,g,h3,hr,cl.ns,he,ao⟩
theorem F0(i:Inv ab σ ρ s.heap){a b:Value}{x y:V}{e:Bool}(bf:Rel ρ s.heap a x)(bO:Rel ρ s.heap b y)(h:AR σ x y=I e)(aY:A.units+200<cLine) :
  SeqAt.RcAt A s a b e/\SeqAt.RcNeAt A s a b (!e)/\SeqAt.EqAt A s a b e:=by
 have Ag:A.units<cLine:=by exact bF 0x142120020284264782400021 aa aY
 have pN:A.units+1<cLine:=by exact bF 0xA10842400020284264782400021 aa aY
 obtain⟨n,m,rfl,rfl,h|⟨l,k,h1,h2,hl,rfl⟩⟩:=Yx h
 ·obtain⟨c,d,_,_,h1,h2,rfl⟩:=h
  cases bf with
  |@ref GQ Y1 _ cG=>
  cases bO with
  |@ref GP db _ dJ=>
  obtain⟨C,X⟩:=i.cmp h1 cG;obtain⟨D,Y⟩:=i.cmp h2 dJ;obtain⟨hp,g,rl,t,os⟩:=s;by_cases pR:n=m
  ·subst pR;replace dJ:=cG ▸ dJ;cases dJ;rw[k6];exact⟨λprog w E Q aH=>richCompare_eq_same yR X Ag aH,λprog w E Q aH=>richCompare_ne_same yR X pN aH,.same _⟩
  ·have cv:GQ≠GP:=i.apart n m _ _ cG dJ pR;rw[yC pR];have rc:SeqAt.RcAt A ⟨hp,g,rl,t,os⟩ (.ref GQ) (.ref GP) aS:=λprog w E Q aH=>richCompare_eq_other yR yR X Y cv Ag aH;exact⟨rc,λprog w E Q aH=>richCompare_ne_other yR yR X Y cv pN aH,.of_refs cv rc⟩
 ·cases bf with
  |@ref GQ Y1 _ cG=>
  cases bO with
  |@ref GP db _ dJ=>
  obtain⟨vs,j,g1,_,cR⟩:=i.list h1 cG;obtain⟨ws,xa,g2,_,h0⟩:=i.list h2 dJ;have av:=cR.length;have ay:=h0.length;have az:(vs.toArray.size != ws.toArray.size)=aw:=by simp;lia
  have rc:=ag3 (gd g1) (gd g2) az Ag;refine⟨rc,ag2 (gd g1) (gd g2) az Ag,.of_refs (λeq=>?_) rc⟩;subst eq;replace g2:=g1 ▸ g2;cases g2;simp at az
open Classical in
def vl(σ:aN)(ρ:Map)(h:Heap)(y:V)(v:Value):Bool:=decide (∃x,Rel ρ h v x/\ej σ x y=I aw)
open Classical in
theorem Ob(i:Inv ab σ ρ s.heap)(r:Rel ρ s.heap v x)(h:ej σ x y=I e):vl σ ρ s.heap y v=e:=by
 unfold vl
 induction e with
 |true=>exact m6 ⟨x,r,h⟩
 |false=>
  refine jf ?_;rintro⟨il,bI,h'⟩;replace h':=h ▸ Rel.uniq i bI r ▸ h';cases h'
theorem QY(i:Inv ab σ ρ s.heap)(bf:Rel ρ s.heap a x)(bO:Rel ρ s.heap b y)(h:ej σ x y=I e)(aY:A.units+200<cLine):SeqAt.EqAt A s a b e:=by
 rcases Ct h with ⟨di,ki,ex,nY,hd,rfl⟩|h
 ·exact YB i bf bO ex nY hd aY
 ·exact(F0 i bf bO h aY).2.2
theorem Iy(i:Inv ab σ ρ s.heap)(bO:Rel ρ s.heap b y)(aY:A.units+200<cLine):∀{vs:List Value}{l:List V}{k:Bool},b8 ρ s.heap vs l->j5 σ y l=I k ->
  k=vs.any (vl σ ρ s.heap y)/\∀v∈vs,SeqAt.EqAt A s v b (vl σ ρ s.heap y v):=by
 intro vs l k r h
 induction l generalizing vs k with
 |nil=>cases r;cases h;exact⟨aa,λaf aM=>nomatch aM⟩
 |cons x l aj=>
  cases r with
  |cons r rs=>
  have h:(match ej σ x y,j5 σ y l with|some e,some t=>I (e || t)|_,_=>U)=I k:=h
  induction av:ej σ x y with
  |none=>replace h:=av ▸ h;exact a5 h
  |some e=>
   induction ay:j5 σ y l with
   |none=>replace h:=ay ▸ av ▸ h;exact a5 h
   |some t=>
    replace h:=ay ▸ av ▸ h;cases h;obtain⟨h1,h2⟩:=aj rs ay;have au:=Ob i r av;refine⟨by rw[PX,au,<-h1],λu hm=>?_⟩;rcases List.mem_cons.mp hm with rfl|hm
    ·rw[au];exact QY i r bO av aY
    ·exact h2 u hm
theorem Inv.dict(i:Inv ab σ ρ s.heap){n v:Nat}{l:Tab}{p:Addr×Nat}(bX:σ[n]? =I (.dict v l))(bL:ρ[n]? =I p) :
  Hr ab ρ s.heap p v l:=i.objs n _ p bX bL
theorem w9(bf:Rel ρ h a x)(e:keyOf x=I k):uB k a=aw/\∀s,k=.inr s->hu s:=by
 induction bf using Rel.cs with
 |int i t=>cases e;exact⟨Lj i t,λs e=>by cases e⟩
 |str x t ak=>cases e;exact⟨Li x t,λs e=>by cases e;exact ak⟩
 |_=>exact a5 e
theorem f7.at(r:f7 ρ h cj l):(dF l k=U->valueAt cj k=U)/\∀x,dF l k=I x->∃v,valueAt cj k=I v/\Rel ρ h v x:=by
 induction r with
 |nil=>exact⟨λaf=>aa,λaf e=>by exact a5 e⟩
 |@cons eo v x cj l az r rs aj=>
  unfold dF valueAt at aj ⊢;rw[qs,qs];by_cases ar:eo=k
  ·simp only [ar,decide_true];exact⟨λe=>(by exact fU e),λy e=>(by cases e;exact⟨v,aa,r⟩)⟩
  ·simp only [ar,decide_false];exact aj
theorem f7.isSome(r:f7 ρ h cj l):(valueAt cj k).isSome=(dF l k).isSome:=by
 have:=r.at (k:=k)
 induction e:dF l k with
 |none=>rw[this.1 e];rfl
 |some x=>obtain⟨v,aM,_⟩:=this.2 x e;rw[aM];rfl
theorem ah.jc{β a6:Type}{t:Sem β}{n:Nat}{k:O->M a6}{R:a6->Map->Heap->β->Prop}(h:∀o,σ[n]? =I o->ah ab W ρ s A R t (k o σ)) :
  ah ab W ρ s A R t ((jc n>>=k) σ):=by
 induction e:σ[n]? with
 |none=>rw[dR (by rw[pZ,e])];exact aL
 |some o=>rw[a4 (a:=o) (ag:=σ) (by rw[pZ,e])];exact h o e
theorem ah.Kf{α β a6:Type}{t:Sem β}{o:Option α}{k:α->M a6}{R:a6->Map->Heap->β->Prop}(h:∀a,o=I a->ah ab W ρ s A R t (k a σ)):ah ab W ρ s A R t ((bD o>>=k) σ):=by
 induction o with
 |none=>exact aL
 |some a=>exact h a aa
theorem ah.Be{α β a6:Type}{t:Sem β}{f:aN->Option α}{k:α->M a6}{R:a6->Map->Heap->β->Prop}(h:∀a,f σ=I a->ah ab W ρ s A R t (k a σ)):ah ab W ρ s A R t ((c3 f>>=k) σ):=by
 induction e:f σ with
 |none=>rw[dR (by rw[hP,e])];exact aL
 |some a=>rw[a4 (a:=a) (ag:=σ) (by rw[hP,e])];exact h a e
theorem ah.uG{a b:Value}{x y:V}{f:Bool->Bool}{op:CmpOp}(i:Inv ab σ ρ s.heap)(aY:A.units+201<cLine)(bf:Rel ρ s.heap a x)(bO:Rel ρ s.heap b y)(h8:(op=.In/\f=id)\/(op=.NotIn/\f=not)) :
  ah ab W ρ s A cW (compareOp op a b) ((Mine.Internal.uG x y>>=λc=>(Pure.pure (V.bool (f c)):M V)) σ):=by
 induction bO using Rel.cs with
 |@ref ad d n bL=>
  refine(?_:ah ab W _ _ A _ _ ((Mine.Internal.among x n>>=λb=>(Pure.pure (V.bool (f b)):M V)) σ));unfold Mine.Internal.among;rw[M.assoc];refine ah.jc λo ho=>?_
  induction o with
  |list l=>
   refine ah.Be λk ar=>?_;obtain⟨vs,m,g,hl,r⟩:=i.list ho bL;obtain⟨rfl,he⟩:=Iy (A:=A.in1) i bf (by exact show A.units+1+200<cLine from bF 0x1421323C10848000020284264F82400021 aa aY:A.in1.units+200<cLine) r ar;rcases h8 with ⟨rfl,rfl⟩|⟨rfl,rfl⟩
   ·refine ah.same i λQ E br=>SeqAt.in_listAt _ (gd g) (λy a9=>he y (by simpa using a9)) ?_;have:=br _ s.toks (.bool _)
    simpa using this
   ·refine ah.same i λQ E br=>SeqAt.notIn_listAt _ (gd g) (λy a9=>he y (by simpa using a9)) ?_;have:=br _ s.toks (.bool _)
    simpa using this
  |dict u9 l=>
   refine ah.Kf λk ar=>?_;obtain⟨ae,fe,rfl⟩:=eU.mp ar;obtain⟨_,az,cj,hd,hl,r⟩:=i.dict ho bL;rcases h8 with ⟨rfl,rfl⟩|⟨rfl,rfl⟩
   ·exact ah.same i λQ E br=>wpAny_in_of (w9 bf fe).1 az hd.mapOf (br _ _ (by rw[r.isSome];exact .bool _))
   ·exact ah.same i λQ E br=>wpAny_notIn_of (w9 bf fe).1 az hd.mapOf (br _ _ (by rw[r.isSome];exact .bool _))
  |inst _ _=>exact aL
  |bT _=>exact aL
  |eC _ _=>exact aL
  |cache=>exact aL
 |_=>exact aL
theorem ah.oF(i:Inv ab σ ρ s.heap)(bf:Rel ρ s.heap a x)(bO:Rel ρ s.heap b y)
  (h1:∀(m n:Int) (p q:Tok) (Q E:Value->Shared->Prop),a=.int m p->b=.int n q->Q (.bool (f m n)) s->wpAny (model ab.prog ab.w) A t Q E s):ah ab W ρ s A cW t (Mine.Internal.oF f x y σ):=by
 induction bf using Rel.cs with
 |int m p=>induction bO using Rel.cs with
  |int n q=>exact ah.same i λQ E br=>h1 m n p q Q E aa aa (br _ s.toks (.bool _))
  |_=>exact aL
 |_=>exact aL
set_option tactic.hygienic true in
theorem ah.uE(i:Inv ab σ ρ s.heap)(bf:Rel ρ s.heap a x)(bO:Rel ρ s.heap b y)(h8:(op=.Is/\f=id)\/(op=.IsNot/\f=not)) :
  ah ab W ρ s A cW (compareOp op a b) ((Mine.Internal.uE x y>>=λc=>(Pure.pure (V.bool (f c)):M V)) σ):=by
 cases bO with
 |none=>
  refine(?_:ah ab W ρ s A cW _ (.ok (V.bool (f (isNone x))) σ));have e:plainIs a .none=aw/\(a == .none)=isNone x:=by cases bf <;> exact⟨aa,aa⟩
  rcases h8 with ⟨rfl,rfl⟩|⟨rfl,rfl⟩
  ·exact ah.same i λQ E br=>wpAny_is_plain e.1 (by rw[e.2];exact br _ s.toks (.bool _))
  ·exact ah.same i λQ E br=>wpAny_isNot_plain e.1 (by rw[e.2];exact br _ s.toks (.bool _))
 |_=>exact aL
open AutoSeq1 (wpAny_loadPart') in
theorem YT(l:Addr)(aW:Array DictEntry)(dI:Nat)(kj:Option Addr)(iK:Array (Option Value))(b:Str)(u:Tok) :
  Meets (Builtin.«dict.__eq__» ⟨[.ref l,.str b u],[]⟩) (λaf R s=>s.heap.get? l=I { cls:=.type "dict",dict:=kj,data:=.dict aW dI,slots:=iK }/\R (.ok (.ret .notImplemented)) s):=.of_wp λprog w A R s h=>by
 obtain⟨hp,g,d,bj,os⟩:=s;obtain⟨hl,h⟩:=h;have f1:=aeK
 wp_walk using wpAny_loadPart' hl
 exact⟨_,aa,h⟩
open AutoSeq1 (wpAny_loadPart') in
theorem R2(b:Str)(u:Tok)(l:Addr)(aW:Array DictEntry)(dI:Nat)(kj:Option Addr)(iK:Array (Option Value)) :
  Meets (Builtin.«str.__eq__» ⟨[.str b u,.ref l],[]⟩) (λaf R s=>s.heap.get? l=I { cls:=.type "dict",dict:=kj,data:=.dict aW dI,slots:=iK }/\R (.ok (.ret .notImplemented)) s):=.of_wp λprog w A R s h=>by
 obtain⟨hp,g,d,bj,os⟩:=s;obtain⟨hl,h⟩:=h
 wp_walk using wpAny_loadPart' hl,wpAny_load hl
 exact⟨_,aa,h⟩
theorem Yy(i:Inv ab σ ρ s.heap){a b:Value}{x y:V}{e:Bool}(bf:Rel ρ s.heap a x)(bO:Rel ρ s.heap b y)(h:s3 σ x y=I e)(aY:A.units<cLine):SeqAt.RcAt A s a b e:=by
 induction bf using Rel.cs with
 |@ref l d n bL=>
  induction bO using Rel.cs with
  |str z u=>
   refine aB λae=>?_;obtain⟨t,aP,rfl⟩:=eU.mp (show(dictAt σ n).map (λaf=>aS)=I e from h);obtain⟨v,bX⟩:=Np aP;obtain⟨_,_,_,⟨⟨cls,kj,data,iK⟩,aW,dI,g,⟨aA,_,_⟩,hd,_⟩,_⟩:=i.dict bX bL;refine ae ?_;simp only at aA hd;subst aA hd;exact λprog w E Q h=>SeqAt.rc_eq_decline_or (k:=aS) ⟨_,g,aa⟩ (Hz s z u) (by decide) aeK afN afM
    (λaf aH=>BX afN ⟨_,g,aa⟩ F.entry_dict_eq (F.args_dict_eq_2 _ _) (YT l aW dI kj iK z u) ⟨g,aH⟩)
    (λaf aH=>BX afM (Hz s z u) F.entry_str_eq (F.args_str_eq_2 _ _) (R2 z u l aW dI kj iK) ⟨g,aH⟩)
    (λaf aH=>mq (aa:isSame (.ref l) (.str z u)=pure aS) aH) (.inr aY) h
  |_=>exact a5 h
 |_=>exact a5 h
theorem ah.cmp{op:CmpOp}{a b:Value}{x y:V}(i:Inv ab σ ρ s.heap)(aY:A.units+201<cLine)(bf:Rel ρ s.heap a x)(bO:Rel ρ s.heap b y) :
  ah ab W ρ s A cW (compareOp op a b) (cmp op x y σ):=by
 have pN:A.in1.units+200<cLine:=by exact show A.units+1+200<cLine from bF 0x1421323C10848000020284264F82400021 aa aY
 induction op with
 |Eq=>
  refine(?_:ah ab W ρ s A cW _ (c3 (λσ=>((ej σ x y).or (s3 σ x y)).map V.bool) σ));refine ah.ask λc aA=>?_;obtain⟨k,ar,rfl⟩:=eU.mp aA
  induction aM:ej σ x y with
  |some e=>
   replace ar:=aM ▸ ar;cases ar;refine aB λae=>?_;rcases Ct aM with ⟨di,ki,ex,nY,hd,rfl⟩|h
   ·obtain⟨as,cR,cI⟩:=tY i bf ex;obtain⟨bs,h0,c4⟩:=tY i bO nY;exact ae (ah.same i λQ E br=>SeqAt.compareEq_reads cR h0 cI c4 (i5 (jZ (afc ‹_<=200›) _) ‹_›) (br _ s.toks (.bool _)))
   ·exact ae (ah.same i λQ E br=>(F0 (A:=A) i bf bO h (by exact bF 0x284264782400020284264F82400021 aa aY)).1 _ _ E Q (br _ s.toks (.bool _)))
  |none=>
   replace ar:=aM ▸ ar;have ar:s3 σ x y=I k:=ar;exact ah.same i λQ E br=>Yy i bf bO ar (by exact bF 0x142120020284264F82400021 aa aY) _ _ E Q (br _ s.toks (.bool _))
 |NotEq=>
  refine(?_:ah ab W ρ s A cW _ (c3 (λσ=>(ej σ x y).map λe=>V.bool (!e)) σ));refine ah.ask λc aA=>?_;obtain⟨k,ar,rfl⟩:=eU.mp aA;refine aB λae=>?_;rcases Ct ar with ⟨di,ki,ex,nY,hd,rfl⟩|h
  ·obtain⟨as,cR,cI⟩:=tY i bf ex;obtain⟨bs,h0,c4⟩:=tY i bO nY;exact ae (ah.same i λQ E br=>SeqAt.compareNe_reads cR h0 cI c4 (i5 (jZ (afc ‹_<=200›) _) ‹_›) (br _ s.toks (.bool _)))
  ·exact ae (ah.same i λQ E br=>(F0 (A:=A) i bf bO h (by exact bF 0x284264782400020284264F82400021 aa aY)).2.1 _ _ E Q (br _ s.toks (.bool _)))
 |Lt=>exact ah.oF i bf bO (λm n p q Q E cG dJ h=>by subst cG dJ;exact lt_int h)
 |LtE=>exact ah.oF i bf bO (λm n p q Q E cG dJ h=>by subst cG dJ;exact le_int h)
 |Gt=>exact ah.oF i bf bO (λm n p q Q E cG dJ h=>by subst cG dJ;exact gt_int h)
 |GtE=>exact ah.oF i bf bO (λm n p q Q E cG dJ h=>by subst cG dJ;exact ge_int h)
 |Is=>exact ah.uE (f:=id) i bf bO (.inl ⟨aa,aa⟩)
 |IsNot=>exact ah.uE (f:=not) i bf bO (.inr ⟨aa,aa⟩)
 |In=>exact ah.uG (f:=id) i aY bf bO (.inl ⟨aa,aa⟩)
 |NotIn=>exact ah.uG (f:=not) i aY bf bO (.inr ⟨aa,aa⟩)
set_option tactic.hygienic true in
theorem ah.truth(i:Inv ab σ ρ s.heap)(bf:Rel ρ s.heap a x):ah ab W ρ s A vu (truthy a) (truth x σ):=by
 cases bf with
 |bool _=>exact ah.same i λQ E br=>Ps (br _ s.toks aa)
 |_=>exact aL
end
section
theorem J6(h:place i n=I k)(ao:n<=sizeLine):seqIndex? i n=I k/\-(2 ^ 63)<=i/\i<2 ^ 63:=by
 have az:=pB;unfold place at h
 split at h
 ·split at h
  ·cases h;exact⟨seqIndex_of (by assumption) (by assumption),by lia,by lia⟩
  ·exact a5 h
 ·split at h
  ·cases h;exact⟨seqIndex_neg (by lia) (by lia),by lia,by lia⟩
  ·exact a5 h
theorem place_lt(h:place i n=I k):k<n:=by
 unfold place at h
 split at h
 ·split at h
  ·cases h;exact wd ‹_› ‹_›
  ·exact a5 h
 ·split at h
  ·cases h;lia
  ·exact a5 h
theorem WZ(g:s.heap.get? l=I (en vs n))(hl:vs.length<=sizeLine)
  (ar:place i vs.length=I k) (ak:vs[k]? =I x) (h:Q x s):wpAny (model ab.prog ab.w) A (getItem (.ref l) (.int i t)) Q E s:=by
 have az:=pB;unfold place at ar
 split at ar
 ·rename_i aE
  split at ar
  ·cases ar;exact wpAny_getItem_list (gd g) aE (yO ‹_› (ph (uy hl) (by decide))) (by simpa using ak) h
  ·exact a5 ar
 ·rename_i aE
  split at ar
  ·cases ar;exact wpAny_getItem_list_neg (gd g) (by lia) (by simp;lia) (by lia) (by simpa using ak) h
  ·exact a5 ar
theorem ah.bD{α β:Type}{t:Sem β}{o:Option α}{R:α->Map->Heap->β->Prop}(h:∀a,o=I a->ah ab W ρ s A R t (.ok a σ)):ah ab W ρ s A R t (bD o σ):=by
 induction o with
 |none=>exact aL
 |some a=>exact h a aa
theorem ah.Ks{α β a6:Type}{t:Sem β}{o:Option α}{k:α->M a6}{R:a6->Map->Heap->β->Prop}(h:∀a,o=I a->ah ab W ρ s A R t (k a σ)):ah ab W ρ s A R t ((Mine.Internal.bD o>>=k) σ):=by
 induction o using Option.casesOn with
 |none=>exact aL
 |some a=>exact h a aa
theorem Inv.eC(i:Inv ab σ ρ s.heap){n v:Nat}{l:n6}{p:Addr×Nat}(bX:σ[n]? =I (.eC v l))(bL:ρ[n]? =I p) :
  GV ab ρ s.heap p v l:=i.objs n _ p bX bL
theorem Rp(r:b8 ρ h vs l):t2 l=I cm->ItemsAre (intKind prog w) cm vs:=by
 induction r using b8.ind generalizing cm with
 |aE=>intro e;cases e;exact .nil
 |@h1 v vs x l r rs aj=>
  intro e
  induction r using Rel.cs with
  |int j t=>
   obtain⟨ts,av,rfl⟩:=eU.mp (show(t2 l).map (j :: ·)=I cm from e);exact .cons (Lj j t) (aj av)
  |_=>exact a5 e
theorem IT(r:Rel ρ h b y)(e:ll y=I k):∃a,b=.ref a/\(y8 prog w).is h k a/\c9 ρ a/\∃vs n,h.get? a=I (dZ vs n):=by
 induction r using Rel.cs with
 |@tup a vs n l off g hl r=>exact⟨a,aa,⟨_,vs.toArray,n,g,aa,aa,by simpa using Rp r e⟩,off,vs,n,g⟩
 |_=>exact a5 e
theorem ij.at(r:ij ρ h xs l):(j6 l k=U->atKey xs k=U)/\∀x,j6 l k=I x->∃p,atKey xs k=I p/\Rel ρ h p.2 x:=by
 induction r with
 |nil=>exact⟨λaf=>aa,λaf e=>by exact a5 e⟩
 |@cons eo a v x xs l az r rs aj=>
  unfold j6 atKey at aj ⊢;rw[qs,qs];by_cases ar:eo=k
  ·simp only [ar,decide_true];exact⟨λe=>(by exact fU e),λy e=>(by cases e;exact⟨(a,v),aa,r⟩)⟩
  ·simp only [ar,decide_false];exact aj
theorem ah.item{a b:Value}{x y:V}(i:Inv ab σ ρ s.heap)(aY:A.units+201<cLine)(bf:Rel ρ s.heap a x)(bO:Rel ρ s.heap b y) :
  ah ab W ρ s A cW (getItem a b) (item x y σ):=by
 have az:=pB
 induction bf using Rel.cs with
 |tup _ g hl r=>
  induction bO using Rel.cs with
  |int k t=>
   have hlen:=r.length;refine ah.bD λv aM=>?_;obtain⟨j,bh,aM⟩:=i3.mp aM;obtain⟨val,e,aX⟩:=r.get aM;obtain⟨h1,h2,h3⟩:=J6 bh (by exact cb 0x298203102329021 aa hl hlen);exact ah.same i λQ E br=>aeV g h2 h3 (by simpa [hlen] using h1) (by simpa using e) (br _ s.toks aX)
  |_=>exact aL
 |str x t ak=>
  induction bO using Rel.cs with
  |int k u=>
   refine ah.bD λv aM=>?_;obtain⟨j,bh,aM⟩:=i3.mp aM;obtain⟨c,aA,rfl⟩:=eU.mp aM;obtain⟨h1,h2,h3⟩:=J6 bh ak.1;refine ah.same i λQ E br=>P.getItem_str (c:=c) ?_ (by rw[h1];simpa using aA) (br _ _ (.str _ _ ⟨by show 1<=sizeLine;decide,?_⟩))
   ·simp only [Bool.or_eq_false_iff,decide_eq_false_iff_not];exact⟨qt.mpr (by assumption),afH.mpr (by assumption)⟩
   ·have bY:=ak.2;unfold PyData.strOk at bY ⊢;rw[Array.all_eq_true]at bY;have fu:j<(_:Str).cps.size:=place_lt bh;have:=bY j fu;replace aA:=P7 fu ▸ aA;cases aA
    simpa [fF] using this
  |_=>exact aL
 |ref bL=>
  refine ah.jc λo ho=>?_
  induction o with
  |list l=>
   induction bO using Rel.cs with
   |int k t=>
    refine ah.bD λv aM=>?_;obtain⟨vs,m,g,hl,r⟩:=i.list ho bL;obtain⟨j,bh,aM⟩:=i3.mp aM;obtain⟨val,e,aX⟩:=r.get aM;exact ah.same i λQ E br=>WZ g hl (by rw[r.length];exact bh) e (br _ s.toks aX)
   |_=>exact aL
  |dict u9 l=>
   refine ah.bD λv aM=>?_;obtain⟨ae,fe,aM⟩:=i3.mp aM;obtain⟨_,az,cj,hd,hl,r⟩:=i.dict ho bL;obtain⟨val,e,aX⟩:=r.at.2 v aM;exact ah.same i λQ E br=>wpAny_getItem_of (w9 bO fe).1 hd.mapOf e (br _ _ aX)
  |eC u9 l=>
   refine ah.bD λv aM=>?_;obtain⟨ae,fe,aM⟩:=i3.mp aM;obtain⟨_,az,xs,hd,hl,r⟩:=i.eC ho bL;obtain⟨p,e,aX⟩:=r.at.2 v aM;obtain⟨ad,rfl,ar,_⟩:=IT (prog:=ab.prog) (w:=ab.w) bO fe;exact ah.same i λQ E br=>wpAny_getItem_heap (aev (by exact bF 0xA10842400020284264F82400021 aa aY)) ar hd e (br _ _ aX)
  |inst _ _=>exact aL
  |bT _=>exact aL
  |cache=>exact aL
 |_=>exact aL
theorem b8.cut(r:b8 ρ h vs l)(lo aI:Option Int):b8 ρ h (Mine.Internal.cut vs lo aI) (Mine.Internal.cut l lo aI):=by
 have hd:∀(n:Nat) {vs:List Value}{l:List V},b8 ρ h vs l->b8 ρ h (vs.drop n) (l.drop n):=by
  intro n
  induction n with
  |zero=>intro vs l r;exact r
  |succ n aj=>intro vs l r;cases r with
   |nil=>exact .nil
   |cons _ r=>exact aj r
 have aP:∀(n:Nat) {vs:List Value}{l:List V},b8 ρ h vs l->b8 ρ h (vs.take n) (l.take n):=by
  intro n
  induction n with
  |zero=>intro vs l r;exact .nil
  |succ n aj=>intro vs l r;cases r with
   |nil=>exact .nil
   |cons a r=>exact .cons a (aj r)
 unfold Mine.Internal.cut;rw[r.length];exact aP _ (hd _ r)
theorem Sm(vs:List Value)(lo aI:Option Int):slicePick vs.toArray lo aI U=(Mine.Internal.cut vs lo aI).toArray:=by
 rw[slicePick_plain];simp [Mine.Internal.cut]
theorem ah.bound{β a6:Type}{t:Sem β}{v:Value}{x:V}{k:Option Int->M a6}{R:a6->Map->Heap->β->Prop}(r:Rel ρ s.heap v x)(h:∀o,IsPart v o->ah ab W ρ s A R t (k o σ)) :
  ah ab W ρ s A R t ((Mine.Internal.bound x>>=k) σ):=by
 induction r using Rel.cs with
 |none=>exact h _ .none
 |int _ _=>exact h _ (.int _ _)
 |_=>exact aL
theorem Jm(p:IsPart v o)(h:Q o s):wpAny (model ab.prog ab.w) A (Builtin.Slice.slicePartIndex v) Q E s:=by
 induction p with
 |none=>exact aey h
 |int i t=>exact slicePart_int h
theorem ZX(lo aI:Option Int)(n:Nat):Builtin.Slice.sliceAdjust lo aI 1 (n:Int)=(((lo.elim 0 (clipAt n):Nat):Int),((aI.elim n (clipAt n):Nat):Int)) /\
  Builtin.Slice.slicePlaces ((lo.elim 0 (clipAt n):Nat):Int) ((aI.elim n (clipAt n):Nat):Int) 1=aI.elim n (clipAt n)-lo.elim 0 (clipAt n):=by
 constructor
 ·unfold Builtin.Slice.sliceAdjust;simp only [(by decide:¬((1:Int)<0)),if_false];congr 1
  ·induction lo with
   |none=>rfl
   |some i=>
    have:=BW n i;simp only [Option.elim];rw[this]
    split <;> first|exact NI ‹_›|exact NK ‹_› (i6 _)
  ·induction aI with
   |none=>rfl
   |some i=>
    have:=BW n i;simp only [Option.elim];rw[this]
    split <;> first|exact NI ‹_›|exact NK ‹_› (i6 _)
 ·unfold Builtin.Slice.slicePlaces;simp only [(by decide:(1:Int) > 0),if_true,Int.ediv_one]
  split <;> first|exact To ‹_›|exact Tp ‹_›
theorem Tr(vs:List Value)(a k:Nat):((List.range k).filterMap λ(j:Nat)=>vs.toArray[((a:Int)+(j:Int)*1).toNat]?)=(vs.drop a).take k:=by
 have e:(λ(j:Nat)=>vs.toArray[((a:Int)+(j:Int)*1).toNat]?)=λj=>vs.toArray[a+j]?:=by
  funext j
  have:((a:Int)+(j:Int)*1).toNat=a+j:=by exact Ro
  rw[this]
 rw[e];have:=pick_run vs.toArray a k;rw[yL]at this;exact this
theorem WY{t iK:Addr}{vs:List Value}{n:Nat}{kC ng:Value}{lo aI:Option Int}{Q:Value->Shared->Prop}{E:Value->Shared->Prop}(g:s.heap.get? t=I (dZ vs n))(az:s.heap.IsSliceOf iK kC ng .none)
  (r8:IsPart kC lo) (pu:IsPart ng aI) (cV:vs.length<=sizeLine)
  (h1:Mine.Internal.cut vs lo aI=vs->Q (.ref t) s) (h2:Q (.ref s.heap.objs.size) { s with heap:=s.heap.push (dZ (Mine.Internal.cut vs lo aI) 0) }):wpAny (model ab.prog ab.w) A (getItem (.ref t) (.ref iK)) Q E s:=by
 obtain⟨os,uL,xF,kU⟩:=id az;have aP:IsTup s.heap t vs.toArray:=mJ g;have WC:s.TypeIs (.ref iK) "slice":=⟨os,uL,xF⟩;unfold getItem;refine k5 ?_;refine a0 (aen aP.typeIs (by decide) ?_);refine a0 (qk (name:=Str.ofString "__getitem__") aP.typeIs BU
  (m5 BU aP.typeIs entry_tuple_getitem ?_ (args_tuple_getitem _ _)))
 refine(?_:wpAny _ _ (Builtin.Tuple.tupleItemsOf (.ref t)>>=_) _ _ s);refine a0 (tupleItemsOf_ aP ?_);refine a0 (BR WC ?_);rw[aK (by decide)];obtain⟨aV,hp⟩:=ZX lo aI vs.length;have xH:∀(hR:Int×Int×Nat->Shared->Prop) (ks:Value->Shared->Prop),hR (((lo.elim 0 (clipAt vs.length):Nat):Int),1,aI.elim vs.length (clipAt vs.length)-lo.elim 0 (clipAt vs.length)) s ->
   wpAny (model ab.prog ab.w) A.in1 (Builtin.Slice.sliceApplied (.ref iK) (pure ((vs.toArray.size:Nat):Int))) hR ks s:=by
  intro hR ks aH;unfold Builtin.Slice.sliceApplied Builtin.Slice.sliceFields;refine a0 (a0 (hU uL kU (x:=kC) aa (a0 (hU uL kU (x:=ng) aa (a0 (hU uL kU (x:=.none) aa (cz ?_)))))));refine a0 (aey ?_);refine(?_:wpAny _ _ (if ((1:Int)==0)=aw then _ else _) _ _ s);rw[aR (by decide)];refine a0 (Jm r8 (a0 (Jm pu (a0 (cz ?_)))));rw[List.size_toArray];refine(?_:wpAny _ _ (match Builtin.Slice.sliceAdjust lo aI 1 (vs.length:Int) with|(lo,aI)=>pure (lo,(1:Int),Builtin.Slice.slicePlaces lo aI 1)) _ _ s);rw[aV];refine(?_:wpAny _ _ (pure (_,(1:Int),Builtin.Slice.slicePlaces _ _ 1)) _ _ s);rw[hp];exact cz aH
 refine a0 (xH _ _ ?_);have EP:sizeOk (.seq (Mine.Internal.cut vs lo aI).toArray):=by
  refine(?_:(Mine.Internal.cut vs lo aI).toArray.size<=sizeLine);rw[List.size_toArray];exact b0 (A2 vs lo aI) cV
 dsimp only;rw[Tr]
 split
 ·rename_i aA
  simp only [Bool.and_eq_true,beq_iff_eq,List.size_toArray]at aA;have e:Mine.Internal.cut vs lo aI=vs:=by
   unfold Mine.Internal.cut;have aE:lo.elim 0 (clipAt vs.length)=0:=yN aA.1.1;rw[aE]at aA ⊢;rw[HO,aA.2,iG]
  refine a0 (m:=Builtin.Tuple.tupleIsExact (.ref t)) (a0 (BR aP.typeIs (cz ?_)));rw[aK (by decide)];exact a0 (tK (cz ⟨_,aa,cz (h1 e)⟩))
 ·exact a0 (m:=Builtin.Tuple.tupleExact _) (qj (cz ⟨_,aa,cz h2⟩) EP)
theorem RY(h:b-a=n)(hle:b<=n):a=0\/n=0:=by
 rcases aff n with e|e
 ·exact .inr e
 ·subst h;exact .inl (Nat.eq_zero_of_not_pos λaV=>absurd (ae4 (d4 e (BZ _ _)) aV) (vN.mpr hle))
theorem YK(aI:Option Int)(n:Nat):aI.elim n (clipAt n)<=n:=by
 induction aI with
 |none=>exact bx _
 |some i=>
  have:=BW n i;simp only [Option.elim];exact tP.mp (Zm (i6 _) ‹_›)
theorem Jc(x:Str)(lo aI:Option Int):(Builtin.Str.strSliceIndices lo aI 1 x.length).filterMap (x.cps[·]?)=Mine.Internal.cut x.cps.toList lo aI /\
  ((Builtin.Str.strSliceIndices lo aI 1 x.length).length=x.length->Mine.Internal.cut x.cps.toList lo aI=x.cps.toList):=by
 have e:Builtin.Str.strSliceIndices lo aI 1 x.length=sliceRange ((lo.elim 0 (clipAt x.length):Nat):Int) ((aI.elim x.length (clipAt x.length):Nat):Int) 1:=by
  unfold Builtin.Str.strSliceIndices;simp only [(by decide:(1:Int) > 0),if_true];congr 1
  ·induction lo with
   |none=>rfl
   |some i=>simp only [Option.elim];rw[BW]
  ·induction aI with
   |none=>rfl
   |some i=>simp only [Option.elim];rw[BW]
 have hl:x.cps.toList.length=x.length:=by simp [Str.length]
 have Av:Mine.Internal.cut x.cps.toList lo aI=(x.cps.toList.drop (lo.elim 0 (clipAt x.length))).take (aI.elim x.length (clipAt x.length)-lo.elim 0 (clipAt x.length)):=by
  unfold Mine.Internal.cut;rw[hl]
 rw[e,sliceRange_one]
 constructor
 ·rw[pick_run,Av]
 ·intro h;replace h:=(tO ..) ▸ (bC ..) ▸ h;have aE:=RY h (YK aI x.length);rw[Av];rcases aE with aE|aE
  ·rw[aE]at h ⊢;rw[HO,h,<-hl,iG]
  ·have:x.cps.toList=[]:=afA (hl.trans aE);rw[this];simp
theorem R3(ak:hu x)(h:∀c∈y.cps.toList,c∈x.cps.toList)(hl:y.length<=x.length):hu y:=by
 refine⟨b0 hl ak.1,?_⟩;have bY:=ak.2;unfold PyData.strOk at bY ⊢;rw[Array.all_eq_true_iff_forall_mem]at bY ⊢;intro c aA;exact bY c (afV.mp (h c (afV.mpr aA)))
theorem hu.cut(ak:hu x)(lo aI:Option Int):hu (oV x lo aI):=by
 refine R3 ak ?_ ?_
 ·intro c aA;simp only [oV,Mine.Internal.cut]at aA;exact List.mem_of_mem_drop (HH aA)
 ·have:=A2 x.cps.toList lo aI
  simpa [oV,Str.length] using this
set_option tactic.hygienic true in
theorem ah.slice{a kC ng:Value}{iK:Addr}{x:V}{lo aI:Option Int}(i:Inv ab σ ρ s.heap)(bf:Rel ρ s.heap a x)(az:s.heap.IsSliceOf iK kC ng .none)(r8:IsPart kC lo)(pu:IsPart ng aI) :
  ah ab W ρ s A cW (getItem a (.ref iK)) (j7 lo aI x σ):=by
 induction bf using Rel.cs with
 |@tup _ vs n l off g hl r=>
  refine ah.grown i λQ E br=>WY g az r8 pu hl (λe=>?_) ?_
  ·refine br _ s.heap s.toks (λaf aJ e=>e) (.tup (n:=n) off g hl ?_);have:=r.cut lo aI;rw[e]at this;exact this
  ·have ar:∀b o,s.heap.get? b=I o->(s.heap.push (dZ (Mine.Internal.cut vs lo aI) 0)).get? b=I o:=λb o e=>fH _ e;exact br _ _ s.toks ar (.tup (n:=0) i.mF (gR _ aa) (b0 (A2 vs lo aI) hl) ((r.cut lo aI).sub (Sub.keeps ar)))
 |str y t a9=>
  obtain⟨p,hp⟩:∃p:Option (Int×Tok),kC=partValue p/\p.map (·.1)=lo:=by
   induction r8 with
   |none=>exact⟨U,aa,aa⟩
   |int k u=>exact⟨I (k,u),aa,aa⟩
  obtain⟨q,aH⟩:∃p:Option (Int×Tok),ng=partValue p/\p.map (·.1)=aI:=by
   induction pu with
   |none=>exact⟨U,aa,aa⟩
   |int k u=>exact⟨I (k,u),aa,aa⟩
  obtain⟨os,uL,xF,kU⟩:=az;refine ah.same i λQ E br=>wpAny_getItem_str_slice (l:=p) (u:=q) (st:=U) ⟨os,uL,xF,by rw[kU,hp.1,aH.1];rfl⟩ aa ?_;have av:slicePicked y p q U=Builtin.Str.strSliceIndices lo aI 1 y.length:=by unfold slicePicked;rw[hp.2,aH.2];rfl
  unfold sliceMade;rw[av]
  split
  ·rename_i aA
   simp only [Bool.and_eq_true,beq_iff_eq]at aA;have:=(Jc _ lo aI).2 aA.2;refine br _ s.toks ?_;have ay:∀x:Str,Mine.Internal.cut x.cps.toList lo aI=x.cps.toList->oV x lo aI=x:=λx e=>by unfold oV;rw[e]
   refine(?_:Rel _ _ _ (V.str _));rw[ay _ this];exact .str _ _ a9
  ·rw[(Jc _ lo aI).1];exact⟨(a9.cut lo aI).1,br _ _ (.str _ _ (a9.cut lo aI))⟩
 |ref bL=>
  refine ah.fb λl bX=>?_;obtain⟨vs,m,g,hl,r⟩:=i.list bX bL;refine ah.wW i λQ E br=>wpAny_getItem_list_slice (gd g) az r8 pu .none (by simp) ?_ (by simpa using hl);rw[Sm];have ar:∀b o,s.heap.get? b=I o->(s.heap.push (en (Mine.Internal.cut vs lo aI) 0)).get? b=I o:=λb o e=>fH _ e;exact br _ (Mine.Internal.cut vs lo aI) 0 _ s.toks ar u3 (gR _ aa) (b0 (A2 vs lo aI) hl) ((r.cut lo aI).sub (Sub.keeps ar))
 |_=>exact aL
end
section
theorem Sv{n:Nat}{k:Int}(g:s.heap.get? l=I (en vs n))(aE:0<=k)(ar:k<vs.length)(rd:k<2 ^ 63)
  (h:Q () { s with heap:=s.heap.update l (Obj.mapSeq (·.setIfInBounds k.toNat v)) }):wpAny (model ab.prog ab.w) A (PySem.setItem (.ref l) (.int k t) v) Q E s:=by
 have bw:s.heap.IsList l vs.toArray:=gd g;unfold PySem.setItem;refine k5 ?_;refine a0 (aen bw.typeIs (by decide) ?_);refine a0 (qk (name:=Str.ofString "__setitem__") bw.typeIs aew
  (m5 aew bw.typeIs entry_list_setitem ?_ (args_list_setitem _ _ _)))
 refine(?_:wpAny _ _ (Builtin.List.listSubscript? (.int k t)>>=_) _ _ s);refine a0 (wpAny_listSubscript_int (fitsIndex_of aE rd) ?_);clear rd;obtain⟨j,rfl⟩:=afJ aE;have bh:j<vs.length:=by exact kQ ‹_›
 have ak:vs.toArray[j]? =I vs[j]:=by simp [bh]
 refine(?_:wpAny _ _ ((seqItemAt l j>>=λr=>pure (r.map (j,·)))>>=_) _ _ s);refine a0 (a0 (wpAny_seqItemAt g aa (cz ?_)));rw[ak];refine(?_:wpAny _ _ (setSeqItemAt l j v>>=_) _ _ s);refine a0 (wpAny_setSeqItemAt g aa ?_);exact cz ⟨.none,aa,cz h⟩
theorem Cx(g:s.heap.get? l=I (en vs n))(aZ:f vs.toArray=ws.toArray) :
  ∃m,(s.heap.update l (Obj.mapSeq f)).get? l=I (en ws m):=by
 have e:Obj.mapSeq f (en vs n)=en ws (if ws.length=vs.length then n else n+1):=by
  unfold Obj.mapSeq en;simp only [aZ];congr 2;simp
 have:=yP (Obj.mapSeq f) g (by rw[e];rfl);rw[e]at this;exact⟨_,this⟩
theorem b8.set(r:b8 ρ h vs l)(q:Rel ρ h v x):b8 ρ h (vs.set k v) (l.set k x):=by
 induction r using b8.ind generalizing k with
 |aE=>exact .nil
 |h1 a r aj=>
  induction k with
  |zero=>exact .cons q r
  |succ k=>exact .cons a aj
theorem z0:¬tD (en vs k):=λa8=>by obtain⟨_,_,e⟩:=a8;cases e
theorem ah.Rb(i:Inv ab σ ρ s.heap)(bX:σ[n]? =I (.list l))(js:ρ[n]? =I (a,d))(g:s.heap.get? a=I (en vs k))
  (hm:∃ws,b8 ρ s.heap ws m/\ws.length<=sizeLine/\∀(Q:Unit->Shared->Prop) (E:Value->Shared->Prop),(∀h',(∃j,h'.get? a=I (en ws j))->(∀b o,b≠a->s.heap.get? b=I o->h'.get? b=I o)->Q () { s with heap:=h' })->wpAny (model ab.prog ab.w) A t Q E s) :
  ah ab W ρ s A (λaf aJ b3 eW=>True) t (oA n (.list m) σ):=by
 refine aB λae=>?_;obtain⟨ws,r,hl,EL⟩:=hm;refine ae ?_;by_cases dA:0<n
 case neg=>rw[zp dA];exact aL
 rw[rX dA (cE bX)];refine EL _ _ λh' hg ar=>?_;obtain⟨j,hg⟩:=hg;have cg:=i.set (W:=W) (n:=n) (a:=a) (o:=.list m) (h':=h') dA js (λb2 e=>by replace e:=g ▸ e;cases e;exact z0) ar (oI g) ⟨_,hg⟩ λx=>⟨ws,j,hg,hl,r.ext x⟩;exact⟨ρ,h',s.toks,aa,cg.1,cg.2,aL⟩
theorem f7.stored(az:∀s,k=.inr s->hu s)(fA:Rel ρ h v x)(r:f7 ρ h cj l):f7 ρ h (PySem.stored cj k v) (kY l k x):=by
 have WA:∀{cj:List (Key×Value)}{l:Tab},f7 ρ h cj l->(cj.any λw7=>decide (w7.1=k))=(l.any λp=>decide (p.1=k)):=by
  intro cj l r
  induction r with
  |nil=>rfl
  |cons _ _ _ aj=>rw[PX,PX,aj]
 have E4:∀{cj:List (Key×Value)}{l:Tab},f7 ρ h cj l->f7 ρ h (cj.map λw7=>if w7.1=k then (w7.1,v) else w7) (l.map λp=>if p.1=k then (p.1,x) else p):=by
  intro cj l r
  induction r with
  |nil=>exact .nil
  |@cons eo v' il cj l e0 bI _ aj=>
   rw[ea,ea];by_cases ar:eo=k
   ·rw[aK ar,aK ar];exact .cons e0 fA aj
   ·rw[aR ar,aR ar];exact .cons e0 bI aj
 have xH:∀{cj:List (Key×Value)}{l:Tab},f7 ρ h cj l->f7 ρ h (cj++[(k,v)]) (l++[(k,x)]):=by
  intro cj l r
  induction r with
  |nil=>exact .cons az fA .nil
  |cons e0 bI _ aj=>exact .cons e0 bI aj
 unfold PySem.stored kY;rw[WA r];by_cases aA:(l.any λp=>decide (p.1=k))=aw
 ·rw[aK aA,aK aA];exact E4 r
 ·rw[aR aA,aR aA];exact xH r
theorem Nt(l:Tab)(k:Key)(x:V):(kY l k x).length<=l.length+1:=by
 unfold kY
 split
 ·rw[bC];exact gH _
 ·rw[dp];exact bx _
theorem Inv.putD(i:Inv ab σ ρ s.heap)(dA:0<n)(bX:σ[n]? =I (.dict v l))(js:ρ[n]? =I (a,d))(hg:h'.DictOf (keyKind ab.prog ab.w) a q0)(ar:∀b o,b≠a->s.heap.get? b=I o->h'.get? b=I o)(r:f7 ρ s.heap q0 m)(hl:q0.length<=sizeLine) :
  Inv ab (σ.set n (.dict (v+1) m)) (ρ.set n (a,v+1)) h'/\Ext W ρ s.heap (ρ.set n (a,v+1)) h'/\True:=by
 obtain⟨av,az,cj,Wl,_,_⟩:=i.dict bX js;have av:d=v:=av;subst av;have:=i.put (W:=W) (v':=d+1) (o:=.dict (d+1) m) dA js (gH _) (λe=>absurd e (HB _)) ar (by obtain⟨_,_,_,g,_,d,_⟩:=Wl;exact Gf g ⟨_,_,d⟩) (by obtain⟨o',_,_,jt,_⟩:=hg;exact⟨o',jt⟩) λx=>⟨aa,az,q0,hg,hl,r.sub x.sub⟩;exact⟨this.1,this.2,aL⟩
theorem ah.Rc(i:Inv ab σ ρ s.heap)(bX:σ[n]? =I (.dict v l))(js:ρ[n]? =I (a,d))
  (hm:∃q0,f7 ρ s.heap q0 m/\q0.length<=sizeLine/\∀(Q:Unit->Shared->Prop) (E:Value->Shared->Prop),(∀h' bj,h'.DictOf (keyKind ab.prog ab.w) a q0->(∀b o,b≠a->s.heap.get? b=I o->h'.get? b=I o)->Q () (At h' bj s))->wpAny (model ab.prog ab.w) A t Q E s) :
  ah ab W ρ s A (λaf aJ b3 eW=>True) t (putD n m σ):=by
 refine aB λae=>?_;obtain⟨q0,r,hl,EL⟩:=hm;refine ae ?_;by_cases dA:0<n
 case neg=>rw[J3 dA];exact aL
 rw[zB dA bX];refine EL _ _ λh' bj hg ar=>?_;refine aB λae=>?_;obtain⟨fs,il,_⟩:=i.putD (W:=W) dA bX js hg ar r hl;exact ae ⟨_,h',bj,aa,fs,il,aL⟩
theorem ij.stored{h:Heap}{k:List Int}{ad:Addr}{v:Value}{x:V}(az:c9 ρ ad/\∃vs n,h.get? ad=I (dZ vs n))(fA:Rel ρ h v x){xs:List (List Int×Addr×Value)}{l:n6}(r:ij ρ h xs l):ij ρ h (storedH xs k ad v) (mz l k x):=by
 have E4:∀{xs:List (List Int×Addr×Value)}{l:n6},ij ρ h xs l->ij ρ h (xs.map (putAt k v)) (l.map λp=>if p.1=k then (p.1,x) else p):=by
  intro xs l r
  induction r with
  |nil=>exact .nil
  |@cons eo qb v' il xs l e0 bI _ aj=>
   rw[ea,ea];unfold putAt;by_cases ar:eo=k
   ·rw[aK ar,aK ar];exact .cons e0 fA aj
   ·rw[aR ar,aR ar];exact .cons e0 bI aj
 have xH:∀{xs:List (List Int×Addr×Value)}{l:n6},ij ρ h xs l->ij ρ h (xs++[(k,ad,v)]) (l++[(k,x)]):=by
  intro xs l r
  induction r with
  |nil=>exact .cons az fA .nil
  |cons e0 bI _ aj=>exact .cons e0 bI aj
 unfold storedH mz
 induction e:j6 l k with
 |none=>rw[r.at.1 e];exact xH r
 |some y=>obtain⟨p,hp,_⟩:=r.at.2 y e;rw[hp];exact E4 r
theorem Rz(l:n6)(k:List Int)(x:V):(mz l k x).length<=l.length+1:=by
 unfold mz
 split
 ·rw[bC];exact gH _
 ·rw[dp];exact bx _
theorem YU{prog:Program}{w:World}{h:Heap}{a:Addr}(g:h.DictOf (keyKind prog w) a []):h.DictOfH (y8 prog w) a []:=by
 refine aB λae=>?_;obtain⟨o,aW,dI,ho,ak,hd,ar,hp,ao⟩:=g;have e:aW.toList=[]:=by
  generalize aW.toList=L at hp;cases hp;rfl
 exact ae ⟨o,aW,dI,ho,ak,hd,e,λaf hm=>absurd hm List.not_mem_nil,mr⟩
theorem Ti(dA:0<n)(h:σ[n]? =I o)(aM:nh o=I v):zA n m σ=.ok () (σ.set n (.eC (v+1) m)):=by
 refine(?_:(match σ[n]?.bind nh with|some v=>if 0<n then Res.ok () (σ.set n (.eC (v+1) m)) else .bad|none=>.bad)=_);rw[h];refine(?_:(match nh o with|some v=>if 0<n then Res.ok () (σ.set n (.eC (v+1) m)) else .bad|none=>.bad)=_);rw[aM];exact aK dA
theorem Tj(dA:¬0<n):zA n m σ=.bad:=by
 show(match σ[n]?.bind nh with|some v=>if 0<n then Res.ok () (σ.set n (.eC (v+1) m)) else .bad|none=>.bad)=_
 induction σ[n]?.bind nh with
 |none=>rfl
 |some o=>exact aR dA
theorem ah.pC{n v:Nat}{o:O}{l:n6}{a:Addr}{d:Nat}{bv Nx:Value}{y z:V}{xs:List (List Int×Addr×Value)}(i:Inv ab σ ρ s.heap)(aY:A.units+201<cLine)(bX:σ[n]? =I o)(aM:nh o=I v)(js:ρ[n]? =I (a,d))(Wh:d=v)(ER:(a==sysModules)=aS)
  (hd:s.heap.DictOfH (y8 ab.prog ab.w) a xs) (hl:xs.length<=sizeLine) (r:ij ρ s.heap xs l) (bO:Rel ρ s.heap bv y) (rc:Rel ρ s.heap Nx z) :
  ah ab W ρ s A (λaf aJ b3 eW=>True) (PySem.setItem (.ref a) bv Nx) (Mine.Internal.pC n l y z σ):=by
 unfold Mine.Internal.pC
 induction fe:ll y with
 |none=>exact aL
 |some k=>
  refine ah.ite λaA=>?_;refine aB λae=>?_;obtain⟨ad,rfl,ar,aP⟩:=IT (prog:=ab.prog) (w:=ab.w) bO fe;refine ae ?_;by_cases dA:0<n
  case neg=>rw[Tj dA];exact aL
  rw[Ti dA bX aM];subst Wh;refine wpAny_setItem_heap (aev (by exact bF 0xA10842400020284264F82400021 aa aY)) ar hd (λh' jv e0=>?_) hl;refine aB λae=>?_;obtain⟨b2,_,_,ho,_,Wm,_⟩:=id hd;obtain⟨wU,_,_,jt,_,agD,_⟩:=id jv;have cg:=i.put (W:=W) (v':=d+1) (o:=.eC (d+1) (mz l k z)) dA js (gH _) (λe=>absurd e (HB _)) (λb o au e=>(e0.2 b au).trans e)
   (Gf ho ⟨_,_,Wm⟩) ⟨wU,jt⟩ λx=>⟨aa,ER,_,jv,by rw[((r.stored (k:=k) aP rc).length)];exact b0 (Rz ..) aA,(r.stored aP rc).sub x.sub⟩
  exact ae ⟨_,h',_,aa,cg.1,cg.2,aL⟩
theorem ah.setItem(i:Inv ab σ ρ s.heap)(aY:A.units+201<cLine)(bf:Rel ρ s.heap a x)(bO:Rel ρ s.heap b y)(rc:Rel ρ s.heap c z) :
  ah ab W ρ s A (λaf aJ b3 eW=>True) (PySem.setItem a b c) (setItem x y z σ):=by
 induction bf using Rel.cs with
 |ref bL=>
  refine ah.jc λo bX=>?_
  induction o using O.casesOn with
  |list l=>
   induction bO using Rel.cs with
   |int k t=>
    refine ah.ite λaA=>?_;refine aB λae=>?_;obtain⟨vs,m,g,hl,r⟩:=i.list bX bL;have hlen:=r.length;obtain⟨aE,h1⟩:=aA;have az:=pB;refine ae (ah.Rb i bX bL g ⟨vs.set (Int.toNat _) c,r.set rc,by simpa using hl,λQ E br=>Sv g aE (by rw[r.length];assumption) (yO ‹_› (ph (uy (by rw[<-r.length];assumption)) (by decide))) (br _ (Cx g (by simp)) λb o au e=>?_)⟩);rw[yQ _ _ (kv au)];exact e
   |_=>exact aL
  |dict u9 l=>
   refine(?_:ah ab W ρ s A _ _ (rZ _ l y z σ));unfold rZ
   induction fe:keyOf y with
   |none=>
    induction l using List.casesOn with
    |cons _ _=>exact aL
    |nil=>
     refine aB λae=>?_;obtain⟨av,az,cj,hd,hl,r⟩:=i.dict bX bL;refine ae ?_;cases r;exact ah.pC i aY bX aa bL av az (YU hd) (eV _) .nil bO rc
   |some ae=>
    refine ah.ite λaA=>?_;refine aB λae=>?_;obtain⟨_,az,cj,hd,hl,r⟩:=i.dict bX bL;obtain⟨h1,h2⟩:=w9 bO fe;have hlen:=r.length;refine ae ?_;exact ah.Rc i bX bL ⟨_,r.stored h2 rc,by rw[(r.stored h2 rc).length];exact b0 (Nt ..) aA,λQ E br=>wpAny_setItem_pairs h1 hd (λh' jv ar=>br h' _ jv λb o au e=>(ar.2 b au).trans e) hl⟩
  |inst _ _=>exact aL
  |bT _=>exact aL
  |eC u9 l=>
   refine aB λae=>?_;obtain⟨av,az,xs,hd,hl,r⟩:=i.eC bX bL;exact ae (ah.pC i aY bX aa bL av az hd hl r bO rc)
  |cache=>exact aL
 |_=>exact aL
theorem ah.uD{β a6:Type}{t:Sem β}{x:V}{k:List V->M a6}{R:a6->Map->Heap->β->Prop}(h1:∀l,x=.tup l->ah ab W ρ s A R t (k l σ))(h2:∀n l,x=.ref n->σ[n]? =I (.list l)->ah ab W ρ s A R t (k l σ)) :
  ah ab W ρ s A R t ((Mine.Internal.uD x>>=k) σ):=by
 induction x using V.casesOn with
 |tup l=>exact h1 l aa
 |ref n=>exact ah.fb λl hl=>h2 n l aa hl
 |none=>exact aL
 |bool _=>exact aL
 |int _=>exact aL
 |str _=>exact aL
theorem ah.km(i:Inv ab σ ρ s.heap)(bf:Rel ρ s.heap a x):ah ab W ρ s A cW (call (.builtin "len") [a]) (km x σ):=by
 have az:=pB
 induction bf using Rel.cs with
 |tup off g hl r=>
  refine ah.same i λQ E br=>P.len_tuple g (by simp;first|omega) ?_;have:=br _ (s.toks+1+1) (.int _ (s.toks+1))
  simpa [r.length] using this
 |ref bL=>
  refine ah.fb λl bX=>?_;obtain⟨vs,m,g,hl,r⟩:=i.list bX bL;refine ah.same i λQ E br=>Calls.call_len_list (gd g) (by simp;first|omega) ?_;have:=br _ (s.toks+1+1) (.int _ (s.toks+1))
  simpa [r.length] using this
 |_=>exact aL
theorem UX(r:f7 ρ h cj l):∀{vs:List Value},vs.length=cj.length->(∀(j:Nat) (v:Value),vs[j]? =I v->∃k x,cj[j]? =I (k,x)/\uB k v=aw)->b8 ρ h vs (l.map λp=>h7 p.1):=by
 induction r with
 |nil=>
  intro vs hl _;rw[List.length_eq_zero_iff.mp hl];exact .nil
 |cons az r rs aj=>
  intro vs hl H
  induction vs using List.casesOn with
  |nil=>cases hl
  |cons v vs=>
   obtain⟨eo,il,e,ar⟩:=H 0 v aa;cases e;refine .cons ?_ (aj (yF hl) λj v aM=>H (j+1) v aM);rcases nF ar with ⟨i,t,rfl,rfl⟩|⟨y,t,rfl,rfl⟩
   ·exact .int i t
   ·exact .str y t (az y aa)
theorem V6(bw:s.TypeIs (.ref r) "dict")(h:Q aS s):wpAny (model ab.prog ab.w) A (Builtin.List.listLengthHint (.ref r)) Q E s:=by
 unfold Builtin.List.listLengthHint;refine a0 (tJ bw PySem.F.slot_dict_len.lookup ?_);generalize xw:("dict.__len__" : String)=EE
 wp_delta
 rw[show splitId EE=I ("dict", "__len__") from by subst xw;decide +kernel];subst xw;refine a0 (yB (T := "dict") (b:=aw) bw PySem.F.kt_sub_dict ?_);refine Hy (λpW=>absurd pW (by decide)) λaf=>?_;refine Hy (λaf=>?_) λpW=>absurd (by decide +kernel) pW;exact a0 (BR bw (cz h))
theorem Zs(a8:A.handled=U)(kU:(d==sysModules)=aS)(hd:s.heap.DictAt (keyKind ab.prog ab.w) d cj dI)(ao:cj.length<=sizeLine)
  (br:∀h' bj acc c,(∀b o,s.heap.get? b=I o->h'.get? b=I o)->h'.get? s.heap.objs.size=I (en acc c)->acc.length=cj.length->(∀(j:Nat) (v:Value),acc[j]? =I v->∃k x,cj[j]? =I (k,x)/\uB k v=aw)->Q (.ref s.heap.objs.size) (At h' bj s)) :
  wpAny (model ab.prog ab.w) A (call (.type "list") [.ref d]) Q E s:=by
 refine aeE (Q₁:=λobj s₁=>obj=.ref s.heap.objs.size/\s₁ = { s with heap:=s.heap.push { cls:=.type "list",data:=.seq #[] } }) aeR (aeJ _) aeP (code_list_new _ ⟨aa,aa⟩) ?_;rintro obj s₁ ⟨rfl,rfl⟩;have Az:s.heap.objs.size≠d:=Nat.ne_of_gt (hd.lt_size:d<s.heap.objs.size);have lR:(s.heap.push { cls:=.type "list",data:=.seq #[] }).get? s.heap.objs.size=I { cls:=.type "list",data:=.seq #[] }:=gR _ aa;refine⟨⟨_,lR,aa⟩,aeT _ _,?_⟩;have zF:∀(f:Obj->Obj) (h:Heap) b o,b≠s.heap.objs.size->h.get? b=I o->(h.update s.heap.objs.size f).get? b=I o:=λf h b o au e=>(yQ _ _ (kv au)).trans e;refine(?_:wpAny _ _ (do let old <-Builtin.List.listItems (.ref s.heap.objs.size);Builtin.List.listUpdate (.ref s.heap.objs.size) (λaf=>#[]);letGo old.toList.reverse;Builtin.List.listExtendWith (.ref s.heap.objs.size) (.ref d) .none) _ _ _);refine a0 ?_;unfold Builtin.List.listItems;refine a0 (o9 lR aa (cz ?_));refine(?_:wpAny _ _ (updateSeq s.heap.objs.size (λaf=>#[])>>=λaf=>letGo (#[]:Array Value).toList.reverse>>=λaf=>Builtin.List.listExtendWith (.ref s.heap.objs.size) (.ref d) .none) _ _ _);refine a0 (Hx lR aa (a0 (BT ?_)));have uZ:=yP (Obj.mapSeq (λaf=>(#[]:Array Value))) lR aa;have uV:((s.heap.push { cls:=.type "list",data:=.seq #[] }).update s.heap.objs.size (Obj.mapSeq (λaf=>(#[]:Array Value)))).DictAt (keyKind ab.prog ab.w) d cj dI:=(hd.push _).at' λo e=>zF _ _ _ _ Az.symm e;have kept:∀b o,s.heap.get? b=I o->((s.heap.push { cls:=.type "list",data:=.seq #[] }).update s.heap.objs.size (Obj.mapSeq (λaf=>(#[]:Array Value)))).get? b=I o:=λb o e=>zF _ _ _ _ (gv (Heap.lt_size e)) (fH _ e);generalize (s.heap.push { cls:=.type "list",data:=.seq #[] }).update s.heap.objs.size (Obj.mapSeq (λaf=>(#[]:Array Value)))=dE at uZ uV kept ⊢;unfold Builtin.List.listExtendWith;refine a0 (BR (T := "dict") uV.dictOf.typeIs ?_);have q7:Builtin.List.listSameRef (.ref s.heap.objs.size) (.ref d)=aS:=by simp [Builtin.List.listSameRef,Az]
 have eZ:(Value.type "dict" == Value.type "list")=aS:=by decide
 have n2:(Value.type "dict" == Value.type "tuple")=aS:=by decide
 simp only [q7,eZ,n2,Bool.or_false,Bool.false_eq_true,if_false];refine a0 (aer kU uV ?_);have xJ:s.heap.objs.size≠dE.objs.size:=gv (Heap.lt_size uZ);refine a0 (k5 (V6 (uV.push _).dictOf.typeIs ?_));rw[aK (by decide +kernel)];refine a0 (tK (a0 ?_));have Ms:=fH ({ cls:=.type "dict_keyiterator",data:=.fields #[.ref d,.int 0 0,.int cj.length 0,.int dI 0] }:Obj) uZ;refine(?_:wpAny _ _ (updateSeq s.heap.objs.size (·.push .none)>>=λaf=>updateSeq s.heap.objs.size (·.pop)) _ _ _);refine a0 (Hx Ms aa ?_);have Mr:=yP (Obj.mapSeq (·.push Value.none)) Ms aa;refine Hx (hz:=by seq_fits) Mr aa ?_;have WD:=yP (Obj.mapSeq (·.pop)) Mr aa;have FT:∀b o,b≠s.heap.objs.size->(dE.push ({ cls:=.type "dict_keyiterator",data:=.fields #[.ref d,.int 0 0,.int cj.length 0,.int dI 0] }:Obj)).get? b=I o->(((dE.push ({ cls:=.type "dict_keyiterator",data:=.fields #[.ref d,.int 0 0,.int cj.length 0,.int dI 0] }:Obj)).update s.heap.objs.size (Obj.mapSeq (·.push Value.none))).update s.heap.objs.size (Obj.mapSeq (·.pop))).get? b=I o:=λb o au e=>zF _ _ _ _ au (zF _ _ _ _ au e);have WH:=FT _ _ xJ.symm (gR _ aa);have sO:(((dE.push ({ cls:=.type "dict_keyiterator",data:=.fields #[.ref d,.int 0 0,.int cj.length 0,.int dI 0] }:Obj)).update s.heap.objs.size (Obj.mapSeq (·.push Value.none))).update s.heap.objs.size (Obj.mapSeq (·.pop))).DictAt (keyKind ab.prog ab.w) d cj dI:=(uV.push _).at' λo e=>FT _ _ Az.symm e;have UZ:∀b o,s.heap.get? b=I o->(((dE.push ({ cls:=.type "dict_keyiterator",data:=.fields #[.ref d,.int 0 0,.int cj.length 0,.int dI 0] }:Obj)).update s.heap.objs.size (Obj.mapSeq (·.push Value.none))).update s.heap.objs.size (Obj.mapSeq (·.pop))).get? b=I o:=λb o e=>FT _ _ (gv (Heap.lt_size e)) (fH _ (kept b o e));refine cz ⟨plainId_quiet aeN _,?_⟩;refine aeC (Walks.dictKeys (A:=A.in1.in1) (knd:=keyKind ab.prog ab.w) a8 dE.objs.size d (gv uV.lt_size:d≠dE.objs.size) cj dI).toS ao s.heap.objs.size (by simp [xJ,Az]) .none cj.length 0 _ #[] _ aa (eV _) ⟨⟨_,WH,aa,aa⟩,sO⟩ WD (afD _) λs' acc c hm Fy uY=>?_;rw[afh hm];refine⟨aa,br s'.heap s'.toks acc.toList c (λb o e=>hm.heap b o (λmN=>?_) (UZ b o e)) (by simpa [en] using Fy) (by rw[afW,uY.1]) λj v aM=>uY.2 j v (by simpa using aM)⟩;rcases List.mem_cons.mp mN with aG|mN
 ·exact absurd (Heap.lt_size e) (by rw[aG];exact vO _)
 ·have:=Heap.lt_size (kept b o e);rw[bN.mp mN]at this;exact absurd this (vO _)
theorem ah.n3(a8:A.handled=U)(i:Inv ab σ ρ s.heap)(bf:Rel ρ s.heap a x):ah ab W ρ s A cW (call (.type "list") [a]) (n3 x σ):=by
 have key:∀(ad:Addr) (T:String) (o:Obj) (vs:List Value) (n:Nat) (l:List V),a=.ref ad->(T = "list" \/ T = "tuple")->s.heap.get? ad=I o->o.cls=.type T->o.data=.seq vs.toArray n->vs.length<=sizeLine ->
   b8 ρ s.heap vs l->ah ab W ρ s A cW (call (.type "list") [a]) (cH (.list l) σ):=by
  intro ad T o vs n l e bw ho aA hd hl r;subst e;refine ah.wW i λQ E br=>call_list_seq ad bw ho aA hd (λh' fG ar hg=>?_) (by simpa using hl);exact br _ vs fG h' s.toks ar u3 hg hl (r.sub (Sub.keeps ar))
 induction bf using Rel.cs with
 |tup off g hl r=>exact key _ "tuple" _ _ _ _ aa (.inr aa) g aa aa hl r
 |ref bL=>
  refine ah.jc λo bX=>?_
  induction o with
  |list l=>
   obtain⟨vs,m,g,hl,r⟩:=i.list bX bL;exact key _ "list" _ _ _ l aa (.inl aa) g aa aa hl r
  |dict u9 l=>
   obtain⟨_,kU,cj,hd,hl,r⟩:=i.dict bX bL;obtain⟨dI,hd⟩:=hd.dictAt;refine ah.wW i λQ E br=>Zs a8 kU hd hl λh' bj acc c ar hg h1 h2=>?_;exact br _ acc c h' bj ar u3 hg (by rw[h1];exact hl) (UX (r.sub (Sub.keeps ar)) h1 h2)
  |inst _ _=>exact aL
  |bT _=>exact aL
  |eC _ _=>exact aL
  |cache=>exact aL
 |none=>exact aL
 |bool _=>exact aL
 |int _ _=>exact aL
 |str _ _ _=>exact aL
theorem ah.oW{a:Value}{x:V}(i:Inv ab σ ρ s.heap)(bf:Rel ρ s.heap a x):ah ab W ρ s A cW (call (.type "tuple") [a]) (oW x σ):=by
 refine ah.uD (λl e=>?_) λn l e bX=>?_
 ·subst e
  cases bf with
  |tup off g hl r=>exact ah.same i λQ E br=>call_tuple_same (mJ g) (br _ s.toks (.tup off g hl r))
 ·subst e
  cases bf with
  |ref bL=>
   obtain⟨vs,m,g,hl,r⟩:=i.list bX bL;refine ah.grown i λQ E br=>call_tuple_list (gd g) (λh' ar=>?_) (by simpa using hl);have nR:∀b o,s.heap.get? b=I o->(h'.push (dZ vs 0)).get? b=I o:=λb o e=>fH _ (ar b o e);exact br _ (h'.push (dZ vs 0)) s.toks nR (.tup (n:=0) (i.keeps ar).mF (gR _ aa) hl (r.sub (Sub.keeps nR)))
set_option tactic.hygienic true in
theorem ah.zV(i:Inv ab σ ρ s.heap)(bf:Rel ρ s.heap a x)(bO:Rel ρ s.heap b y):ah ab W ρ s A cW (call (.builtin "list.append") [a,b]) (zV x y σ):=by
 induction bf using Rel.cs with
 |@ref a d n bL=>
  refine ah.fb λl bX=>ah.ite λaA=>?_;obtain⟨vs,m,g,hl,r⟩:=i.list bX bL;by_cases dA:0<n
  case neg=>rw[dR (zp dA)];exact aL
  rw[a4 (rX dA (cE bX))];refine aet ⟨m,g⟩ (λh' hg ar=>?_) (by simpa using hl);obtain⟨gK,hg⟩:=hg;have hg:h'.get? a=I (en (vs++[b]) gK):=by simpa [en] using hg
  have cg:=i.set (W:=W) (n:=n) (a:=a) (o:=.list (l++[y])) (h':=h') dA bL (λb2 e=>by replace e:=g ▸ e;cases e;exact z0) (λc o au e=>ar.extBut c o au e) (oI g) ⟨_,hg⟩
   λz=>⟨vs++[b],gK,hg,by simp;exact cb 0xA109801010C11142120021 aa aA r.length,(r.append (.cons bO .nil)).ext z⟩
  exact⟨ρ,h',s.toks,aa,cg.1,cg.2,.none⟩
 |_=>exact aL
theorem b8.last(r:b8 ρ h vs l):l.getLast? =I x->∃ws v,vs=ws++[v]/\b8 ρ h ws l.dropLast/\Rel ρ h v x:=by
 induction r using b8.ind with
 |aE=>intro e;exact a5 e
 |@h1 v vs y l a r aj=>
  intro e
  cases r with
  |nil=>cases e;exact⟨[],v,aa,.nil,a⟩
  |@cons v' af2 afZ l' qb bI=>
   refine aB λae=>?_;obtain⟨ws,u,av,cR,q⟩:=aj (by rw[<-e];rfl);refine ae ?_;exact⟨v::ws,u,by rw[av];rfl,.cons a cR,q⟩
theorem Yv(ws:List Value)(v:Value):(ws++[v]).toArray.eraseIdxIfInBounds ((ws++[v]).toArray.size-1)=ws.toArray:=by
 have ar:(ws++[v]).toArray.size-1=ws.length:=by rw[List.size_toArray,dp];rfl
 rw[ar];unfold Array.eraseIdxIfInBounds;rw[dif_pos (by rw[List.size_toArray,dp];exact jY _)]
 apply Array.toList_inj.mp
 rw[Array.toList_eraseIdx];refine(?_:(ws++[v]).eraseIdx ws.length=ws)
 induction ws with
 |nil=>rfl
 |cons a ws aj=>refine(?_:a::(ws++[v]).eraseIdx ws.length=a::ws);rw[aj (by rw[List.size_toArray,dp];rfl)]
theorem ah.zQ(i:Inv ab σ ρ s.heap)(bf:Rel ρ s.heap a x):ah ab W ρ s A cW (call (.builtin "list.pop") [a]) (zQ x σ):=by
 induction bf using Rel.cs with
 |@ref a d n bL=>
  refine ah.fb λl bX=>?_;refine aB λae=>?_;obtain⟨vs,m,g,hl,r⟩:=i.list bX bL;refine ae ?_
  induction oS:l.getLast? with
  |none=>exact aL
  |some y=>
   by_cases dA:0<n
   case neg=>rw[dR (zp dA)];exact aL
   rw[a4 (rX dA (cE bX))];refine aB λae=>?_;obtain⟨ws,v,rfl,cR,q⟩:=r.last oS;refine ae (BX PySem.F.slot_list_pop ⟨_,g,aa⟩ PySem.F.entry_list_pop (PySem.F.args_list_pop_1 _) (ag4 a _ m v (by simp) (by simpa using hl)) ⟨g,?_⟩);obtain⟨j,hg⟩:=Cx (f:=λxs=>xs.eraseIdxIfInBounds ((ws++[v]).toArray.size-1)) g (Yv ws v);have cg:=i.set (W:=W) (n:=n) (a:=a) (o:=.list l.dropLast) dA bL (λb2 e=>by replace e:=g ▸ e;cases e;exact z0) (λc o au e=>(yQ _ _ (kv au)).trans e) (oI g) ⟨_,hg⟩
    λz=>⟨ws,j,hg,by replace hl:=dp ▸ hl;exact b0 (ha _ _) hl,cR.ext z⟩
   exact⟨ρ,_,s.toks,aa,cg.1,cg.2,q.ext cg.2⟩
 |_=>exact aL
theorem ah.zT(i:Inv ab σ ρ s.heap)(bf:Rel ρ s.heap a x)(bO:Rel ρ s.heap b y):ah ab W ρ s A cW (call (.builtin "list.extend") [a,b]) (zT x y σ):=by
 induction bf using Rel.cs with
 |@ref a d n bL=>
  induction bO using Rel.cs with
  |@ref b f3 k Yw=>
   refine ah.fb λl bX=>ah.fb λl' Vh=>ah.ite λaA=>?_;refine aB λae=>?_;obtain⟨vs,m,g,hl,r⟩:=i.list bX bL;obtain⟨ws,gK,ck,fv,bI⟩:=i.list Vh Yw;have av:=r.length;have ay:=bI.length;refine ae ?_;by_cases dA:0<n
   case neg=>rw[dR (zp dA)];exact aL
   rw[a4 (rX dA (cE bX))];refine BX PySem.F.slot_list_extend ⟨_,g,aa⟩ PySem.F.entry_list_extend (PySem.F.args_list_extend_2 _ _) (ag5 a _ m b _ gK ?_ (by simpa using hl) (by simp;exact hG 0x426020E0080A808887088C520021 aa aA.2 av ay)) ⟨g,ck,?_⟩
   ·intro au;have:=(Bool.and_eq_true_iff.mp au).2;have az:=pB;unfold Builtin.List.listTooLong at this;simp at this;exact er (hG 0x8421020E0084C0084A808887088C520021 aa aA.2 av ay this)
   ·obtain⟨j,hg⟩:=Cx (f:=λx=>x++ws.toArray) (ws:=vs++ws) g (by simp);have cg:=i.set (W:=W) (n:=n) (a:=a) (o:=.list (l++l')) dA bL (λb2 e=>by replace e:=g ▸ e;cases e;exact z0) (λc o au e=>(yQ _ _ (kv au)).trans e) (oI g) ⟨_,hg⟩
     λz=>⟨vs++ws,j,hg,by rw[dp];exact hG 0x320E0080A808887088C520021 aa aA.2 av ay,(r.append bI).ext z⟩
    exact⟨ρ,_,s.toks,aa,cg.1,cg.2,.none⟩
  |_=>exact aL
 |_=>exact aL
theorem CZ(r:b8 ρ h vs l):allStrs l=I ss->StrsAre vs ss/\∀x∈ss,hu x:=by
 induction r using b8.ind generalizing ss with
 |aE=>intro e;cases e;exact⟨.nil,λaf h=>nomatch h⟩
 |@h1 v vs x l r rs aj=>
  intro e
  induction r using Rel.cs with
  |str y t a9=>
   obtain⟨ts,av,rfl⟩:=eU.mp (show(allStrs l).map (y :: ·)=I ss from e);obtain⟨h1,h2⟩:=aj av;exact⟨.cons y t h1,λz hz=>(List.mem_cons.mp hz).elim (λe=>e ▸ a9) (h2 z)⟩
  |_=>exact a5 e
theorem Jd(az:PyData.strOk sep=aw):∀{ss:List Str},(∀x∈ss,hu x)->PyData.strOk (Str.join sep ss)=aw
 |[],_=>by refine(?_:PyData.strOk Str.empty=aw);simp [PyData.strOk,Str.empty]
 |[x],h=>(h x (by simp)).2
 |x::y::r,h=>by
  refine(?_:PyData.strOk (x++sep++Str.join sep (y::r))=aw);exact C1 (C1 (h x (by simp)).2 az) (Jd az λz hz=>h z (dz _ hz))
set_option tactic.hygienic true in
theorem ah.zR{a b:Value}{x y:V}(i:Inv ab σ ρ s.heap)(bf:Rel ρ s.heap a x)(bO:Rel ρ s.heap b y):ah ab W ρ s A cW (call (.builtin "str.join") [a,b]) (zR x y σ):=by
 induction bf using Rel.cs with
 |str sep t ak=>
  have key:∀ss,(ss.map (·.length)).sum+ss.length*sep.length<=16777216->(∀x∈ss,hu x)->hu (Txt.join sep ss):=λss h1 h2=>by
   refine⟨?_,?_⟩
   ·show(Builtin.Str.glued sep ss).length<=sizeLine;rw[size_glued];exact show _<=16777216 from cb 0x8000007C2620020298218000007C2520021 aa h1 (PC _ (BZ _ _):(ss.length-1)*sep.length<=ss.length*sep.length)
   ·show PyData.strOk (Builtin.Str.glued sep ss)=aw;rw[StrLaws.glued_eq_join];exact Jd ak.2 h2
  refine ah.uD (λl e=>?_) λn l e bX=>?_
  ·subst e
   cases bO with
   |tup off g hl r=>
    refine ah.Ks λss sE=>ah.ite λaA=>?_;obtain⟨h1,h2⟩:=CZ r sE;exact ah.same i λQ E br=>join_tuple (mJ g) (by simpa using h1) aA λeu k=>br _ _ (.str _ _ (key ss aA h2))
  ·subst e
   cases bO with
   |ref bL=>
    obtain⟨vs,m,g,hl,r⟩:=i.list bX bL;refine ah.Ks λss sE=>ah.ite λaA=>?_;obtain⟨h1,h2⟩:=CZ r sE;exact ah.same i λQ E br=>join_list (gd g) (by simpa using h1) aA λeu k=>br _ _ (.str _ _ (key ss aA h2))
 |_=>exact aL
end
end Mine.Internal

set_option backward.match.sparseCases false
namespace Mine.Internal
open PySem PyProof.Rows PySem.Calls
section
theorem big(cg:ab.heap.NoLimit)(i:Inv ab σ ρ s.heap):(s.heap.objs.size==sysModules)=aS:=by
 have:=modules_low (cg.keeps i.base);exact yC (Nat.ne_of_gt this)
theorem Jf(h1:strLt b a=aS)(h2:strLt c b=aS):strLt c a=aS:=by
 unfold strLt at *;rw[decide_eq_false_iff_not] at *;exact List.le_trans h1 h2
theorem C2(h:strLt a b=aw):strLt b a=aS:=by
 unfold strLt at *;rw[decide_eq_false_iff_not];exact List.lt_asymm (vL h)
theorem zc(h1:strLt b a=aS)(h2:strLt a b=aS):a=b:=by
 unfold strLt at *;rw[decide_eq_false_iff_not] at *;have:a.cps.toList=b.cps.toList:=List.le_antisymm h1 h2;cases a;cases b
 simpa using Array.toList_inj.mp this
noncomputable abbrev Bj(l:List Str):Prop:=l.Pairwise λa b=>strLt b a=aS
theorem DE:∀{l:List Str},y∈iM x l↔y=x\/y∈l:=by
 intro cO
 induction cO with
 |nil=>
  simp [iM]
 |cons z r DE=>
  rw[uc]
  split
  ·rw[List.mem_cons,DE,List.mem_cons];exact⟨λh=>by rcases h with h|h|h <;> simp [h],λh=>by rcases h with h|h|h <;> simp [h]⟩
  ·rw[List.mem_cons]
theorem DD:∀{l:List Str},(iM x l).Perm (x::l):=by
 intro cO
 induction cO with
 |nil=>exact .refl _
 |cons z r DD=>
  rw[uc]
  split
  ·exact(List.Perm.cons z DD).trans (.swap x z r)
  ·exact .refl _
theorem DC:∀{l:List Str},Bj l->Bj (iM x l):=by
 intro cO
 induction cO with
 |nil=>intro _;exact PJ _ _
 |cons z r DC=>
  intro h;have h:=yH.mp h;rw[uc]
  split
  ·rename_i hz
   refine yH.mpr ⟨λy a9=>?_,DC h.2⟩;rcases DE.mp a9 with rfl|a9
   ·exact C2 hz
   ·exact h.1 y a9
  ·rename_i hz
   have hz:strLt z x=aS:=by simpa using hz
   refine yH.mpr ⟨λy a9=>?_,yH.mpr h⟩;rcases List.mem_cons.mp a9 with rfl|a9
   ·exact hz
   ·exact Jf hz (h.1 y a9)
theorem t8:∀{l:List Str},(fg l).Perm l:=by
 intro cO
 induction cO with
 |nil=>exact .refl _
 |cons x r t8=>exact(DD).trans (.cons x t8)
theorem t7:∀{l:List Str},Bj (fg l):=by
 intro cO
 induction cO with
 |nil=>exact .nil
 |cons _ _ t7=>exact DC t7
theorem JL:∀(p:Str) (l:List Str),risingS p l=aw->Bj (p::l)
 |p,[],_=>PJ _ _
 |p,x::r,h=>by
  have h:(!PySem.Spec.ltCps x.cps.toList p.cps.toList&&risingS x r)=aw:=h;replace h:=(ag7 ..) ▸ (Bool.and_eq_true ..) ▸ h;have h1:strLt x p=aS:=by unfold strLt;simpa using h.1
  have aj:=JL x r h.2;refine yH.mpr ⟨λy a9=>?_,aj⟩;rcases List.mem_cons.mp a9 with rfl|a9
  ·exact h1
  ·exact Jf h1 ((yH.mp aj).1 y a9)
theorem Sg(hp:l.Perm m)(az:sortedS l=aw):l=fg m:=by
 refine PY (le:=λa b=>strLt b a=aS) (λa b af aJ h1 h2=>zc h1 h2) ?_ t7 (hp.trans t8.symm)
 induction l with
 |nil=>exact .nil
 |cons x r=>exact JL x r az
theorem R1(q:StrsAre vs ss):(∀x∈ss,hu x)->b8 ρ h vs (ss.map V.str):=by
 induction q with
 |nil=>exact λaf=>.nil
 |cons y t _ aj=>exact λaz=>.cons (.str y t (az y (b9 ..))) (aj λx ak=>az x (dz _ ak))
theorem ah.ZL(i:Inv ab σ ρ s.heap)(g:s.heap.get? a=I (en vs m))(r:b8 ρ s.heap vs l)(aA:l.length<64)(sE:allStrs l=I ss):ah ab W ρ s A cW (call (.builtin "sorted") [.ref a]) (cH (.list ((fg ss).map V.str)) σ):=by
 obtain⟨h1,h2⟩:=CZ r sE;have LZ:=r.length;refine ah.wW i λQ E br=>sorted_strs (gd g) h1 (by exact bF 0x103C1084A00808508840F042120021 aa aA LZ) λout af9 a1 a2 mV=>?_;obtain⟨e,he⟩:=sortedAll_at s.heap vs out;have fv:out.toList.length=ss.length:=by rw[a1.length,a2.length_eq]
 have e0:=Sg a2 mV;subst e0;have MA:(16777216:Nat)=sizeLine:=rfl;refine br _ out.toList e _ s.toks (λaf aJ=>sortedAll_old) ?_ (by simpa [en,seqObj] using he) (by exact hG 0x41C2044000003E1088C708885088C508C40F042120021 aa aA h1.length LZ fv MA) (R1 a1 λx ak=>h2 x (a2.mem_iff.mp ak))
 induction av:s.heap.get? (s.heap.objs.size+1) with
 |none=>rfl
 |some o=>exact absurd (Heap.lt_size av) (vN.mpr (gH _))
theorem QS:∀{l:List V}{k j:Nat},qC σ y l k=I j->∃m,j=k+m/\(∃x,l[m]? =I x/\ej σ x y=I aw)/\∀p,p<m->∃x,l[p]? =I x/\ej σ x y=I aS:=by
 intro l
 induction l with
 |nil=>
  intro k j h;exact a5 h
 |cons x r aj=>
  intro k j h;have h:(match ej σ x y with|some true=>I k|some false=>qC σ y r (k+1)|none=>U)=I j:=h
  induction e:ej σ x y with
  |none=>replace h:=e ▸ h;exact a5 h
  |some b=>
   replace h:=e ▸ h
   induction b with
   |true=>cases h;exact⟨0,aa,⟨x,aa,e⟩,λp hp=>absurd hp (ae7 _)⟩
   |false=>
    obtain⟨m,h1,h2,h3⟩:=aj h;refine⟨m+1,by exact iF (cb 0x21300A020406084A001022 aa h1) (cb 0x810980500406084A001023 aa h1),h2,λp hp=>?_⟩
    induction p with
    |zero=>exact⟨x,aa,e⟩
    |succ p=>exact h3 p (by exact bF 0x2842400401094010842400021 aa hp)
theorem ah.zS(aY:A.units+201<cLine)(i:Inv ab σ ρ s.heap)(bf:Rel ρ s.heap a x)(bO:Rel ρ s.heap b y):ah ab W ρ s A cW (call (.builtin "list.index") [a,b]) (zS x y σ):=by
 have fY:=pB
 induction bf using Rel.cs with
 |ref bL=>
  refine ah.fb λl bX=>ah.ask λc aA=>?_;obtain⟨vs,m,g,hl,r⟩:=i.list bX bL
  induction aM:j5 σ y l with
  |none=>replace aA:=aM ▸ aA;exact a5 aA
  |some t=>
   induction t with
   |false=>replace aA:=aM ▸ aA;exact a5 aA
   |true=>
    replace aA:=aM ▸ aA;obtain⟨j,bh,rfl⟩:=eU.mp aA;obtain⟨gK,rfl,⟨z,hz,XG⟩,xo⟩:=QS bh;rw[kx];obtain⟨_,he⟩:=Iy (A:=A.in1) i bO (by exact show A.units+1+200<cLine from bF 0x1421323C10848000020284264F82400021 aa aY:A.in1.units+200<cLine) r aM;have hlen:=r.length;have gZ:=cE hz;have df:∀(p:Nat) (q:V) (e:Bool) (hp:p<vs.length),l[p]? =I q->ej σ q y=I e->vl σ ρ s.heap y vs[p]=e:=λp q e hp h1 h2=>by
     obtain⟨v,aM,fA⟩:=r.get h1;replace aM:=cD hp ▸ aM;cases aM;exact Ob i fA h2
    refine ah.same i λQ E br=>BX PySem.F.slot_list_index ⟨_,g,aa⟩ PySem.F.entry_list_index (PySem.F.args_list_index_2 _ _)
     (SeqAt.list_indexAt _ vs.toArray m U #[] b (vl σ ρ s.heap y) gK (by simp;exact fS gZ hlen.symm) (yO (w0 (fS gZ hlen.symm)) (ph (uy (by assumption)) (by decide))) ?_ ?_) ⟨g,λv aM=>he v (by simpa using aM),br _ _ (.int _ _)⟩
    ·simpa using df gK z aw (by exact fS gZ hlen.symm) hz XG
    ·intro p hp fu;obtain⟨q,h1,h2⟩:=xo p fu
     simpa using df p q aS (by simpa using hp) h1 h2
 |_=>exact aL
theorem ah.mT(i:Inv ab σ ρ s.heap)(bf:Rel ρ s.heap a x):ah ab W ρ s A cW (call (.builtin "sorted") [a]) (mT x σ):=by
 induction bf using Rel.cs with
 |ref bL=>
  refine ah.fb λl bX=>ah.ite λaA=>ah.Kf λo ho=>?_;obtain⟨ss,sE,rfl⟩:=eU.mp ho;obtain⟨vs,m,g,hl,r⟩:=i.list bX bL;exact ah.ZL i g r aA sE
 |_=>exact aL
theorem ah.oX(a8:A.handled=U)(i:Inv ab σ ρ s.heap)(bf:Rel ρ s.heap a x)(bO:Rel ρ s.heap b y):ah ab W ρ s A cW (call (.builtin "min") [a,b]) (oX x y σ):=by
 induction bf using Rel.cs with
 |int p t=>
  induction bO using Rel.cs with
  |int q u=>
   refine(?_:ah ab W ρ s A cW _ (.ok (V.int (min p q)) σ));have e:min p q=if q<p then q else p:=by rw[Int.min_def];split <;> split;exact absurd ‹q<p› (qt.mpr ‹_›);rfl;rfl;exact Int.le_antisymm (vW (afH.mp ‹_›)) (qt.mp ‹_›)
   rw[e];exact ah.grown i λQ E br=>min_two_ints a8 λh' bj ar=>br _ h' _ ar (by refine(?_:Rel ρ h' _ _);split;exact .int _ _;exact .int _ _)
  |_=>exact aL
 |_=>exact aL
theorem ah.zU(i:Inv ab σ ρ s.heap)(bf:Rel ρ s.heap a x)(bO:Rel ρ s.heap b y)(rc:Rel ρ s.heap c z):ah ab W ρ s A cW (call (.builtin "dict.setdefault") [a,b,c]) (zU x y z σ):=by
 induction bf using Rel.cs with
 |@ref ad d n bL=>
  refine ah.Be λl fv=>?_;obtain⟨u9,bX⟩:=Np fv
  induction ar:keyOf y with
  |none=>exact aL
  |some k=>
   refine aB λae=>?_;obtain⟨av,az,cj,hd,hl,r⟩:=i.dict bX bL;obtain⟨iQ,kd⟩:=w9 bO ar;refine ae ?_
   induction AW:dF l k with
   |some u=>
    refine aB λae=>?_;obtain⟨v,aM,fA⟩:=r.at.2 u AW;refine ae ((?_:ah ab W ρ s A cW _ ((match dF l k with|some x=>(Pure.pure x:M V)|none=>_) σ)));rw[AW];exact ah.same i λQ E br=>call_meetsIn aeM hd.typeIs aeQ (aeU _ _ _) (aeA (keyKind ab.prog ab.w) ad iQ az c)
     ⟨cj,hd,hl,(λv' sC=>by replace sC:=aM ▸ sC;cases sC;exact br _ _ fA),(λao=>by replace ao:=aM ▸ ao;exact fU ao)⟩
   |none=>
    have aM:=r.at.1 AW;refine(?_:ah ab W ρ s A cW _ ((match dF l k with|some x=>(Pure.pure x:M V)|none=>if l.length+1<=sizeLine then (putD n (kY l k z)>>=λaf=>Pure.pure z) else M.bad) σ));rw[AW];refine ah.ite λaA=>?_;by_cases dA:0<n
    case neg=>rw[dR (J3 dA)];exact aL
    rw[a4 (zB dA bX)];refine call_meetsIn aeM hd.typeIs aeQ (aeU _ _ _) (aeA (keyKind ab.prog ab.w) ad iQ az c)
     ⟨cj,hd,hl,(λv' sC=>by replace sC:=aM ▸ sC;exact a5 sC),λaf h' jv ke=>?_⟩
    have rs:=r.stored kd rc;refine aB λae=>?_;obtain⟨fs,il,_⟩:=i.putD (W:=W) dA bX bL jv (λb o au e=>(ke.2 b au).trans e) rs (by rw[rs.length];exact b0 (Nt ..) aA);exact ae ⟨_,h',_,aa,fs,il,rc.ext il⟩
 |_=>exact aL
end
end Mine.Internal

set_option backward.match.sparseCases false
namespace Mine.Internal
open PySem PyProof.Rows
structure Ho(fd:FuncData)(f:dn):Prop where
 body:fd.body=.stmts f.body
 names:fd.scope.names=f.names
 kind:fd.scope.kind=.function
 co:fd.scope.isCoroutine=aS
 gen:fd.scope.isGenerator=aS
 g8:fd.closure=[]
 globals:fd.globals=mainGlobals
 kk:fd.builtins=builtinsNs
 binds:∀vals:List Value,vals.length=f.params.length->bindArgs fd ⟨vals,[]⟩=pure (f.params.zip vals)
 J7:∀x∈f.params,f.names.lookup x=I .local\/f.names.lookup x=I .cell
 nodup:f.params.Nodup
noncomputable def p6:List Str:=["len", "list", "tuple", "range", "enumerate", "sorted", "min", "zip", "reversed"]
def BI(h:Heap)(fn:dn)(a:Addr):Prop:=∃o fd,h.get? a=I o/\o.data=.func fd/\Ho fd fn/\h.CodeRec fd.code fd.qualname
structure OwnCls(tx:ih)(h:Heap)(c:Str)(ms:List Str×List Str)(C N:Addr)(gz:Str->Option Value):Prop where
 cls:ClsAt h C N gz
 Sy:gz "__setattr__" = U
 ga:gz "__getattribute__" = U
 WW:gz "__getattr__" = U
 cmp:gz "__eq__" = U/\gz "__ne__" = U
 fld:∀f∈ms.2,gz f=U/\typeLookup (.type "object") f=pure U
 init:("__init__" : Str)∈ms.1
 KQ:∀m∈ms.1,∃a fn o,gz m=I (.ref a)/\tx.at (jq c m)=I fn/\BI h fn a/\h.get? a=I o/\o.cls=.type "function"
structure i0(tx:ih)(mg mb:Str->Option Value)(ab:Heap):Prop where
 g:ab.Ns mainGlobals mg
 b:ab.Ns builtinsNs mb
 nolimit:ab.NoLimit
 fn:∀f fn,tx.fns f=I fn->∃a,mg f=I (.ref a)/\BI ab fn a
 own:∀c ms,tx.cls c=I ms->∃C N gz,mg c=I (.ref C)/\OwnCls tx ab c ms C N gz
 blt:∀f∈p6,tx.fns f=U->mg f=U/\mb f=bootBuiltins f
 const:∀x v,tx.glob x=I v->∃val,mg x=I val/\∀ρ h,Rel ρ h val v
section
variable {mg mb:Str->Option Value}
variable {loc:Loc}{n:Nat}
theorem c7.kindOf(F:c7 ab env ns loc ρ s.heap)(h:slot ns x=I (i,k)):env.kindOf x=I k:=by
 show env.scope.names.lookup x=I k;rw[F.names];exact wq h
theorem c7.gB(F:c7 ab env ns loc ρ h)(x:Ext [] ρ h aU h'):c7 ab env ns loc aU h':=F.ext x λaf hm=>nomatch hm
theorem Lk(h:nG ns x=aw):(∃i,slot ns x=I (i,.globalImplicit))/\(x==("__debug__" : Str))=aS:=by
 unfold nG at h
 split at h
 ·exact⟨⟨_,by assumption⟩,by simpa using h⟩
 ·exact fw h
theorem ah.ldLoc(h:∀v,loc[i]? =I (I v)->ah ab W ρ s A cW t (.ok v σ)):ah ab W ρ s A cW t (ldLoc loc i σ):=by
 refine ah.bD λv aM=>h v ?_
 induction e:loc[i]? with
 |none=>rw[e]at aM;exact a5 aM
 |some o=>rw[e]at aM;induction o with
  |none=>exact a5 aM
  |some u=>cases aM;rfl
theorem ah.name(B:i0 tx mg mb ab.heap)(hg:C.glob=tx.glob)(F:c7 ab env ns loc ρ s.heap)(i:Inv ab σ ρ s.heap) :
  ah ab W ρ s A cW (eval (.Name x pos) env) (ev C (.Name x pos) ns loc σ):=by
 show ah ab W ρ s A cW _ ((if x=("__debug__" : Str) then M.bad else nC C ns x loc) σ);by_cases ak:x=("__debug__" : Str)
 ·rw[aK ak];exact aL
 ·rw[aR ak];have hd:(x==("__debug__" : Str))=aS:=by simpa using ak
  induction az:slot ns x with
  |none=>unfold nC;rw[az];exact aL
  |some p=>
   obtain⟨j,k⟩:=p
   induction k with
   | «local» =>
    have e:nC C ns x loc=Mine.Internal.ldLoc loc j:=by unfold nC;rw[az]
    rw[e];refine ah.ldLoc λv aM=>?_;refine aB λae=>?_;obtain⟨m,ao,hl⟩:=F.vars;obtain⟨val,hm,r⟩:=hl x j v az aM;exact ae (ah.same i λQ E br=>wpAny_Name (wpAny_loadName_local F.kind (F.kindOf az) ao hm (br _ s.toks r)) hd)
   |cell=>
    have e:nC C ns x loc=Mine.Internal.ldLoc loc j:=by unfold nC;rw[az]
    rw[e];refine ah.ldLoc λv aM=>?_;refine aB λae=>?_;obtain⟨c,o,aA,sP,hl⟩:=F.cell x j az;obtain⟨val,rfl,r⟩:=hl v aM;exact ae (ah.same i λQ E br=>wpAny_Name (wpAny_loadName_cell F.kind (F.kindOf az) aA sP (br _ s.toks r)) hd)
   |free=>unfold nC;rw[az];exact aL
   |globalImplicit=>
    have e:nC C ns x loc=Mine.Internal.bD (C.glob x):=by unfold nC;rw[az]
    rw[e,hg];refine ah.bD λv aM=>?_;refine aB λae=>?_;obtain⟨val,hm,r⟩:=B.const x v aM;exact ae (ah.same i λQ E br=>P6 F.kind (F.kindOf az) (afS (by rw[F.globals];exact B.g.keeps i.base) hm (br _ s.toks (r _ _))) hd)
   |globalExplicit=>unfold nC;rw[az];exact aL
theorem H6(B:i0 tx mg mb ab.heap)(F:c7 ab env ns loc ρ s.heap)(i:Inv ab σ ρ s.heap)(ak:nG ns x=aw)(aM:mg x=I v)(h:Q v s) :
  wpAny (model ab.prog ab.w) A (eval (.Name x pos) env) Q E s:=by
 refine aB λae=>?_;obtain⟨⟨j,az⟩,hd⟩:=Lk ak;exact ae (P6 F.kind (F.kindOf az) (afS (by rw[F.globals];exact B.g.keeps i.base) aM h) hd)
theorem yU(B:i0 tx mg mb ab.heap)(F:c7 ab env ns loc ρ s.heap)(i:Inv ab σ ρ s.heap)(ak:nG ns x=aw)(ao:x∈p6)(aZ:tx.fns x=U)
  (aM:bootBuiltins x=I v) (h:Q v s):wpAny (model ab.prog ab.w) A (eval (.Name x pos) env) Q E s:=by
 refine aB λae=>?_;obtain⟨⟨j,az⟩,hd⟩:=Lk ak;obtain⟨h1,h2⟩:=B.blt x ao aZ;exact ae (P6 F.kind (F.kindOf az) (Calls.loadGlobal_builtin (by rw[F.globals];exact B.g.keeps i.base) h1 (by rw[F.kk];exact B.b.keeps i.base) (h2.trans aM) h) hd)
theorem ah.wrap{α β:Type}{t eu:Sem β}{r:Res α}{R:α->Map->Heap->β->Prop}(hw:∀(Q:β->Shared->Prop) (E:Value->Shared->Prop),wpAny (model ab.prog ab.w) A t Q E s->wpAny (model ab.prog ab.w) A eu Q E s)
  (h:ah ab W ρ s A R t r):ah ab W ρ s A R eu r:=by
 induction r with
 |bad=>exact aL
 |ok a ag=>exact hw _ _ h
theorem ah.operate{vs:List Value}{t:Sem Value}{r:Res V}{R:V->Map->Heap->Value->Prop}(h:ah ab W ρ s A R t r):ah ab W ρ s A R (PySem.operate vs t) r:=
 ah.wrap (λaf aJ=>aes) h
theorem ah.behind{α:Type}{t:Sem Value}{f:Value->Sem PUnit}{r:Res α}{R:α->Map->Heap->Value->Prop}(aZ:∀v (s':Shared) (Q:PUnit->Shared->Prop) (E:Value->Shared->Prop),Q ⟨⟩ s'->wpAny (model ab.prog ab.w) A (f v) Q E s')
  (h:ah ab W ρ s A R t r):ah ab W ρ s A R (t>>=λv=>f v>>=λaf=>Pure.pure v) r:=by
 induction r with
 |bad=>exact aL
 |ok a ag=>exact a0 (ei h (λv s' hp=>a0 (aZ v s' _ _ (cz hp))) λaf aJ x=>x)
variable (ab C n) in
def cN(e:Expr):Prop:=∀(env:Env) (ns:cC) (loc:Loc) (σ:aN) (ρ:Map) (s:Shared) (A:Around),e4 A n->c7 ab env ns loc ρ s.heap->Inv ab σ ρ s.heap ->
 ah ab [] ρ s A cW (eval e env) (ev C e ns loc σ)
variable (ab C n) in
def ig(e:Expr):Prop:=∀(env:Env) (ns:cC) (loc:Loc) (σ:aN) (ρ:Map) (s:Shared) (A:Around),e4 A n->c7 ab env ns loc ρ s.heap->Inv ab σ ρ s.heap ->
 ah ab [] ρ s A vu (isTrue e env (eval e env)) (ep C e ns loc (ev C e ns loc) σ)
variable (ab C n) in
def o6(aW:List Expr):Prop:=∀(env:Env) (ns:cC) (loc:Loc) (σ:aN) (ρ:Map) (s:Shared) (A:Around) (pos:Pos),e4 A n->c7 ab env ns loc ρ s.heap->Inv ab σ ρ s.heap ->
 ah ab [] ρ s A G1 (spliced (backTo pos (starEach aW env))) (jw C aW ns loc σ)
theorem e4.u(h:e4 A n):A.units+201<cLine:=by have:=h.units;exact cb 0x304264F8240002030429678258088000021 aa this
theorem Yh:cN ab C n (.Constant c k pos):=λenv ns loc σ ρ s A aT F i=>by
 refine(?_:ah ab [] ρ s A cW (constValue env c) (Nz c σ))
 induction c with
 |none=>exact ah.ret i .none
 |bool b=>exact ah.ret i (.bool b)
 |int z=>exact ah.same i λQ E br=>wpAny_mkInt (br _ _ (.int _ _))
 |str x=>exact ah.ite λaA=>ah.same i λQ E br=>wpAny_mkText (br _ _ (.str _ _ aA))
 |float _=>exact aL
 |complex _ _=>exact aL
 |bytes _=>exact aL
 |ellipsis=>exact aL
theorem Ym(hl:cN ab C n l)(aX:cN ab C n r):cN ab C n (.BinOp l op r pos):=λenv ns loc σ ρ s A aT F i=>by
 rw[arm_eval_BinOp];show ah ab [] ρ s A cW _ ((ev C l ns loc>>=λa=>ev C r ns loc>>=λb=>binop op a b) σ);refine ah.bind (hl env ns loc σ ρ s A aT F i) λa bl a7 ed eB ai bB b4 cw=>?_;refine ah.bind (ah.holding (aX env ns loc bl a7 _ A aT (F.gB b4) bB)) λb dt eI fx fT aq eS eX iL=>?_;exact ah.standAt (ah.operate (ah.binop eS (cw.ext eX) iL))
theorem M1(ak:cN ab C n x):cN ab C n (.UnaryOp .Not x pos):=λenv ns loc σ ρ s A aT F i=>by
 rw[arm_eval_UnaryOp];show ah ab [] ρ s A cW _ ((ev C x ns loc>>=λa=>truth a>>=λt=>pure (V.bool (!t))) σ);refine ah.bind (ak env ns loc σ ρ s A aT F i) λa bl a7 ed eB ai bB b4 cw=>?_;refine ah.standAt (ah.holding ?_);have:=ah.truth (ab:=ab) (A:=A) (W:=[]) (s:=At ed eB s) bB cw
 induction e:truth a bl with
 |bad=>rw[dR e];exact aL
 |ok b ag=>
  rw[a4 e];rw[e]at this;refine not_value (ei this (λcT s' hp=>?_) λaf aJ x=>x);exact hp.mono λaU h' e=>by cases e;exact .bool _
theorem X7:cN ab C n (.UnaryOp .USub (.Constant (.int z) k p) pos):=λenv ns loc σ ρ s A aT F i=>by
 refine(?_:ah ab [] ρ s A cW _ ((pure (V.int (-z)):M V) σ));exact ah.same i λQ E br=>wpAny_UnaryOp (wpAny_Constant_int (neg_int (br _ _ (.int _ _))))
theorem KR(aX:∀aW k p,r≠.Set aW k p)(h:ah ab W ρ s A cW t res):ah ab W ρ s A cW (markedBehindIn op r t) res:=by
 have e:behindInMarks op r=aS:=by cases r <;> first|rfl|exact absurd aa (aX _ _ _)
 rw[markedBehindIn_of_false e];exact h
theorem M0:ev C (.Set aW k p) ns loc=M.bad:=rfl
theorem Yi(hl:cN ab C n l)(aX:cN ab C n r):cN ab C n (.Compare l [op] [r] pos):=λenv ns loc σ ρ s A aT F i=>by
 rw[eval_Compare1];show ah ab [] ρ s A cW _ ((ev C l ns loc>>=λa=>ev C r ns loc>>=λb=>cmp op a b) σ);refine ah.bind (hl env ns loc σ ρ s A aT F i) λa bl a7 ed eB ai bB b4 cw=>?_;refine aB λae=>?_;by_cases oN:∃aW k p,r=.Set aW k p
 ·skip
  obtain⟨aW,k,p,rfl⟩:=oN;refine ae ?_;rw[M0,dR aa];exact aL
 ·refine ae (ah.bind (ah.holding (KR (λaW k p e=>oN ⟨aW,k,p,e⟩) (aX env ns loc bl a7 _ A aT (F.gB b4) bB))) λb dt eI fx fT aq eS eX iL=>?_);exact ah.standAt (ah.operate (ah.cmp eS aT.u (cw.ext eX) iL))
theorem y3(he:cN ab C n e)(h1:∀(ns:cC) (loc:Loc) (whole:M V),(whole>>=λv=>truth v)=ep C e ns loc whole)(h2:∀(env:Env) (whole:Sem Value),isTrue e env whole=(do let v <-whole;standAt e.pos;holding [v] (truthy v))) :
  ig ab C n e:=λenv ns loc σ ρ s A aT F i=>by
 rw[<-h1,h2];refine ah.bind (he env ns loc σ ρ s A aT F i) λa bl a7 ed eB ai bB b4 cw=>?_;exact ah.standAt (ah.holding (ah.truth bB cw))
theorem Rh(hl:cN ab C n l)(aX:cN ab C n r):ig ab C n (.Compare l [op] [r] pos):=λenv ns loc σ ρ s A aT F i=>by
 rw[isTrue_Compare1];show ah ab [] ρ s A vu _ (((ev C l ns loc>>=λa=>ev C r ns loc>>=λb=>cmp op a b)>>=λv=>truth v) σ);rw[M.assoc];refine ah.bind (hl env ns loc σ ρ s A aT F i) λa bl a7 ed eB ai bB b4 cw=>?_;rw[M.assoc];by_cases oN:∃aW k p,r=.Set aW k p
 ·refine aB λae=>?_;obtain⟨aW,k,p,rfl⟩:=oN;refine ae ?_;rw[M0,dR aa];exact aL
 ·refine ah.bind (ah.holding (KR (λaW k p e=>oN ⟨aW,k,p,e⟩) (aX env ns loc bl a7 _ A aT (F.gB b4) bB))) λb dt eI fx fT aq eS eX iL=>?_;refine ah.standAt (ah.bind (ah.operate (ah.cmp eS aT.u (cw.ext eX) iL)) λc jh vZ BG we ax sq Cj zq=>?_);exact ah.holding (ah.truth sq zq)
theorem Yg(cg:ab.heap.NoLimit):cN ab C n (.Dict [] [] pos):=λenv ns loc σ ρ s A aT F i=>by
 rw[eval_Dict_empty];refine ah.standAt (ah.TZ i λQ E br=>qj (T := "dict") (br _ [] _ _ (λaf aJ e=>fH _ e) u3 (big cg i) (ahf s.heap) (eV _) .nil) ?_);exact eV _
end
section
variable {mg mb:Str->Option Value}
variable {loc:Loc}{n:Nat}
theorem ah.cond{α β:Type}{t:Sem Bool}{f g:Sem β}{m:M Bool}{k l:M α}{R:α->Map->Heap->β->Prop}(h:ah ab W ρ s A vu t (m σ))
  (h1:∀bl a7 H bj,Inv ab bl a7 H->Ext W ρ s.heap a7 H->ah ab W a7 (At H bj s) A R f (k bl))
  (h2:∀bl a7 H bj,Inv ab bl a7 H->Ext W ρ s.heap a7 H->ah ab W a7 (At H bj s) A R g (l bl)) :
  ah ab W ρ s A R (t>>=λb=>if b=aw then f else g) ((m>>=λb=>M.cond b k l) σ):=by
 refine ah.bind h λb bl a7 H bj cT i x r=>?_;cases r
 induction b with
 |true=>exact h1 bl a7 H bj i x
 |false=>exact h2 bl a7 H bj i x
theorem Ye{t a b:Expr}{pos:Pos}(aP:ig ab C n t)(aV:cN ab C n a)(au:cN ab C n b):cN ab C n (.IfExp t a b pos):=λenv ns loc σ ρ s A aT F i=>by
 rw[arm_eval_IfExp];exact ah.cond (aP env ns loc σ ρ s A aT F i) (λbl a7 H bj bB b4=>aV env ns loc bl a7 _ A aT (F.gB b4) bB) (λbl a7 H bj bB b4=>au env ns loc bl a7 _ A aT (F.gB b4) bB)
theorem Rg{t a b:Expr}{pos:Pos}(aP:ig ab C n t)(aV:ig ab C n a)(au:ig ab C n b):ig ab C n (.IfExp t a b pos):=λenv ns loc σ ρ s A aT F i=>by
 rw[arm_isTrue_IfExp];exact ah.cond (aP env ns loc σ ρ s A aT F i) (λbl a7 H bj bB b4=>aV env ns loc bl a7 _ A aT (F.gB b4) bB) (λbl a7 H bj bB b4=>au env ns loc bl a7 _ A aT (F.gB b4) bB)
theorem Rf(ak:ig ab C n x):ig ab C n (.UnaryOp .Not x pos):=λenv ns loc σ ρ s A aT F i=>by
 rw[arm_isTrue_UnaryOp];refine ah.bind (ak env ns loc σ ρ s A aT F i) λb bl a7 H bj cT bB b4 r=>?_;cases r;exact ah.ret bB aa
variable (ab C n) in
def yh(aW:List Expr):Prop:=∀(op:BoolOp) (env:Env) (ns:cC) (loc:Loc) (σ:aN) (ρ:Map) (s:Shared) (A:Around),e4 A n->c7 ab env ns loc ρ s.heap->Inv ab σ ρ s.heap ->
 ah ab [] ρ s A vu (allTrue op aW env) (y4 C aW op ns loc σ)
variable (ab C n) in
def yv(aW:List Expr):Prop:=∀(op:BoolOp) (pos:Pos) (env:Env) (ns:cC) (loc:Loc) (σ:aN) (ρ:Map) (s:Shared) (A:Around),e4 A n->c7 ab env ns loc ρ s.heap->Inv ab σ ρ s.heap ->
 ah ab [] ρ s A cW (boolOp pos op (evalEach aW env)) (AP C aW op ns loc σ)
theorem Rj:yh ab C n []:=λop env ns loc σ ρ s A aT F i=>ah.ret i aa
theorem Rk(he:ig ab C n e)(aX:yh ab C n r):yh ab C n (e::r):=λop env ns loc σ ρ s A aT F i=>by
 rw[arm_allTrue_cons];refine ah.bind (he env ns loc σ ρ s A aT F i) λb bl a7 H bj cT bB b4 e=>?_;cases e;cases op <;> cases b
 ·exact ah.ret bB aa
 ·exact aX _ env ns loc bl a7 _ A aT (F.gB b4) bB
 ·exact aX _ env ns loc bl a7 _ A aT (F.gB b4) bB
 ·exact ah.ret bB aa
theorem Ri(h:yh ab C n aW):ig ab C n (.BoolOp op aW pos):=λenv ns loc σ ρ s A aT F i=>by
 rw[arm_isTrue_BoolOp];exact h op env ns loc σ ρ s A aT F i
theorem Yq:yv ab C n []:=λop pos env ns loc σ ρ s A aT F i=>aL
theorem Yr(he:cN ab C n e)(aX:yv ab C n r):yv ab C n (e::r):=λop pos env ns loc σ ρ s A aT F i=>by
 induction r using List.casesOn with
 |nil=>
  exact he env ns loc σ ρ s A aT F i
 |cons ay r=>
  rw[Py,Py];refine ah.bind (he env ns loc σ ρ s A aT F i) λa bl a7 ed eB ai bB b4 cw=>?_;refine ah.standAt (ah.bind (ah.holding (ah.truth bB cw)) λb dt eI fx fT cT eS eX e=>?_);cases e;have a8:=aX op pos env ns loc dt eI (At fx fT s) A aT ((F.gB b4).gB eX) eS;rw[Py]at a8;cases op <;> cases b
  ·exact ah.ret eS (cw.ext eX)
  ·exact a8
  ·exact a8
  ·exact ah.ret eS (cw.ext eX)
theorem Yl(h:yv ab C n aW):cN ab C n (.BoolOp op aW pos):=λenv ns loc σ ρ s A aT F i=>by
 rw[arm_eval_BoolOp];exact h op pos env ns loc σ ρ s A aT F i
theorem zf(h:∀v p,e≠.Starred v p):starEach (e::r) env=(aS,eval e env)::starEach r env:=by
 cases e <;> first|rfl|exact absurd aa (h _ _)
theorem FZ:o6 ab C n []:=λenv ns loc σ ρ s A pos aT F i=>ah.ret i .nil
theorem AL(he:cN ab C n e)(aX:o6 ab C n r):o6 ab C n (e::r):=λenv ns loc σ ρ s A pos aT F i=>by
 refine(?_:ah ab [] ρ s A G1 _ ((ev C e ns loc>>=λv=>jw C r ns loc>>=λvs=>pure (v::vs)) σ));by_cases dd:∃v p,e=.Starred v p
 ·obtain⟨v,p,rfl⟩:=dd;have:ev C (.Starred v p) ns loc σ=.bad:=rfl;rw[dR this];exact aL
 ·rw[zf (λv p aG=>dd ⟨v,p,aG⟩)];refine(?_:ah ab [] ρ s A G1 (spliced ((aS,eval e env)::backTo pos (starEach r env))) _);have e:spliced ((aS,eval e env)::backTo pos (starEach r env))=(eval e env>>=λv=>holding [v] (spliced (backTo pos (starEach r env)))>>=λvs=>Pure.pure (v::vs)):=rfl;rw[e];refine ah.bind (he env ns loc σ ρ s A aT F i) λa bl a7 ed eB ai bB b4 cw=>?_;refine ah.bind (ah.holding (aX env ns loc bl a7 _ A pos aT (F.gB b4) bB)) λb dt eI fx fT aq eS eX iL=>?_;exact ah.ret eS (.cons (cw.ext eX) iL)
theorem Yd(h:o6 ab C n aW):cN ab C n (.List aW pos):=λenv ns loc σ ρ s A aT F i=>by
 rw[arm_eval_List];refine ah.standAt (ah.bind (h env ns loc σ ρ s A pos aT F i) λl bl a7 ed eB vs bB b4 cw=>?_);exact ah.ite λaA=>ah.newList bB cw aA
theorem X8(h:o6 ab C n aW):cN ab C n (.Tuple aW k pos):=λenv ns loc σ ρ s A aT F i=>by
 rw[arm_eval_Tuple];refine ah.standAt (ah.bind (h env ns loc σ ρ s A pos aT F i) λl bl a7 ed eB vs bB b4 cw=>?_);exact ah.ite λaA=>ah.newTuple bB cw aA
def BP(σ:aN)(x:V):Prop:=(∃l,x=.tup l)\/(∃t,x=.str t)\/∃m,x=.ref m/\((∃l,σ[m]? =I (.list l))\/(∃v l,σ[m]? =I (.dict v l))\/∃v l,σ[m]? =I (.eC v l))
theorem WX(i:Inv ab σ ρ s.heap)(r:Rel ρ s.heap v x)(ak:BP σ x)(h:Q aS s) :
  wpAny (model ab.prog ab.w) A (getitemInPython v) Q E s:=by
 have key:∀(T id:String),s.TypeIs v T->typeLookup (.type T) "__getitem__" = pure (I (.builtin id))->wpAny (model ab.prog ab.w) A (getitemInPython v) Q E s:=by
  intro T id bw hl;rw[getitemInPython_of_ne bw.not_modules];exact a0 (tJ bw hl (cz h))
 rcases ak with ⟨l,rfl⟩|⟨t,rfl⟩|⟨m,rfl,⟨l,bX⟩|⟨_,l,bX⟩|⟨_,l,bX⟩⟩
 ·cases r with
  |tup _ g _ _=>exact key "tuple" _ (mJ g).typeIs BU.lookup
 ·cases r with
  |str _ t _=>exact key "str" _ (Hz s _ t) F.slot_str_getitem.lookup
 ·cases r with
  |ref bL=>
   obtain⟨vs,k,g,_,_⟩:=i.list bX bL;exact key "list" _ (gd g).typeIs slot_list_getitem.lookup
 ·cases r with
  |ref bL=>
   obtain⟨_,_,cj,hd,_,_⟩:=i.dict bX bL;exact key "dict" _ hd.typeIs aex.lookup
 ·cases r with
  |ref bL=>
   obtain⟨_,_,cj,hd,_,_⟩:=i.eC bX bL;exact key "dict" _ hd.typeIs aex.lookup
theorem U4(h:item x y σ≠.bad):BP σ x:=by
 induction x using V.casesOn with
 |tup l=>exact .inl ⟨_,aa⟩
 |str t=>exact .inr (.inl ⟨_,aa⟩)
 |ref m=>
  refine .inr (.inr ⟨m,aa,?_⟩);have h:(jc m>>=λo=>match o with|.list l=>z6 l y|.dict _ l=>bD ((keyOf y).bind (dF l))|.eC _ l=>bD ((ll y).bind (j6 l))|_=>M.bad) σ≠.bad:=h
  induction e:σ[m]? with
  |none=>exact absurd (dR (by rw[pZ,e])) h
  |some o=>
   rw[a4 (a:=o) (ag:=σ) (by rw[pZ,e])]at h
   induction o with
   |list l=>exact .inl ⟨l,aa⟩
   |dict v l=>exact .inr (.inl ⟨v,l,aa⟩)
   |inst _ _=>exact absurd aa h
   |bT _=>exact absurd aa h
   |eC v l=>exact .inr (.inr ⟨v,l,aa⟩)
   |cache=>exact absurd aa h
 |none=>exact absurd aa h
 |bool _=>exact absurd aa h
 |int _=>exact absurd aa h
theorem Sl{lo aI:Option Int}{x:V}(h:j7 lo aI x σ≠.bad):BP σ x:=by
 induction x using V.casesOn with
 |tup l=>exact .inl ⟨_,aa⟩
 |str t=>exact .inr (.inl ⟨_,aa⟩)
 |ref m=>
  refine .inr (.inr ⟨m,aa,.inl ?_⟩);have h:(fb m>>=λl=>cH (.list (cut l lo aI))) σ≠.bad:=h
  induction e:σ[m]? with
  |none=>exact absurd (dR (by rw[kh,e])) h
  |some o=>induction o using O.casesOn with
   |list l=>exact⟨l,aa⟩
   |dict _ _=>exact absurd (dR (by rw[kh,e])) h
   |inst _ _=>exact absurd (dR (by rw[kh,e])) h
   |bT _=>exact absurd (dR (by rw[kh,e])) h
   |eC _ _=>exact absurd (dR (by rw[kh,e])) h
   |cache=>exact absurd (dR (by rw[kh,e])) h
 |none=>exact absurd aa h
 |bool _=>exact absurd aa h
 |int _=>exact absurd aa h
theorem ah.Jb{value slice:Expr}{o i:Value}{x:V}{r:Res V}{ops:List Value}(dD:Inv ab σ ρ s.heap)(SJ:Rel ρ s.heap o x)(ar:r≠.bad->BP σ x)
  (az:subscripted slice aS o i=PySem.operate ops (getItem o i)) (h:ah ab W ρ s A cW (getItem o i) r) :
  ah ab W ρ s A cW (getitemInPython o>>=λb=>subscripted slice b o i>>=λr=>letTemporaryGo value o r>>=λaf=>Pure.pure r) r:=by
 have go:∀(Q:Value->Shared->Prop) (E:Value->Shared->Prop),r≠.bad->wpAny (model ab.prog ab.w) A (getItem o i) Q E s->wpAny (model ab.prog ab.w) A (getitemInPython o>>=λb=>subscripted slice b o i>>=λr=>letTemporaryGo value o r>>=λaf=>Pure.pure r) Q E s:=λQ E aX h=>by
  refine a0 (WX dD SJ (ar aX) ?_);rw[az];exact a0 (aes (ei h (λb s' hp=>a0 (aeu (cz hp))) λaf aJ x=>x))
 induction r with
 |bad=>exact aL
 |ok v ag=>exact go _ _ nofun h
theorem X9{lo aI st:Option Expr}{p:Pos}:ev C (.Slice lo aI st p) ns loc=M.bad:=rfl
theorem MZ{o i:Expr}{pos:Pos}(ho:cN ab C n o)(aI:cN ab C n i)(he:∀(ns:cC) (loc:Loc),(ev C o ns loc>>=λa=>ev C i ns loc>>=λb=>item a b)=ev C (.Subscript o i pos) ns loc):cN ab C n (.Subscript o i pos):=λenv ns loc σ ρ s A aT F dD=>by
 rw[aeG,<-he];refine ah.bind (ho env ns loc σ ρ s A aT F dD) λa bl a7 ed eB ai bB b4 cw=>?_;by_cases fY:∃lo aI st p,i=.Slice lo aI st p
 ·refine aB λae=>?_;obtain⟨lo,g5,st,p,rfl⟩:=fY;refine ae ?_;rw[X9,dR aa];exact aL
 ·refine ah.bind (ah.holding (aI env ns loc bl a7 _ A aT (F.gB b4) bB)) λb dt eI fx fT aq eS eX iL=>?_;refine ah.standAt (ah.Jb (ops:=[ai,aq]) eS (cw.ext eX) U4 ?_ (ah.item eS aT.u (cw.ext eX) iL));cases i <;> first|rfl|exact absurd ⟨_,_,_,_,aa⟩ fY
variable (ab C n) in
def om(o:Option Expr):Prop:=∀(env:Env) (ns:cC) (loc:Loc) (σ:aN) (ρ:Map) (s:Shared) (A:Around),e4 A n->c7 ab env ns loc ρ s.heap->Inv ab σ ρ s.heap ->
 ah ab [] ρ s A cW (valueOrNone (evalOpt o env)) (s0 C o ns loc σ)
theorem Yp:om ab C n U:=λenv ns loc σ ρ s A aT F i=>ah.ret i .none
theorem Yo(h:cN ab C n e):om ab C n (I e):=λenv ns loc σ ρ s A aT F i=>h env ns loc σ ρ s A aT F i
def aaa:V×V->Map->Heap->Value->Prop:=λq ρ h dD=>∃iK kC ng,dD=.ref iK/\h.IsSliceOf iK kC ng .none/\Rel ρ h kC q.1/\Rel ρ h ng q.2
theorem Sk{lo aI:Option Expr}{p:Pos}(hlo:om ab C n lo)(xx:om ab C n aI)(aT:e4 A n)(F:c7 ab env ns loc ρ s.heap)(dD:Inv ab σ ρ s.heap) :
  ah ab [] ρ s A aaa (eval (.Slice lo aI U p) env) ((s0 C lo ns loc>>=λl=>s0 C aI ns loc>>=λh=>(Pure.pure (l,h):M (V×V))) σ):=by
 rw[arm_eval_Slice];refine ah.bind (hlo env ns loc σ ρ s A aT F dD) λa bl a7 ed eB ai bB b4 cw=>?_;refine ah.bind (ah.holding (xx env ns loc bl a7 _ A aT (F.gB b4) bB)) λb dt eI fx fT aq eS eX iL=>?_;refine ah.grown (s:=At fx fT s) eS λQ E br=>?_;refine a0 (k5 (cz (qj (T := "slice") ?_ (by refine(?_:(3:Nat)<=sizeLine+2);decide))));have ar:∀b o,fx.get? b=I o->(fx.push { cls:=.type "slice",data:=.fields #[ai,aq,.none] }).get? b=I o:=λb o e=>fH _ e;exact br _ _ fT ar ⟨_,ai,aq,aa,ahe ..,(cw.ext eX).sub (Sub.keeps ar),iL.sub (Sub.keeps ar)⟩
theorem Yb{o:Expr}{lo aI:Option Expr}{p pos:Pos}(ho:cN ab C n o)(hlo:om ab C n lo)(xx:om ab C n aI):cN ab C n (.Subscript o (.Slice lo aI U p) pos):=λenv ns loc σ ρ s A aT F dD=>by
 rw[aeG];show ah ab [] ρ s A cW _ ((ev C o ns loc>>=λa=>(s0 C lo ns loc>>=λl=>s0 C aI ns loc>>=λh=>(Pure.pure (l,h):M (V×V)))>>=λq=>bound q.1>>=λl'=>bound q.2>>=λh'=>j7 l' h' a) σ);refine ah.bind (ho env ns loc σ ρ s A aT F dD) λa bl a7 ed eB ai bB b4 cw=>?_;refine ah.bind (ah.holding (Sk hlo xx aT (F.gB b4) bB)) λq dt eI fx fT aq eS eX iL=>?_;refine aB λae=>?_;obtain⟨iK,kC,ng,rfl,az,hZ,wz⟩:=iL;refine ae (ah.standAt (ah.bound (s:=At fx fT s) hZ λl' r8=>ah.bound (s:=At fx fT s) wz λh' pu=>?_));exact ah.Jb (ops:=[.ref iK,ai]) eS (cw.ext eX) Sl aa (ah.slice (s:=At fx fT s) eS (cw.ext eX) az r8 pu)
variable (ab tx C n) in
def yw:Prop:=∀(f:Str) (fn:dn) (a:Addr) (args:List V) (vals:List Value) (σ:aN) (ρ:Map) (s:Shared) (A:Around),vr A n->tx.at f=I fn->BI ab.heap fn a->b8 ρ s.heap vals args->Inv ab σ ρ s.heap ->
 ah ab [] ρ s A cW (call (.ref a) vals) (C.call f args σ)
theorem noStar:(∀e∈aW,∀v p,e≠.Starred v p)->(backTo pos (starEach aW env)).any (·.1)=aS/\(backTo pos (starEach aW env)).all (λx=>!x.1)=aw:=by
 induction aW with
 |nil=>intro _;exact⟨aa,aa⟩
 |cons e r aj=>
  intro h;rw[zf (h e (by simp))];obtain⟨h1,h2⟩:=aj λaG Fo=>h aG (by simp [Fo]);refine⟨?_,?_⟩
  ·refine(?_:(aS || (backTo pos (starEach r env)).any (·.1))=false);rw[h1];rfl
  ·refine(?_:(aw&&(backTo pos (starEach r env)).all _)=aw);rw[h2];rfl
theorem Kx(h:qR aW=aw):∀e∈aW,∀v p,e≠.Starred v p:=λe he v p eq=>by
 have:=List.all_eq_true.mp h e he;replace this:=eq ▸ this;exact fw this
theorem ah.args{α:Type}{f:Value}{first:List Value}{aW:List Expr}{pos:Pos}{k:List V->M α}{R:α->Map->Heap->Value->Prop}(dd:qR aW=aw)(lP:o6 ab C n aW)(aT:e4 A n)(F:c7 ab env ns loc ρ s.heap)(i:Inv ab σ ρ s.heap)
  (Wq:∀(Q:Value->Shared->Prop) (E:Value->Shared->Prop),(∀e∈aW,∀v p,e≠.Starred v p) ->
   wpAny (model ab.prog ab.w) A (spliced (backTo pos (starEach aW env))) (λvs s₁=>(∀b o,ab.get? b=I o->s₁.heap.get? b=I o)/\wpAny (model ab.prog ab.w) A (call f (first++vs)) Q E s₁) E s->wpAny (model ab.prog ab.w) A (callWith pos f first (backTo pos (starEach aW env)) []) Q E s)
  (ar:∀l bl a7 H bj vs,Inv ab bl a7 H->Ext [] ρ s.heap a7 H->b8 a7 H vs l->ah ab [] a7 (At H bj s) A R (call f (first++vs)) (k l bl)) :
  ah ab [] ρ s A R (callWith pos f first (backTo pos (starEach aW env)) []) ((jw C aW ns loc>>=k) σ):=by
 have this:=lP env ns loc σ ρ s A pos aT F i
 induction h1:jw C aW ns loc σ with
 |bad=>rw[dR h1];exact aL
 |ok l bl=>
  rw[a4 h1];rw[h1]at this;have go:∀(Q:Value->Shared->Prop) (E:Value->Shared->Prop),(∀vs a7 H bj,Ext [] ρ s.heap a7 H->ah ab [] a7 (At H bj s) A R (call f (first++vs)) (k l bl)->wpAny (model ab.prog ab.w) A (call f (first++vs)) Q E (At H bj s)) ->
    wpAny (model ab.prog ab.w) A (callWith pos f first (backTo pos (starEach aW env)) []) Q E s:=λQ E aH=>by
   refine Wq _ _ (Kx dd) (ei this (λvs s₁ hp=>?_) λaf aJ x=>x.elim);obtain⟨a7,H,bj,rfl,bB,b4,cw⟩:=hp;exact⟨bB.base,aH vs a7 H bj b4 (ar l bl a7 H bj vs bB b4 cw)⟩
  induction h2:k l bl with
  |bad=>exact aL
  |ok v dt=>exact go _ _ λvs a7 H bj x az=>by rw[h2]at az;exact ei az (λaf aJ hp=>hp.after x) λaf aJ f=>f
end
section
variable {h h':Heap}{mg mb:Str->Option Value}{n:Nat}
theorem e4.weak(r:e4 A n):vr A n:=⟨r.handled,k7 r.depth,i5 (jZ (by decide) _) r.units⟩
theorem e4.make{K:Addr}{vals:List Value}(r:e4 A n):vr (A.under (.builtin "type.__call__" ⟨.ref K::vals,[]⟩)) n where
 handled:=r.handled
 depth:=by exact show A.depth+1+2*n<=recursionLimit from cb 0xC51082120001018212884400021 aa r.depth
 units:=by
  have e:(Code.builtin "type.__call__" ⟨.ref K::vals,[]⟩).cUnits<=10:=by refine(?_:1<=10);decide
  refine(?_:A.units+(Code.builtin "type.__call__" ⟨.ref K::vals,[]⟩).cUnits+16*n+290<cLine);have:=r.units;exact fq 0x1C2148BC13404428000004070852CF04D0114000042A09021 aa e this
theorem MP(q:σ[k]? =I (.inst c j))(e:p0 σ k=I l):σ[j]? =I (.bT l):=by
 unfold p0 at e;replace e:=q ▸ e;dsimp only at e
 induction dU:σ[j]? with
 |none=>replace e:=dU ▸ e;exact a5 e
 |some o=>
  replace e:=dU ▸ e
  induction o with
  |bT l'=>cases e;rfl
  |_=>exact a5 e
structure ad0(ab:eG)(ρ:Map)(h:Heap)(c:Str)(j:Nat)(l:List (Str×V))(a:Addr)(K di:Addr)(d:Nat)(fC:Str->Option Value):Prop where
 cls:vI ab c K
 inst:h.Inst a K fC
 dict:∀o,h.get? a=I o->o.dict=I di
 at_:ρ[j]? =I (di,d)
 ns:h.Ns1 di fC
 ne:di≠a
 bT:o5 ρ h fC l
 len:l.length<=sizeLine
theorem Inv.EA(i:Inv ab σ ρ h){k j d:Nat}{c:Str}{l:List (Str×V)}{a:Addr}(av:σ[k]? =I (.inst c j))(ay:σ[j]? =I (.bT l))(bL:ρ[k]? =I (a,d)):∃K di f3 fC,ad0 ab ρ h c j l a K di f3 fC:=by
 refine aB λae=>?_;obtain⟨K,o,di,f3,aA,g,h1,h2,h3,bY,c0⟩:=i.objs k _ _ av bL;obtain⟨hl,fC,ao,f⟩:=i.objs j _ _ ay c0;refine ae ?_;exact⟨K,di,f3,fC,aA,⟨o,g,h1,h2,.inr ⟨di,h3,bY,ao⟩⟩,λo' ck=>by replace ck:=g ▸ ck;cases ck;exact h3,c0,ao,bY,f,hl⟩
theorem handed(r:Rel ρ h v x):handedOut v=pure v:=by cases r <;> rfl
theorem ah.cL{m:Str}{v:Value}{x:V}(B:i0 tx mg mb ab.heap)(gL:C.cls=tx.cls)(i:Inv ab σ ρ s.heap)(r:Rel ρ s.heap v x):ah ab W ρ s A cW (getAttr v m aw) (cL C m x σ):=by
 induction r using Rel.cs with
 |@ref a d k bL=>
  refine ah.ask λy a9=>?_;refine aB λae=>?_;obtain⟨c,h1,a9⟩:=i3.mp a9;obtain⟨ms,h2,a9⟩:=i3.mp a9;refine ae ?_;by_cases hm:ms.2.contains m=aw
  case neg=>replace a9:=aR hm ▸ a9;exact a5 a9
  replace a9:=aK hm ▸ a9;refine aB λae=>?_;obtain⟨l,h3,a9⟩:=i3.mp a9;obtain⟨j,av⟩:=xd h1;obtain⟨K,di,f3,fC,q⟩:=i.EA av (MP av h3) bL;replace h2:=gL ▸ h2;obtain⟨Pa,N,gz,hg,O⟩:=B.own c ms h2;refine ae ?_;replace hg:=q.cls.at B.g ▸ hg;cases hg;refine aB λae=>?_;obtain⟨f1,f2⟩:=O.fld m (vT.mp hm);obtain⟨w,hw,zr⟩:=q.bT.has m y a9;have X:=O.cls.keeps i.base;obtain⟨nm,DB,bs,sn,sub,col,kj,hH,iQ,kd,q2,uC,hr⟩:=X.obj;obtain⟨a8,g,rl,t,os⟩:=s;exact ae (ah.same i λQ E br=>load_attr hr X.ns O.ga f1 f2 q.inst hw (handed zr) (br _ _ zr))
 |_=>exact aL
theorem Tl(av:σ[k]? =I (.inst c j))(ay:σ[j]? =I (.bT l)):DF k m v σ=(if 0<j/\l.length+1<=sizeLine then .ok () (σ.set j (.bT (hK l m v))) else .bad):=by
 show(match σ[k]? with
 |some (.inst _ j)=>(match σ[j]? with
  |some (.bT l)=>if 0<j/\l.length+1<=sizeLine then Res.ok () (σ.set j (.bT (hK l m v))) else .bad
  |_=>.bad)
 |_=>.bad)=_
 rw[av];dsimp only;rw[ay]
theorem Tn(av:σ[k]? =I (.inst c j))(ay:∀l,σ[j]? ≠ I (.bT l)):DF k m v σ=.bad:=by
 show(match σ[k]? with
 |some (.inst _ j)=>(match σ[j]? with
  |some (.bT l)=>if 0<j/\l.length+1<=sizeLine then Res.ok () (σ.set j (.bT (hK l m v))) else .bad
  |_=>.bad)
 |_=>.bad)=_
 rw[av];dsimp only
 induction q:σ[j]? with
 |none=>rfl
 |some o=>induction o with
  |bT l=>exact absurd q (ay l)
  |_=>rfl
theorem MV:(hK l m x).lookup y=if y=m then I x else l.lookup y:=by
 unfold hK
 induction e:(l.lookup m).isSome with
 |true=>
  rw[aK aa]
  induction l with
  |nil=>exact fw e
  |cons p l aj=>
   obtain⟨k,v⟩:=p;rw[gx]at e;by_cases ar:k=m
   ·subst ar;rw[ea,aK (k6 k),gx,gx]
    induction q:y==k with
    |true=>rw[aK (eq_of_beq q)]
    |false=>
     have a9:¬y=k:=λh=>by rw[h,k6]at q;exact kD q
     rw[aR a9];have:∀l:List (Str×V),(l.map λp=>if (p.1==k)=aw then (p.1,x) else p).lookup y=l.lookup y:=by
      intro l
      induction l with
      |nil=>rfl
      |cons p l aj=>
       rw[ea];by_cases hp:(p.1==k)=aw
       ·rw[aK hp,gx,aj];obtain⟨a,b⟩:=p;have hp:a=k:=eq_of_beq hp;subst hp;rw[gx,q]
       ·rw[aR hp,gx,gx,aj]
     exact this l
   ·have hm:(m==k)=aS:=yC (kv ar);rw[hm]at e;rw[ea,aR (by rw[yC ar];exact qw),gx,gx,aj e]
    induction q:y==k with
    |true=>
     have a9:¬y=m:=λh=>ar ((eq_of_beq q).symm.trans h);refine(?_:I v=_);rw[aR a9]
    |false=>rfl
 |false=>
  rw[aR qw,PO]
  have e:l.lookup m=U:=by induction q:l.lookup m with
   |none=>rfl
   |some _=>rw[q]at e;exact kD e
  by_cases a9:y=m
  ·subst a9;rw[e,aK aa,gx,k6];rfl
  ·rw[aR a9,gx,yC a9];refine(?_:(l.lookup y).or U=_);rw[aeW]
theorem XD(l:List (Str×V))(m:Str)(x:V):(hK l m x).length<=l.length+1:=by
 unfold hK
 split
 ·rw[bC];exact gH _
 ·rw[dp];exact bx _
theorem o5.put(f:o5 ρ h fC l)(r:Rel ρ h v x):o5 ρ h (λy=>if y=m then I v else fC y) (hK l m x) where
 has:=λy a e=>by
  replace e:=MV ▸ e;by_cases q:y=m
  ·rw[aK q]at e ⊢;cases e;exact⟨v,aa,r⟩
  ·rw[aR q]at e ⊢;exact f.has y a e
 no:=λy e=>by
  replace e:=MV ▸ e;by_cases q:y=m
  ·replace e:=aK q ▸ e;exact fU e
  ·rw[aR q]at e ⊢;exact f.no y e
theorem o5.sub{aU:Map}{fC:Str->Option Value}{l:List (Str×V)}(f:o5 ρ h fC l)(x:Sub ρ h aU h'):o5 aU h' fC l:=⟨λy a e=>by obtain⟨v,aG,fA⟩:=f.has y a e;exact⟨v,aG,fA.sub x⟩,f.no⟩
theorem o5.within(f:o5 ρ h fC l):Within fC (l.map (·.1)):=λy a9=>by
 induction e:l.lookup y with
 |none=>exact absurd (f.no y e) a9
 |some a=>exact ez.mpr ⟨_,mem_of_lookup e,aa⟩
theorem ah.dT{m:Str}{v w:Value}{x y:V}(B:i0 tx mg mb ab.heap)(gL:C.cls=tx.cls)(i:Inv ab σ ρ s.heap)(r:Rel ρ s.heap v x)(zr:Rel ρ s.heap w y):ah ab W ρ s A (λaf aJ b3 eW=>True) (setAttr v m w) (dT C m y x σ):=by
 induction r using Rel.cs with
 |@ref a d k bL=>
  refine ah.Be λaf a9=>?_;refine aB λae=>?_;obtain⟨c,h1,a9⟩:=i3.mp a9;obtain⟨ms,h2,a9⟩:=i3.mp a9;refine ae ?_;by_cases hm:ms.2.contains m=aw
  case neg=>replace a9:=aR hm ▸ a9;exact a5 a9
  obtain⟨j,av⟩:=xd h1;by_cases hl:∃l,σ[j]? =I (.bT l)
  case neg=>rw[Tn av λl e=>hl ⟨l,e⟩];exact aL
  obtain⟨l,ay⟩:=hl;rw[Tl av ay];by_cases bh:0<j/\l.length+1<=sizeLine
  case neg=>rw[aR bh];exact aL
  rw[aK bh];refine aB λae=>?_;obtain⟨K,di,f3,fC,q⟩:=i.EA av ay bL;replace h2:=gL ▸ h2;obtain⟨Pa,N,gz,hg,O⟩:=B.own c ms h2;refine ae ?_;replace hg:=q.cls.at B.g ▸ hg;cases hg;refine aB λae=>?_;obtain⟨f1,f2⟩:=O.fld m (vT.mp hm);have X:=O.cls.keeps i.base;obtain⟨nm,DB,bs,sn,sub,col,kj,hH,iQ,kd,q2,uC,hr⟩:=X.obj;obtain⟨b2,g,EY,_⟩:=id q.inst;have Vn:a≠K:=λe=>by replace g:=hr ▸ e ▸ g;cases g;cases EY
  obtain⟨a8,jM,rl,t,os⟩:=s;refine ae (store_attr PySem.F.store_object hr X.ns O.Sy f1 f2 Vn q.inst (λh' hF ad2 ar q7=>?_) q.bT.within (by rw[bC];exact q.len));have Ap:∀b o,b≠di->a8.get? b=I o->h'.get? b=I o:=λb o au e=>by
   by_cases Ml:b=a
   ·subst Ml;refine aB λae=>?_;obtain⟨zE,FH,cI,c4,n1,k1⟩:=q7 o e;have Gs:=k1 di (q.dict o e);have Gu:=q.dict o e;obtain⟨j9,oE,agg,J8⟩:=o;obtain⟨d8,eD,mE,zz⟩:=zE;refine ae ?_;cases cI;cases c4;cases n1;have Gs:eD=I di:=Gs;have Gu:oE=I di:=Gu;rw[FH,Gs,Gu]
   ·exact ar b o Ml (λJ9 agO XF p5=>by replace p5:=q.dict J9 XF ▸ p5;cases p5;exact au) e
  have gg:h'.Ns1 di (λy=>if y=m then I w else fC y):=by
   refine aB λae=>?_;obtain⟨o',aG,_,_,jv⟩:=ad2;obtain⟨zE,FH,_,_,_,k1⟩:=q7 b2 g;have k1:=k1 di (q.dict b2 g);refine ae ?_;replace aG:=FH ▸ aG;cases aG;rcases jv with ⟨E3,_⟩|⟨agQ,Fq,_,E0⟩
   ·replace E3:=k1 ▸ E3;exact fU E3
   ·replace Fq:=k1 ▸ Fq;cases Fq;exact E0
  have cg:=i.put (W:=W) (v':=f3+1) (o:=.bT (hK l m y)) (h':=h') bh.1 q.at_ (gH _) (λe=>absurd e (HB _)) Ap
   (by obtain⟨_,_,_,g,d,_⟩:=q.ns;exact Gf g ⟨_,_,d⟩) (by obtain⟨o',_,_,ck,_⟩:=gg;exact⟨o',ck⟩) λx=>⟨b0 (XD ..) bh.2,_,gg,(q.bT.put zr).sub x.sub⟩
  exact⟨_,h',hF,aa,cg.1,cg.2,aL⟩
 |_=>exact aL
theorem Inv.sd{c:Str}{K x di:Addr}(i:Inv ab σ ρ h)(aA:vI ab c K)(M:Heap.MadeObj h h' x di K) :
  Inv ab (σ++[.bT [],.inst c σ.length]) (ρ++[(di,0),(x,0)]) h'/\Ext W ρ h (ρ++[(di,0),(x,0)]) h':=by
 refine aB λae=>?_;obtain⟨o,g,h1,h2,h3⟩:=M.inst;have hd:=M.dict o g;have ao:h'.Ns1 di λaf=>U:=by
  rcases h3 with ⟨h3,_⟩|⟨d,h3,_,ao⟩
  ·replace h3:=hd ▸ h3;exact fU h3
  ·replace h3:=hd ▸ h3;cases h3;exact ao
 have cv:di≠x:=by
  rcases h3 with ⟨h3,_⟩|⟨d,h3,cv,_⟩
  ·replace h3:=hd ▸ h3;exact fU h3
  ·replace h3:=hd ▸ h3;cases h3;exact cv
 have dead:∀b,h.get? b=U->ab.get? b=U/\c9 ρ b:=λb au=>by
  refine⟨?_,λp hp e=>?_⟩
  ·induction e:ab.get? b with
   |none=>rfl
   |some o=>replace au:=i.base _ _ e ▸ au;exact fU au
  ·obtain⟨bS,av⟩:=i.alive hp;replace av:=au ▸ (j1 (e ..)) ▸ av;exact a5 av
 obtain⟨bB,b4⟩:=i.new (W:=W) (o:=.bT []) M.keeps M.newD λaf=>⟨eV _,_,ao,⟨λaf aJ e=>(by exact a5 e),λaf aJ=>aa⟩⟩;obtain⟨kZ,Gl⟩:=dead x M.newX;have e:ρ++[(di,0),(x,0)]=ρ++[(di,0)]++[(x,0)]:=by rw[pg];rfl
 have aG:σ++[.bT [],.inst c σ.length]=σ++[.bT []]++[.inst c σ.length]:=by rw[pg];rfl
 refine ae ?_;rw[e,aG];refine bB.more b4 M.newX (λvs n e=>by replace e:=g ▸ e;cases e;cases h1) (λp hp=>?_) kZ ⟨K,o,di,0,aA,g,h1,h2,hd,cv,?_⟩
 ·rcases gb.mp hp with hp|hp
  ·exact Gl p hp
  ·rw[bN.mp hp];exact cv.symm
 ·rw[<-i.len,pg,j0 (bx _),ky];rfl
theorem N7{α:Type}{l:List α}{a b:α}:(l++[a,b])[l.length+1]? =I b:=by
 rw[j0 (gH _),show l.length+1-l.length=1 from afg ..];rfl
theorem ah.el{c:Str}{ms:List Str×List Str}{K N:Addr}{gz:Str->Option Value}{vals:List Value}{vs:List V}(B:i0 tx mg mb ab.heap)(O:OwnCls tx ab.heap c ms K N gz)(hg:mg c=I (.ref K))(hr:yw ab tx C n)(aT:e4 A n)(i:Inv ab σ ρ s.heap)(r:b8 ρ s.heap vals vs) :
  ah ab [] ρ s A cW (call (.ref K) vals) (Mine.Internal.el C c vs σ):=by
 obtain⟨FU,fn,agh,aI,aZ,ok,ho,EY⟩:=O.KQ _ O.init;have X:=O.cls.keeps i.base;obtain⟨nm,DB,bs,sn,sub,col,kj,hH,iQ,kd,q2,uC,FC⟩:=X.obj;have aA:vI ab c K:=⟨⟨N,gz,O.cls,O.cmp⟩,mg,B.g,hg⟩;refine(?_:ah ab [] ρ s A cW _ ((C.call (jq c "__init__") (.ref (σ.length+1)::vs)>>=λr=>uH r (Pure.pure (V.ref (σ.length+1)))) (σ++[.bT [],.inst c σ.length])));obtain⟨a8,jM,rl,t,os⟩:=s;have go:∀{Q:Value->Shared->Prop}{E:Value->Shared->Prop},(∀h' x di,Ext [] ρ a8 (ρ++[(di,0),(x,0)]) h'->ah ab [] (ρ++[(di,0),(x,0)]) ⟨h',jM,rl,t,os⟩ (A.under (.builtin "type.__call__" ⟨.ref K::vals,[]⟩)) cW (call (.ref FU) (.ref x::vals)) (C.call (jq c "__init__") (.ref (σ.length+1)::vs) (σ++[.bT [],.inst c σ.length])) ->
   wpAny (model ab.prog ab.w) (A.under (.builtin "type.__call__" ⟨.ref K::vals,[]⟩)) (call (.ref FU) (.ref x::vals)) (λr s'=>r=.none/\Q (.ref x) s') E ⟨h',jM,rl,t,os⟩)->wpAny (model ab.prog ab.w) A (call (.ref K) vals) Q E ⟨a8,jM,rl,t,os⟩:=λaH=>
  wpAny_call_obj_init PySem.F.objNew FC X.ns aI (i.base _ _ ho) EY λh' x di M=>by
   obtain⟨bB,b4⟩:=i.sd (W:=[]) aA M;refine aH h' x di b4 (hr _ fn FU _ _ _ _ ⟨h',jM,rl,t,os⟩ _ aT.make aZ ok (.cons (.ref (d:=0) ?_) (r.ext b4)) bB);rw[<-i.len];exact N7
 induction e:C.call (jq c "__init__") (.ref (σ.length+1)::vs) (σ++[.bT [],.inst c σ.length]) with
 |bad=>rw[dR e];exact aL
 |ok v ag=>
  rw[a4 e]
  cases v with
  |none=>
   refine go λh' x di b4 az=>?_;rw[e]at az;refine ei az (λb s' hp=>?_) λaf aJ f=>f.elim;obtain⟨aU,hT,hF,rfl,fs,il,bI⟩:=hp;cases bI;refine⟨aa,aU,hT,hF,aa,fs,b4.trans il,Rel.ext il (.ref (d:=0) ?_)⟩;rw[<-i.len];exact N7
  |_=>exact aL
end
theorem N5:bootBuiltins ("len" : Str)=I (.builtin "len"):=by decide +kernel
theorem GF:bootBuiltins ("list" : Str)=I (.type "list"):=by decide +kernel
theorem N2:bootBuiltins ("tuple" : Str)=I (.type "tuple"):=by decide +kernel
theorem N3:bootBuiltins ("sorted" : Str)=I (.builtin "sorted"):=by decide +kernel
theorem N4:bootBuiltins ("min" : Str)=I (.builtin "min"):=by decide +kernel
theorem ZH:bootBuiltins ("zip" : Str)=I (.type "zip"):=by decide +kernel
theorem ZI:bootBuiltins ("reversed" : Str)=I (.type "reversed"):=by decide +kernel
theorem ZJ:bootBuiltins ("range" : Str)=I (.type "range"):=by decide +kernel
theorem ZK:bootBuiltins ("enumerate" : Str)=I (.type "enumerate"):=by decide +kernel
section
variable {mg mb:Str->Option Value}
variable {loc:Loc}{n:Nat}
theorem AM(dd:∀e∈aW,∀v p,e≠.Starred v p)
  (h:wpAny (model ab.prog ab.w) A (spliced (backTo pos (starEach aW env))) (λvs s'=>Q ⟨vs,[]⟩ s') E s):wpAny (model ab.prog ab.w) A (evalArgs f aw (backTo pos (starEach aW env)) []) Q E s:=by
 induction aW using List.casesOn with
 |nil=>
  unfold evalArgs;refine(?_:wpAny _ A (spliced []>>=_) Q E s);refine a0 (ei h (λvs s' h'=>?_) λaf aJ x=>x);exact a0 (cz (k5 (a0 (cz (a0 (cz (cz h')))))))
 |cons e r=>
  rw[zf (dd e (by simp))]at h ⊢;exact Calls.evalArgs_plain h
theorem Nv{pos:Pos}{a:Addr}{o:Obj}{fd:FuncData}{first:List Value}{aW:List Expr}{Q:Value->Shared->Prop}{E:Value->Shared->Prop}(ho:ab.get? a=I o)(hd:o.data=.func fd)(dd:∀e∈aW,∀v p,e≠.Starred v p)
  (h:wpAny (model ab.prog ab.w) A (spliced (backTo pos (starEach aW env))) (λvs s₁=>(∀b o,ab.get? b=I o->s₁.heap.get? b=I o)/\wpAny (model ab.prog ab.w) A (call (.ref a) (first++vs)) Q E s₁) E s) :
  wpAny (model ab.prog ab.w) A (callWith pos (.ref a) first (backTo pos (starEach aW env)) []) Q E s:=
 Calls.callWith_function (o:=o) (fd:=fd) (AM dd (ei h (λvs s₁ dE=>⟨⟨dE.1 _ _ ho,hd⟩,dE.2⟩) λaf aJ x=>x))
theorem Nw{pos:Pos}{id:String}{first:List Value}{aW:List Expr}{Q:Value->Shared->Prop}{E:Value->Shared->Prop}(dd:∀e∈aW,∀v p,e≠.Starred v p)
  (h:wpAny (model ab.prog ab.w) A (spliced (backTo pos (starEach aW env))) (λvs s₁=>(∀b o,ab.get? b=I o->s₁.heap.get? b=I o)/\wpAny (model ab.prog ab.w) A (call (.builtin id) (first++vs)) Q E s₁) E s) :
  wpAny (model ab.prog ab.w) A (callWith pos (.builtin id) first (backTo pos (starEach aW env)) []) Q E s:=
 Calls.callWith_builtin (noStar dd).1 (AM dd (ei h (λvs s₁ dE=>dE.2) λaf aJ x=>x))
theorem Gm(dd:∀e∈aW,∀v p,e≠.Starred v p)
  (h:wpAny (model ab.prog ab.w) A (spliced (backTo pos (starEach aW env))) (λvs s₁=>(∀b o,ab.get? b=I o->s₁.heap.get? b=I o)/\wpAny (model ab.prog ab.w) A (call (.type T) (first++vs)) Q E s₁) E s) :
  wpAny (model ab.prog ab.w) A (callWith pos (.type T) first (backTo pos (starEach aW env)) []) Q E s:=
 ag8 (noStar dd).1 (AM dd (ei h (λvs s₁ dE=>dE.2) λaf aJ x=>x))
theorem ah.blt(a8:A.handled=U)(au:bootBuiltins f=I u1)(i:Inv ab σ ρ s.heap)(r:b8 ρ s.heap vals vs) :
  ah ab W ρ s A cW (call u1 vals) (blt f vs σ):=by
 cases r with
 |nil=>exact aL
 |@cons a as x xs bf r2=>cases r2 with
  |nil=>
   refine(?_:ah ab W ρ s A cW _ (GA f x σ));unfold Mine.Internal.GA;by_cases aE:f=("len" : Str)
   ·rw[aK aE];subst aE;replace au:=N5 ▸ au;cases au;exact ah.km i bf
   ·rw[aR aE];by_cases h1:f=("list" : Str)
    ·rw[aK h1];subst h1;replace au:=GF ▸ au;cases au;exact ah.n3 a8 i bf
    ·rw[aR h1];by_cases h2:f=("tuple" : Str)
     ·rw[aK h2];subst h2;replace au:=N2 ▸ au;cases au;exact ah.oW i bf
     ·rw[aR h2];by_cases h3:f=("sorted" : Str)
      ·rw[aK h3];subst h3;replace au:=N3 ▸ au;cases au;exact ah.mT i bf
      ·rw[aR h3];exact aL
  |cons bO r2=>cases r2 with
   |nil=>
    refine ah.ite λaZ=>?_;subst aZ;replace au:=N4 ▸ au;cases au;exact ah.oX a8 i bf bO
   |cons _ _=>exact aL
theorem ZB(h:Ba.contains f=aw):f∈p6/\((∃id,bootBuiltins f=I (.builtin id))\/∃T,bootBuiltins f=I (.type T)):=by
 have key:∀g∈Ba,g∈p6/\((∃id,bootBuiltins g=I (.builtin id))\/∃T,bootBuiltins g=I (.type T)):=by
  intro g hg;simp only [Ba,List.mem_cons,List.not_mem_nil,or_false]at hg;rcases hg with rfl|rfl|rfl|rfl|rfl
  ·exact⟨by decide +kernel,.inl ⟨_,N5⟩⟩
  ·exact⟨by decide +kernel,.inr ⟨_,GF⟩⟩
  ·exact⟨by decide +kernel,.inr ⟨_,N2⟩⟩
  ·exact⟨by decide +kernel,.inl ⟨_,N3⟩⟩
  ·exact⟨by decide +kernel,.inl ⟨_,N4⟩⟩
 exact key f (vT.mp h)
theorem Ht(f:Str)(p pos:Pos)(aW:List Expr):eval (.Call (.Name f p) aW [] pos) env=(eval (.Name f p) env>>=λu1=>callWith pos u1 [] (backTo pos (starEach aW env)) []):=rfl
theorem ah.head{α β:Type}{t:Sem Value}{v:Value}{f:Value->Sem β}{r:Res α}{R:α->Map->Heap->β->Prop}(aP:∀(Q:Value->Shared->Prop) (E:Value->Shared->Prop),Q v s->wpAny (model ab.prog ab.w) A t Q E s)
  (h:ah ab W ρ s A R (f v) r):ah ab W ρ s A R (t>>=f) r:=by
 induction r with
 |bad=>exact aL
 |ok a ag=>exact a0 (aP _ _ h)
def Bx(tx:ih):Prop:=∀f∈p6,tx.fns f=U
variable (ab C n) in
def Oj(aW:List Expr):Prop:=∀a,aW=[a]->∀(p pos:Pos) (env:Env) (ns:cC) (loc:Loc) (σ:aN) (ρ:Map) (s:Shared) (A:Around),e4 A n->c7 ab env ns loc ρ s.heap->Inv ab σ ρ s.heap->nG ns "list" = aw->wF C ns a=aw ->
 ah ab [] ρ s A cW (eval (.Call (.Name "list" p) aW [] pos) env) ((src C a ns loc (ev C a ns loc)>>=λs=>uv s) σ)
theorem Y2{pos:Pos}{K N:Addr}{gz:Str->Option Value}{aW:List Expr}{Q:Value->Shared->Prop}{E:Value->Shared->Prop}(X:ClsAt ab.heap K N gz)(dd:∀e∈aW,∀v p,e≠.Starred v p)
  (h:wpAny (model ab.prog ab.w) A (spliced (backTo pos (starEach aW env))) (λvs s₁=>(∀b o,ab.get? b=I o->s₁.heap.get? b=I o)/\wpAny (model ab.prog ab.w) A (call (.ref K) ([]++vs)) Q E s₁) E s) :
  wpAny (model ab.prog ab.w) A (callWith pos (.ref K) [] (backTo pos (starEach aW env)) []) Q E s:=by
 have Ai:((backTo pos (starEach aW env)).any (λx=>x.fst) || ([]:List (Option Str×Sem Value)).any λx=>x.fst.isNone)=aS:=by rw[((noStar (env:=env) (pos:=pos) dd).1)];rfl
 unfold callWith;refine a0 (k5 (AM dd (ei h (λvs s₁ dE=>?_) λaf aJ x=>x)));refine aB λae=>?_;obtain⟨a8,g,d,t,os⟩:=s₁;obtain⟨nm,q,bs,sn,sub,col,kj,hH,iQ,kd,q2,uC,hr⟩:=(X.keeps dE.1).obj;have f1:=tc_lookup;have bw:(⟨a8,g,d,t,os⟩:Shared).TypeIs (.ref K) "type":=⟨_,hr,aa⟩;refine ae (a0 (yA ?_));refine(?_:wpAny _ _ (keeperOf (.ref K)>>=_) _ _ _);unfold keeperOf specialOf
 repeat (any_goals (first|assumption|with_reducible refine wpAny_loadPart_at hr ?_|with_reducible refine wpAny_load' hr ?_|wp_step))
 rw[aK (by rfl),Ai];refine(?_:wpAny _ _ (call (.ref K) vs []>>=λr=>do holding [r] point;pure r) _ _ _);exact a0 (ei dE.2 (λr s' aX=>a0 (k5 (wpAny_point (cz aX)))) λaf aJ x=>x)
theorem Yj{f:Str}{aW:List Expr}{p pos:Pos}(B:i0 tx mg mb ab.heap)(mO:∀f,C.nH f=(tx.fns f).isSome)(gL:C.cls=tx.cls)(hr:yw ab tx C n)(lP:o6 ab C n aW)
  (VA:Oj ab C n aW):cN ab C n (.Call (.Name f p) aW [] pos):=λenv ns loc σ ρ s A aT F i=>by
 refine(?_:ah ab [] ρ s A cW _ ((if Gq C ns f aW=aw then AO C aW ns loc f (jw C aW ns loc) else M.bad) σ));refine ah.ite λaA=>?_;unfold Gq at aA;rw[Bool.and_eq_true,Bool.and_eq_true]at aA;obtain⟨aZ,dd,Md⟩:=aA;by_cases aX:∃a,aW=[a]/\(wF C ns a&&f==("list" : Str))=aw
 ·obtain⟨a,rfl,aX⟩:=aX;have e:AO C [a] ns loc f (jw C [a] ns loc)=(src C a ns loc (ev C a ns loc)>>=λs=>uv s):=by
   refine(?_:(if (wF C ns a&&f==("list" : Str))=aw then _ else _)=_);rw[aK aX]
  rw[e];rw[Bool.and_eq_true]at aX;have aH:f=("list" : Str):=eq_of_beq aX.2;subst aH;exact VA a aa p pos env ns loc σ ρ s A aT F i aZ aX.1
 have e:AO C aW ns loc f (jw C aW ns loc)=(jw C aW ns loc>>=λvs=>s7 C f vs):=by
  induction aW using List.casesOn with
  |nil=>rfl
  |cons a r=>induction r using List.casesOn with
   |nil=>
    refine(?_:(if (wF C ns a&&f==("list" : Str))=aw then _ else _)=_);rw[aR λh=>aX ⟨a,aa,h⟩]
   |cons _ _=>rfl
 rw[e];rw[Ht]
 induction uS:tx.fns f with
 |some fn=>
  obtain⟨a,hm,ok⟩:=B.fn f fn uS;obtain⟨o,fd,ho,hd,_⟩:=id ok;have xv:C.nH f=aw:=by rw[mO,uS];rfl
  refine ah.head (v:=.ref a) (λQ E h=>H6 B F i aZ hm h) ?_;refine ah.args dd lP aT F i (λQ E dd h=>Nv ho hd dd h) λl bl a7 H bj vs bB b4 cw=>?_;refine(?_:ah ab [] a7 _ A cW _ ((if C.nH f=aw then C.call f l else _) bl));rw[aK xv];exact hr f fn a l vs bl a7 _ A aT.weak (by unfold ih.at;rw[uS];rfl) ok cw bB
 |none=>
  have xv:C.nH f=aS:=by rw[mO,uS];rfl
  induction Aw:tx.cls f with
  |some ms=>
   obtain⟨K,N,gz,hm,O⟩:=B.own f ms Aw;have e:s7 C f=λvs=>Mine.Internal.el C f vs:=by funext l;unfold s7;rw[xv,gL,Aw];rfl
   rw[e];refine ah.head (v:=.ref K) (λQ E h=>H6 B F i aZ hm h) ?_;exact ah.args dd lP aT F i (λQ E dd h=>Y2 O.cls dd h) λl bl a7 H bj vs bB b4 cw=>ah.el B O hm hr aT bB cw
  |none=>
   have e:s7 C f=λvs=>blt f vs:=by funext l;unfold s7;rw[xv,gL,Aw];rfl
   rw[e];obtain⟨ao,au⟩:=ZB (by rw[xv,gL,Aw]at Md;exact Md);have k:∀{u1:Value},bootBuiltins f=I u1->∀l bl a7 H bj vs,Inv ab bl a7 H->Ext [] ρ s.heap a7 H->b8 a7 H vs l->ah ab [] a7 (At H bj s) A cW (call u1 vs) (blt f l bl):=λau l bl a7 H bj vs bB b4 cw=>
    ah.blt aT.handled au bB cw
   rcases au with ⟨id,au⟩|⟨T,au⟩
   ·refine ah.head (v:=.builtin id) (λQ E h=>yU B F i aZ ao uS au h) ?_;exact ah.args dd lP aT F i (λQ E dd h=>Nw dd h) (k au)
   ·refine ah.head (v:=.type T) (λQ E h=>yU B F i aZ ao uS au h) ?_;exact ah.args dd lP aT F i (λQ E dd h=>Gm dd h) (k au)
end
section
variable {mg mb:Str->Option Value}
variable {loc:Loc}{n:Nat}
theorem N6(h:xc o=aS):attributeBase o m env whole=whole:=by
 induction o using Expr.casesOn with
 |Call f as cm p=>
  cases f <;> first|rfl|(cases as <;> first|rfl|(cases cm <;> first|rfl|exact kD h))
 |_=>rfl
inductive jX where
 |append|join|index|pop|extend|setdefault
noncomputable def jX.tag:jX->qe
 |.append=>.append
 |.join=>.join
 |.index=>.index
 |.pop=>.pop
 |.extend=>.extend
 |.setdefault=>.setdefault
noncomputable def jX.T:jX->String
 |.append => "list"
 |.join => "str"
 |.index => "list"
 |.pop => "list"
 |.extend => "list"
 |.setdefault => "dict"
noncomputable def jX.name:jX->Str
 |.append => "append"
 |.join => "join"
 |.index => "index"
 |.pop => "pop"
 |.extend => "extend"
 |.setdefault => "setdefault"
noncomputable def jX.id:jX->String
 |.append => "list.append"
 |.join => "str.join"
 |.index => "list.index"
 |.pop => "list.pop"
 |.extend => "list.extend"
 |.setdefault => "dict.setdefault"
theorem jX.attrs(t:jX):PlainAttrs t.T:=by
 induction t with
 |append=>exact HW
 |join=>exact F.plainAttrs_str
 |index=>exact HW
 |pop=>exact HW
 |extend=>exact HW
 |setdefault=>exact F.plainAttrs_dict
theorem jX.slot(t:jX):Slot t.T t.name t.id:=by
 induction t with
 |append=>exact F.slot_list_append
 |join=>exact F.slot_str_join
 |index=>exact F.slot_list_index
 |pop=>exact F.slot_list_pop
 |extend=>exact F.slot_list_extend
 |setdefault=>exact F.slot_dict_setdefault
theorem jX.type(t:jX):typeOf (.builtin t.id)=pure (.type "method_descriptor"):=by
 induction t with
 |append=>exact F.type_list_append
 |join=>exact F.type_str_join
 |index=>exact F.type_list_index
 |pop=>exact F.type_list_pop
 |extend=>exact F.type_list_extend
 |setdefault=>exact F.type_dict_setdefault
inductive GW(ab:eG)(tx:ih)(mg:Str->Option Value)(ρ:Map)(s:Shared)(v:Value)(m:Str):qe->Prop
 |blt(t:jX):m=t.name->s.TypeIs v t.T->(∀a,v=.ref a->∃o,s.heap.get? a=some o/\o.dict=none)->GW ab tx mg ρ s v m t.tag
 |own{c:Str}{ms:List Str×List Str}{a K N:Addr}{gz fC:Str->Option Value}:v=.ref a->s.heap.Inst a K fC->OwnCls tx ab.heap c ms K N gz->m∈ms.1->fC m=none->GW ab tx mg ρ s v m (.own c)
theorem Ug(B:i0 tx mg mb ab.heap)(gL:C.cls=tx.cls)(i:Inv ab σ ρ s.heap)(r:Rel ρ s.heap v x)(h:d9 C x m σ=I t):GW ab tx mg ρ s v m t:=by
 induction r using Rel.cs with
 |str _ bj _=>
  have h:(if m=("join" : Str) then I qe.join else U)=I t:=h;by_cases e:m=("join" : Str)
  ·replace h:=aK e ▸ h;cases h;exact .blt .join e (Hz s _ bj) λaf e=>nomatch e
  ·replace h:=aR e ▸ h;exact a5 h
 |@ref a d k bL=>
  have h:(if lJ σ k=aw then z1 m else if oJ σ k=aw then (if m=("setdefault" : Str) then I qe.setdefault else U) else (ue C m σ k).map qe.own)=I t:=h;by_cases hl:lJ σ k=aw
  ·replace h:=aK hl ▸ h;unfold z1 at h;have hl:∃l,σ[k]? =I (.list l):=by
    unfold lJ at hl
    induction e:σ[k]? with
    |none=>replace hl:=e ▸ hl;exact fw hl
    |some o=>
     replace hl:=e ▸ hl
     induction o with
     |list l=>exact⟨l,aa⟩
     |_=>exact fw hl
   obtain⟨l,e⟩:=hl;obtain⟨vs,j,g,_,_⟩:=i.list e bL;have hd:∀b,Value.ref a=.ref b->∃o,s.heap.get? b=I o/\o.dict=U:=λb e=>by cases e;exact⟨_,g,aa⟩
   by_cases av:m=("append" : Str)
   ·replace h:=aK av ▸ h;cases h;exact .blt .append av (gd g).typeIs hd
   ·replace h:=aR av ▸ h;by_cases ay:m=("index" : Str)
    ·replace h:=aK ay ▸ h;cases h;exact .blt .index ay (gd g).typeIs hd
    ·replace h:=aR ay ▸ h;by_cases dB:m=("pop" : Str)
     ·replace h:=aK dB ▸ h;cases h;exact .blt .pop dB (gd g).typeIs hd
     ·replace h:=aR dB ▸ h;by_cases eM:m=("extend" : Str)
      ·replace h:=aK eM ▸ h;cases h;exact .blt .extend eM (gd g).typeIs hd
      ·replace h:=aR eM ▸ h;exact a5 h
  ·replace h:=aR hl ▸ h;by_cases nU:oJ σ k=aw
   ·replace h:=aK nU ▸ h;have nU:∃v l,σ[k]? =I (.dict v l):=by
     unfold oJ at nU
     induction e:σ[k]? with
     |none=>replace nU:=e ▸ nU;exact fw nU
     |some o=>
      replace nU:=e ▸ nU
      induction o with
      |dict v l=>exact⟨v,l,aa⟩
      |_=>exact fw nU
    obtain⟨v,l,e⟩:=nU;obtain⟨_,_,cj,hd,_⟩:=i.dict e bL;obtain⟨o,aW,dI,g,⟨_,ao,_⟩,_⟩:=id hd;by_cases av:m=("setdefault" : Str)
    ·replace h:=aK av ▸ h;cases h;exact .blt .setdefault av hd.typeIs λb e=>by cases e;exact⟨_,g,ao⟩
    ·replace h:=aR av ▸ h;exact a5 h
   replace h:=aR nU ▸ h;obtain⟨c,aA,rfl⟩:=eU.mp h;unfold ue at aA;obtain⟨fG,h1,aA⟩:=i3.mp aA;obtain⟨ms,h2,aA⟩:=i3.mp aA;obtain⟨l,h3,aA⟩:=i3.mp aA;by_cases hm:(ms.1.contains m&&(l.lookup m).isNone)=aw
   case neg=>replace aA:=aR hm ▸ aA;exact a5 aA
   replace aA:=aK hm ▸ aA;cases aA;replace hm:=(Bool.and_eq_true ..) ▸ hm;obtain⟨j,av⟩:=xd h1;obtain⟨K,di,f3,fC,q⟩:=i.EA av (MP av h3) bL;replace h2:=gL ▸ h2;obtain⟨Pa,N,gz,hg,O⟩:=B.own c ms h2;replace hg:=q.cls.at B.g ▸ hg;cases hg;exact .own aa q.inst O (vT.mp hm.1) (q.bT.no m (Option.isNone_iff_eq_none.mp hm.2))
 |_=>exact a5 h
theorem ah.runM{t:jX}{v:Value}{x:V}{m:Str}{vals:List Value}{vs:List V}(aY:A.units+201<cLine)(i:Inv ab σ ρ s.heap)(r:Rel ρ s.heap v x)(rs:b8 ρ s.heap vals vs):ah ab W ρ s A cW (call (.builtin t.id) (v::vals)) (runM C m t.tag x vs σ):=by
 cases rs with
 |nil=>induction t with
  |pop=>exact ah.zQ i r
  |_=>exact aL
 |cons bf r2=>cases r2 with
  |nil=>induction t with
   |append=>exact ah.zV i r bf
   |join=>exact ah.zR i r bf
   |index=>exact ah.zS aY i r bf
   |pop=>exact aL
   |extend=>exact ah.zT i r bf
   |setdefault=>exact aL
  |cons bO r2=>cases r2 with
   |nil=>induction t with
    |setdefault=>exact ah.zU i r bf bO
    |_=>exact aL
   |cons _ _=>cases t <;> exact aL
theorem Ux(m:Str):∃y,typeLookup (.type "object") m=pure y:=by
 rw[pa];have:(builtinLookup "object" m).isSome=aw:=by
  unfold builtinLookup;rw[show builtinMro "object" = I [.type "object"] by kernel_rfl];rfl
 induction e:builtinLookup "object" m with
 |none=>rw[e]at this;exact fw this
 |some y=>exact⟨y,aa⟩
theorem Yk(B:i0 tx mg mb ab.heap)(gL:C.cls=tx.cls)(hr:yw ab tx C n)(ho:cN ab C n o)(lP:o6 ab C n aW):cN ab C n (.Call (.Attribute o m ap) aW [] pos):=λenv ns loc σ ρ s A aT F i=>by
 refine(?_:ah ab [] ρ s A cW _ ((if ap.endLine=pos.line/\aW.length<30/\xc o=aS/\qR aW=aw then (ev C o ns loc>>=λv=>c3 (d9 C v m)>>=λCN=>jw C aW ns loc>>=λvs=>runM C m CN v vs) else M.bad) σ));refine ah.ite λaA=>?_;refine aB λae=>?_;obtain⟨h1,h2,h3,dd⟩:=aA;refine ae ?_;rw[arm_eval_Call,N6 h3];refine ah.bind (ho env ns loc σ ρ s A aT F i) λa bl a7 ed eB ai bB b4 cw=>ah.standAt ?_;refine ah.Be λt aP=>?_;have Mb:methodCallForm (aW.length+([]:List Keyword).length) (backTo pos (starEach aW env)) (backToKw pos (keywordEach [] env))=aw:=by
  refine(?_:((backTo pos (starEach aW env)).all (λx=>!x.1)&&aw&&decide (aW.length+0+0<30))=aw);rw[(noStar (Kx dd)).2];simpa using h2
 have dA:methodCallPos aw o env ap pos=pure pos:=by
  unfold methodCallPos;rw[aK (by simp [h1])]
 cases Ug (s:=At ed eB s) B gL bB cw aP with
 |blt t hm bw hd=>
  subst hm;refine ah.wrap (t:=callWith pos (.builtin t.id) [ai] (backTo pos (starEach aW env)) []) (λQ E h=>?_) ?_
  ·unfold methodCall;rw[Mb];refine a0 (k5 (getMethod_builtin bw t.attrs t.slot t.type hd ?_));exact a0 (mq dA h)
  ·exact ah.args dd lP aT (F.gB b4) bB (λQ E dd h=>Nw dd h) λl bl a7 H bj vs bB b4 r=>ah.runM aT.u bB (cw.ext b4) r
 |@own c ms b K N gz fC aM hI O hm xo=>
  subst aM;refine aB λae=>?_;obtain⟨fa,fn,of,aZ,mO,ok,EX,We⟩:=O.KQ m hm;obtain⟨o',fd,jt,jv,_⟩:=id ok;have X:=O.cls.keeps bB.base;obtain⟨nm,DB,bs,sn,sub,col,kj,hH,iQ,kd,q2,uC,FC⟩:=X.obj;obtain⟨y,a9⟩:=Ux m;refine ae (ah.wrap (t:=callWith pos (.ref fa) [.ref b] (backTo pos (starEach aW env)) []) (λQ E h=>?_) ?_)
  ·unfold methodCall;rw[Mb];refine aB λae=>?_;obtain⟨a8,g,d,bj,os⟩:=s;refine ae (a0 (k5 (method_of FC X.ns O.ga O.WW aZ (bB.base _ _ EX) We a9 hI xo ?_)));exact a0 (mq dA h)
  ·exact ah.args dd lP aT (F.gB b4) bB (λQ E dd h=>Nv jt jv dd h) λl bl a7 H bj vs bB b4 r=>hr _ fn fa _ _ _ _ _ A aT.weak mO ok (.cons (cw.ext b4) r) bB
theorem Yn(B:i0 tx mg mb ab.heap)(gL:C.cls=tx.cls)(ho:cN ab C n o):cN ab C n (.Attribute o m pos):=λenv ns loc σ ρ s A aT F i=>by
 refine(?_:ah ab [] ρ s A cW _ ((if xc o=aS then (ev C o ns loc>>=λv=>cL C m v) else M.bad) σ));refine ah.ite λaA=>?_;rw[arm_eval_Attribute,N6 aA];refine ah.bind (ho env ns loc σ ρ s A aT F i) λa bl a7 ed eB ai bB b4 cw=>ah.standAt ?_;exact ah.behind (λv s' Q E aH=>aeu aH) (ah.holding (ah.cL B gL bB cw))
end
section
variable {prog:Program}{w:World}{E:Value->Shared->Prop}
theorem wA:Slot "list_reverseiterator" "__next__" "list_reverseiterator.__next__":=
 .of (owner := "list_reverseiterator") (n := "__next__") (by rw[pa,ql];kernel_rfl) (by decide +kernel) (by decide +kernel) (by decide +kernel)
  (by first|exact .inl (by decide +kernel)|exact .inr (by decide +kernel)) (by rw[tL];kernel_rfl)
theorem JK:Slot "list_reverseiterator" "__iter__" "list_reverseiterator.__iter__":=
 .of (owner := "list_reverseiterator") (n := "__iter__") (by rw[pa,ql];kernel_rfl) (by decide +kernel) (by decide +kernel) (by decide +kernel)
  (by first|exact .inl (by decide +kernel)|exact .inr (by decide +kernel)) (by rw[tL];kernel_rfl)
theorem JI:entryFor table "list_reverseiterator.__next__" = I Builtin.«list_reverseiterator.__next__»:=Px (by kernel_rfl)
theorem SR:entryFor table "list_reverseiterator.__iter__" = I Builtin.«dict_keyiterator.__iter__»:=
 aeB (id' := "dict_keyiterator.__iter__") (by kernel_rfl) (by first|rfl|decide +kernel|(unfold String.splitOn;simp +decide [String.splitOnAux])) (by decide +kernel) (by kernel_rfl)
theorem JJ(a:Value):argsOk "list_reverseiterator.__next__" ⟨[a],[]⟩:=by unfold argsOk;kernel_rfl
theorem SS(a:Value):argsOk "list_reverseiterator.__iter__" ⟨[a],[]⟩:=by unfold argsOk;kernel_rfl
theorem wy:Slot "reversed" "__next__" "reversed.__next__":=
 .of (owner := "reversed") (n := "__next__") (by rw[pa,ql];kernel_rfl) (by decide +kernel) (by decide +kernel) (by decide +kernel)
  (by first|exact .inl (by decide +kernel)|exact .inr (by decide +kernel)) (by rw[tL];kernel_rfl)
theorem JH:Slot "reversed" "__iter__" "reversed.__iter__":=
 .of (owner := "reversed") (n := "__iter__") (by rw[pa,ql];kernel_rfl) (by decide +kernel) (by decide +kernel) (by decide +kernel)
  (by first|exact .inl (by decide +kernel)|exact .inr (by decide +kernel)) (by rw[tL];kernel_rfl)
theorem SH:Slot "reversed" "__init__" "object.__init__":=
 .of (owner := "object") (n := "__init__") (by rw[pa,ql];kernel_rfl) (by decide +kernel) (by decide +kernel) (by decide +kernel)
  (by first|exact .inl (by decide +kernel)|exact .inr (by decide +kernel)) (by rw[tL];kernel_rfl)
theorem JB:entryFor table "reversed.__next__" = I Builtin.«reversed.__next__»:=Px (by kernel_rfl)
theorem SF:entryFor table "reversed.__iter__" = I Builtin.«dict_keyiterator.__iter__»:=
 aeB (id' := "dict_keyiterator.__iter__") (by kernel_rfl) (by first|rfl|decide +kernel|(unfold String.splitOn;simp +decide [String.splitOnAux])) (by decide +kernel) (by kernel_rfl)
theorem JC(a:Value):argsOk "reversed.__next__" ⟨[a],[]⟩:=by unfold argsOk;kernel_rfl
theorem SG(a:Value):argsOk "reversed.__iter__" ⟨[a],[]⟩:=by unfold argsOk;kernel_rfl
theorem JD:entryFor table "reversed.__new__" = I Builtin.«reversed.__new__»:=Px (by kernel_rfl)
theorem Dq:mroOf (.type "reversed")=pure [.type "reversed",.type "object"]:=by rw[mroOf_type];kernel_rfl
theorem JG:Bind.madeBy (.type "reversed")=pure (I "reversed.__new__"):=madeBy_type Dq (by rw[pa,ql];kernel_rfl) (by decide +kernel)
theorem JA:isSubtype (.type "reversed") (.type "reversed")=pure aw:=by rw[tL];kernel_rfl
theorem zt:TypeCalled "reversed" "reversed.__new__" "object.__init__":=⟨by decide +kernel,by decide +kernel,⟨_,_,Dq⟩,JG,by decide +kernel,JA,SH⟩
theorem SP:isSubtype (.type "list_reverseiterator") (.type "reversed")=pure aS:=by rw[tL];kernel_rfl
theorem Jz(a:Value):checkTypeCall "reversed" ⟨[a],[]⟩=pure ():=by kernel_rfl
theorem JF(a:Value):checkBuiltinCall "reversed.__new__" ⟨[.type "reversed",a],[]⟩=pure ():=by kernel_rfl
theorem Rd:typeLookup (.type "tuple") "__reversed__" = pure U:=by rw[pa,ql];kernel_rfl
def o1(h:Heap)(ba l:Addr)(i:Int):Prop:=h.get? ba=I { cls:=.type "list_reverseiterator",data:=.fields #[.ref l,rawInt i] }
def vt(h:Heap)(ba t:Addr)(i:Int):Prop:=h.get? ba=I { cls:=.type "reversed",data:=.fields #[.ref t,rawInt i] }
theorem JE(a:Value):Builtin.SmallTypes.newClass "reversed" ⟨[.type "reversed",a],[]⟩=pure (.type "reversed",[a]):=by
 unfold Builtin.SmallTypes.newClass;simp only [isType,JA,pure_bind,Bool.not_true,Bool.false_eq_true,if_false]
theorem SD(t:Addr)(vs:List Value)(n:Nat)(hz:vs.length<=sizeLine) :
  Meets (Builtin.«reversed.__new__» ⟨[.type "reversed",.ref t],[]⟩) (λaf R s=>s.heap.get? t=I (dZ vs n)/\∀bj,R (.ok (.ret (.ref s.heap.objs.size))) { s with heap:=s.heap.push { cls:=.type "reversed",data:=.fields #[.ref t,rawInt ((vs.length:Int)-1)] },toks:=bj }):=
 .of_wp λprog w A R s h=>by
  obtain⟨hl,h⟩:=h;have az:=pB;have bw:=(mJ hl).typeIs;unfold Builtin.«reversed.__new__»;refine a0 (mq (JE _) ?_);refine a0 (mq (a:=()) aa ?_);refine a0 (mq (a:=()) aa ?_);refine a0 (tJ bw Rd ?_);refine a0 (Q:=_) ?_;refine(?_:wpAny _ _ (isInstance (.ref t) (.type "dict")>>=_) _ _ _);refine a0 (yB (T := "tuple") (b:=aS) bw PySem.F.sub_tuple_dict ?_);refine a0 (tJ bw BU.lookup ?_);refine cz ?_;refine a0 (P.len_tuple (items:=vs.toArray) (n:=n) hl (by rw[List.size_toArray];lia) ?_);refine a0 (mq (a:=I (vs.toArray.size:Int)) aa ?_);rw[List.size_toArray];refine(?_:wpAny _ _ (newObj (.type "reversed") (.fields #[.ref t,rawInt ((vs.length:Int)-1)])>>=_) _ _ _);refine a0 (qj ?_);exact cz ⟨_,aa,h _⟩
theorem Zp(g:s.heap.get? t=I (dZ vs n))(hz:vs.length<=sizeLine)
  (h:∀h' bj,(∀b o,s.heap.get? b=I o->h'.get? b=I o)->vt h' s.heap.objs.size t ((vs.length:Int)-1)->Q (.ref s.heap.objs.size) { s with heap:=h',toks:=bj }):wpAny (model prog w) A (call (.type "reversed") [.ref t]) Q E s:=
 callType_new zt (by decide) (Jz _) (JF _) (λobj=>PySem.F.args_object_init_2 obj _) JD (SD t vs n hz) ⟨g,λbj=>⟨⟨_,gR _ aa,aa⟩,h _ bj (λaf aJ e=>fH _ e) (gR _ aa)⟩⟩
theorem TY{n i:Nat}(bJ:vt s.heap ba t (i:Int))(g:s.heap.get? t=I (dZ vs n))(hz:vs.length<=sizeLine)(ak:vs[i]? =I x)
  (br:∀h' bj,vt h' ba t ((i:Int)-1)->Heap.SameBut ba s.heap h'->Q (I x) { s with heap:=h',toks:=bj }):wpAny (model prog w) A (pyNext (.ref ba)) Q E s:=by
 have az:=pB;have aI:=cE ak;have bw:s.TypeIs (.ref ba) "reversed":=⟨_,bJ,aa⟩;unfold pyNext;refine a0 (vK (qk (name:=Str.ofString "__next__") bw wy (m5 wy bw JB ?_ (JC _))));refine(?_:wpAny _ _ (field (.ref ba) 0>>=_) _ _ s);refine a0 (hU bJ aa (x:=.ref t) aa ?_);refine(?_:wpAny _ _ (field (.ref ba) 1>>=_) _ _ s);refine a0 (hU bJ aa (x:=rawInt (i:Int)) aa ?_);refine(?_:wpAny _ _ (if (i:Int)<0 then _ else _) _ _ s);rw[aR (qt.mpr (i6 i))];refine a0 (tJ (mJ g).typeIs BU.lookup ?_);refine(?_:wpAny _ _ (mkInt (i:Int)>>=_) _ _ s);refine a0 (wpAny_mkInt ?_);refine a0 (vK (aeV (n:=n) (i:=(i:Int)) (k:=i) g (ph (by decide) (i6 i)) (yO (w0 aI) (ph (uy hz) (by decide))) (by rw[List.size_toArray];exact seqIndex_of (i6 i) (w0 aI)) (by simpa using ak) ?_));refine(?_:wpAny _ _ (field (.ref ba) 1>>=_) _ _ _);refine a0 (hU (s:={ s with toks:=s.toks+1 }) bJ aa (x:=rawInt (i:Int)) aa ?_);refine(?_:wpAny _ _ (setField (.ref ba) 1 (rawInt ((i:Int)-1))>>=_) _ _ _);refine a0 (qi (s:={ s with toks:=s.toks+1 }) bJ (by simp) λh' fE e0=>?_);exact cz ⟨x,aa,cz (br h' _ fE e0)⟩
theorem C5{α:Type}{Q:α->Shared->Prop}{ks:Value->Shared->Prop}(a8:A.handled=U)(AB:∀h' e,(∀b o,s.heap.get? b=I o->h'.get? b=I o)->(∃o,h'.get? e=I o/\o.cls=.type "StopIteration")->ks (.ref e) { s with heap:=h' }) :
  wpAny (model prog w) A (Builtin.SmallTypes.stopIteration (α:=α)) Q ks s:=by
 unfold Builtin.SmallTypes.stopIteration;show wpAny _ _ (newExc (.type "StopIteration") []>>=_) _ _ _;refine a0 ?_;simp only [newExc,newTuple];refine a0 (qj ?_ (by size_fits));refine a0 (m:=firstArgMember _ _) (mq (a:=Value.none) (by first|rfl|(simp only [firstArgMember];rfl)) ?_);refine qj ?_ (by size_fits);simp only [raiseNew];refine a0 (wpAny_handled ?_);rw[a8];refine a0 (cz (wpAny_throw ?_));exact AB _ _ (λb o e=>fH _ (fH _ e)) ⟨_,gR _ aa,aa⟩
theorem TX{ba t:Addr}{Q:Option Value->Shared->Prop}(a8:A.handled=U)(bJ:vt s.heap ba t (-1))(br:∀h',Heap.ExtBut ba s.heap h'->Q U { s with heap:=h' }):wpAny (model prog w) A (pyNext (.ref ba)) Q E s:=by
 have bw:s.TypeIs (.ref ba) "reversed":=⟨_,bJ,aa⟩;unfold pyNext;refine a0 (vK (qk (name:=Str.ofString "__next__") bw wy (m5 wy bw JB ?_ (JC _))));refine(?_:wpAny _ _ (field (.ref ba) 0>>=_) _ _ s);refine a0 (hU bJ aa (x:=.ref t) aa ?_);refine(?_:wpAny _ _ (field (.ref ba) 1>>=_) _ _ s);refine a0 (hU bJ aa (x:=rawInt (-1)) aa ?_);refine a0 (tK (a0 ?_));refine(?_:wpAny _ _ (setField (.ref ba) 1 (rawInt (-1))>>=λaf=>setField (.ref ba) 0 .none) _ _ s);refine a0 (qi bJ (by simp) λdE uR lL=>?_);refine qi (s:={ s with heap:=dE }) uR (by simp) λft agC kR=>?_;refine a0 (C5 (A:=A.in1) (s:={ s with heap:=ft }) a8 λfi e ar he=>?_);refine aB λae=>?_;obtain⟨o,ho,aA⟩:=he;refine ae (a0 (yB (T := "StopIteration") (b:=aw) ⟨o,ho,aA⟩ Pw ?_));exact cz (br _ λb o au e=>ar b o (kR.extBut b o au (lL.extBut b o au e)))
theorem U3(bJ:vt s.heap ba t i)(h:Q (.ref ba) s):wpAny (model prog w) A (pyIter (.ref ba)) Q E s:=by
 have bw:s.TypeIs (.ref ba) "reversed":=⟨_,bJ,aa⟩;refine aep bw JH (m5 JH bw SF ?_ (SG _));refine(?_:wpAny _ _ (ret (.ref ba)) _ _ s);exact cz ⟨_,aa, "reversed",_,bw,wy.lookup,h⟩
theorem SE(l:Addr)(vs:List Value)(n:Nat) :
  Meets (Builtin.«reversed.__new__» ⟨[.type "reversed",.ref l],[]⟩) (λaf R s=>s.heap.get? l=I (en vs n)/\R (.ok (.ret (.ref s.heap.objs.size))) { s with heap:=s.heap.push { cls:=.type "list_reverseiterator",data:=.fields #[.ref l,rawInt ((vs.length:Int)-1)] } }):=
 .of_wp λprog w A R s h=>by
  obtain⟨hl,h⟩:=h;have bw:=(gd hl).typeIs;unfold Builtin.«reversed.__new__»;refine a0 (mq (JE _) ?_);refine a0 (mq (a:=()) aa ?_);refine a0 (mq (a:=()) aa ?_);refine a0 (tJ bw Pz.lookup ?_);refine a0 (mq (Pz.bind _) ?_);refine a0 (tK ?_);refine a0 (m:=runValue (.call (.builtin "list.__reversed__") ⟨[.ref l],[]⟩)) (show wpAny _ _ (call (.builtin "list.__reversed__") [.ref l]) _ _ _ from ?_);refine m5 Pz bw PySem.F.entry_list_reversed ?_ (PySem.F.args_list_reversed_1 _);unfold Builtin.«list.__reversed__»;refine a0 (mq (a:=Value.ref l) aa ?_);refine a0 (wpAny_listItems hl aa ?_);refine a0 (qj ?_);refine cz ⟨_,aa,cz ⟨_,aa,?_⟩⟩
  simpa using h
theorem Zq(g:s.heap.get? l=I (en vs n))
  (h:∀h',(∀b o,s.heap.get? b=I o->h'.get? b=I o)->o1 h' s.heap.objs.size l ((vs.length:Int)-1)->Q (.ref s.heap.objs.size) { s with heap:=h' }):wpAny (model prog w) A (call (.type "reversed") [.ref l]) Q E s:=by
 have h1:=zt.notType;have h2:=zt.canCreate;have agz:=JG;have q5:=SP;have agx:=Dq;refine wpAny_call (HA ?_);refine(?_:wpAny _ _ (callAny (.type "reversed") _) _ _ _);refine cz ⟨Code.quiet_builtin _ (by decide +kernel),aeD F.entry_type_call ?_⟩;rw[Around.under_plain (weight_type_call_type "reversed" [.ref l] []) aa];have agE:=Jz (.ref l)
 repeat (any_goals (first|assumption|wp_step))
 refine BV (codeAny_call_builtin zt.plain JD (mq (JF _) (SE l vs n prog w A.in1 (wants (λobj s₁=>obj=.ref s.heap.objs.size/\s₁ = { s with heap:=s.heap.push { cls:=.type "list_reverseiterator",data:=.fields #[.ref l,rawInt ((vs.length:Int)-1)] } }) E) s ⟨g,aa,aa⟩))) λr s₁ aX=>?_
 induction r with
 |error e=>exact aX
 |ok fl=>
  induction fl with
  |ret obj=>
   obtain⟨rfl,rfl⟩:=aX;have bw:({ s with heap:=s.heap.push { cls:=.type "list_reverseiterator",data:=.fields #[.ref l,rawInt ((vs.length:Int)-1)] } }:Shared).TypeIs (.ref s.heap.objs.size) "list_reverseiterator":=⟨_,gR _ aa,aa⟩;have aH:=h _ (λb o e=>fH _ e) (gR _ aa)
   repeat (any_goals (first|assumption|wp_step))
  |_=>exact aX.elim
theorem KB{n i:Nat}(bJ:o1 s.heap ba l (i:Int))(g:s.heap.get? l=I (en vs n))(ak:vs[i]? =I x)
  (br:∀h',o1 h' ba l ((i:Int)-1)->Heap.SameBut ba s.heap h'->Q (I x) { s with heap:=h' }):wpAny (model prog w) A (pyNext (.ref ba)) Q E s:=by
 have bw:s.TypeIs (.ref ba) "list_reverseiterator":=⟨_,bJ,aa⟩;unfold pyNext;refine a0 (vK (qk (name:=Str.ofString "__next__") bw wA (m5 wA bw JI ?_ (JJ _))));refine(?_:wpAny _ _ (field (.ref ba) 1>>=_) _ _ s);refine a0 (hU bJ aa (x:=rawInt (i:Int)) aa ?_);refine(?_:wpAny _ _ (if (i:Int)<0 then _ else _) _ _ s);rw[aR (qt.mpr (i6 i))];refine(?_:wpAny _ _ (field (.ref ba) 0>>=_) _ _ s);refine a0 (hU bJ aa (x:=.ref l) aa ?_);refine(?_:wpAny _ _ (seqItems? (.ref l)>>=_) _ _ s);refine a0 (o9 g aa ?_);have gf:vs.toArray[(i:Int).toNat]? =I x:=by simpa using ak
 simp only [gf];refine a0 (qi bJ (by simp) λh' fE e0=>?_);exact cz ⟨x,aa,cz (br h' fE e0)⟩
theorem KA{ba l:Addr}{Q:Option Value->Shared->Prop}(a8:A.handled=U)(bJ:o1 s.heap ba l (-1))(br:∀h',Heap.ExtBut ba s.heap h'->Q U { s with heap:=h' }):wpAny (model prog w) A (pyNext (.ref ba)) Q E s:=by
 have bw:s.TypeIs (.ref ba) "list_reverseiterator":=⟨_,bJ,aa⟩;unfold pyNext;refine a0 (vK (qk (name:=Str.ofString "__next__") bw wA (m5 wA bw JI ?_ (JJ _))));refine(?_:wpAny _ _ (field (.ref ba) 1>>=_) _ _ s);refine a0 (hU bJ aa (x:=rawInt (-1)) aa ?_);refine a0 (tK ?_);refine a0 (C5 (A:=A.in1) a8 λfi e ar he=>?_);obtain⟨o,ho,aA⟩:=he;refine a0 (yB (T := "StopIteration") (b:=aw) ⟨o,ho,aA⟩ Pw ?_);exact cz (br _ λb o au e=>ar b o e)
theorem Eo(bJ:o1 s.heap ba l i)(h:Q (.ref ba) s):wpAny (model prog w) A (pyIter (.ref ba)) Q E s:=by
 have bw:s.TypeIs (.ref ba) "list_reverseiterator":=⟨_,bJ,aa⟩;refine aep bw JK (m5 JK bw SR ?_ (SS _));refine(?_:wpAny _ _ (ret (.ref ba)) _ _ s);exact cz ⟨_,aa, "list_reverseiterator",_,bw,wA.lookup,h⟩
theorem Qy(a8:A.handled=U)(ba l:Addr)(cv:l≠ba)(vs:List Value)(n:Nat) :
  Walks prog w A ba [ba,l] [ba] vs.length (λi v=>vs.reverse[i]? =I v) (λi h=>i<=vs.length/\o1 h ba l ((vs.length:Int)-1-(i:Int))/\h.get? l=I (en vs n)) where
 sub:=λb au=>by rw[bN.mp au];exact b9 ..
 frame:=λaf aJ b3 x ar=>⟨x.1,ar ba (b9 ..) _ x.2.1,ar l (dz _ (bN.mpr aa)) _ x.2.2⟩
 item:=λi s Q E aI x br=>by
  have e:(vs.length:Int)-1-(i:Int)=((vs.length-1-i:Nat):Int):=by exact Ds ‹_›
  have bJ:=x.2.1;rw[e]at bJ;have ak:vs[vs.length-1-i]? =I (vs[vs.length-1-i]'(by exact r0 ‹_›)):=cD (by exact r0 ‹_›);refine KB bJ x.2.2 ak λh' fE e0=>?_;have ay:((vs.length-1-i:Nat):Int)-1=(vs.length:Int)-1-((i+1:Nat):Int):=by exact Dp ‹_›
  rw[ay]at fE;exact br _ h' s.toks (by rw[PQ aI];exact ak) ⟨aI,fE,(e0.2 l cv).trans x.2.2⟩ λb o au kX=>e0.extBut b o (λh=>au (bN.mpr h)) kX
 done:=λs Q E x br=>by
  have e:(vs.length:Int)-1-(vs.length:Int) = -1:=Dr (bx _) (bx _);have bJ:=x.2.1;rw[e]at bJ;exact KA a8 bJ λh' Fo=>br h' s.toks λb o au kX=>Fo b o (λh=>au (bN.mpr h)) kX
 self:=λaf aJ b3 eW x br=>Eo x.2.1 br
theorem V5(bJ:o1 s.heap ba l i)(h:Q aS s):wpAny (model prog w) A (Builtin.List.listLengthHint (.ref ba)) Q E s:=by
 have bw:s.TypeIs (.ref ba) "list_reverseiterator":=⟨_,bJ,aa⟩;unfold Builtin.List.listLengthHint;refine a0 (tJ bw (r:=U) (by rw[pa,ql];kernel_rfl) ?_);refine a0 (tJ bw (r:=I (.builtin "list_reverseiterator.__length_hint__")) (by rw[pa,ql];kernel_rfl) ?_);generalize xw:("list_reverseiterator.__length_hint__" : String)=EE
 wp_delta
 rw[show splitId EE=I ("list_reverseiterator", "__length_hint__") from by subst xw;decide +kernel];subst xw;refine a0 (yB (T := "list_reverseiterator") (b:=aw) bw (by rw[tL];kernel_rfl) ?_);refine Hy (λpW=>absurd pW (by decide)) λaf=>?_;refine Hy (λaf=>?_) λpW=>absurd (by decide +kernel) pW;exact cz h
theorem Zr(a8:A.handled=U)(cv:l≠ba)(bJ:o1 s.heap ba l ((vs.length:Int)-1))(g:s.heap.get? l=I (en vs n))(hz:vs.length<=sizeLine)
  (br:∀h' bj c,(∀b o,b≠ba->s.heap.get? b=I o->h'.get? b=I o)->h'.get? s.heap.objs.size=I (en vs.reverse c)->Q (.ref s.heap.objs.size) (At h' bj s)) :
  wpAny (model prog w) A (call (.type "list") [.ref ba]) Q E s:=by
 refine aeE (Q₁:=λobj s₁=>obj=.ref s.heap.objs.size/\s₁ = { s with heap:=s.heap.push { cls:=.type "list",data:=.seq #[] } }) aeR (aeJ _) aeP (code_list_new _ ⟨aa,aa⟩) ?_;rintro obj s₁ ⟨rfl,rfl⟩;have xJ:s.heap.objs.size≠ba:=Nat.ne_of_gt (Heap.lt_size bJ);have lR:(s.heap.push { cls:=.type "list",data:=.seq #[] }).get? s.heap.objs.size=I { cls:=.type "list",data:=.seq #[] }:=gR _ aa;refine⟨⟨_,lR,aa⟩,aeT _ _,?_⟩;refine(?_:wpAny _ _ (do let old <-Builtin.List.listItems (.ref s.heap.objs.size);Builtin.List.listUpdate (.ref s.heap.objs.size) (λaf=>#[]);letGo old.toList.reverse;Builtin.List.listExtendWith (.ref s.heap.objs.size) (.ref ba) .none) _ _ _);refine a0 ?_;unfold Builtin.List.listItems;refine a0 (o9 lR aa (cz ?_));refine(?_:wpAny _ _ (updateSeq s.heap.objs.size (λaf=>#[])>>=λaf=>letGo (#[]:Array Value).toList.reverse>>=λaf=>Builtin.List.listExtendWith (.ref s.heap.objs.size) (.ref ba) .none) _ _ _);refine a0 (Hx lR aa (a0 (BT ?_)));have uZ:=yP (Obj.mapSeq (λaf=>(#[]:Array Value))) lR aa;have kept:∀b o,s.heap.get? b=I o->((s.heap.push { cls:=.type "list",data:=.seq #[] }).update s.heap.objs.size (Obj.mapSeq (λaf=>(#[]:Array Value)))).get? b=I o:=λb o e=>(λf h b o au e=>(yQ _ _ (kv au)).trans e:∀(f:Obj->Obj) (h:Heap) b o,b≠s.heap.objs.size->h.get? b=I o->(h.update s.heap.objs.size f).get? b=I o) _ _ _ _ (gv (Heap.lt_size e)) (fH _ e);generalize (s.heap.push { cls:=.type "list",data:=.seq #[] }).update s.heap.objs.size (Obj.mapSeq (λaf=>(#[]:Array Value)))=dE at uZ kept ⊢;have uR:o1 dE ba l ((vs.length:Int)-1):=kept _ _ bJ;have bw:({ s with heap:=dE }:Shared).TypeIs (.ref ba) "list_reverseiterator":=⟨_,uR,aa⟩;unfold Builtin.List.listExtendWith;refine a0 (BR bw ?_);have q7:Builtin.List.listSameRef (.ref s.heap.objs.size) (.ref ba)=aS:=by simp [Builtin.List.listSameRef,xJ]
 have eZ:(Value.type "list_reverseiterator" == Value.type "list")=aS:=by decide
 have n2:(Value.type "list_reverseiterator" == Value.type "tuple")=aS:=by decide
 simp only [q7,eZ,n2,Bool.or_false,Bool.false_eq_true,if_false];refine a0 (Eo (s:={ s with heap:=dE }) uR ?_);refine a0 (k5 (V5 (s:={ s with heap:=dE }) uR ?_));rw[aR (by decide +kernel)];refine cz ⟨plainId_quiet aeN _,?_⟩;refine aeC (Qy (prog:=prog) (w:=w) (A:=A.in1.in1) a8 ba l cv vs n).toS hz s.heap.objs.size (by simp [xJ,(Nat.ne_of_gt (Heap.lt_size g):s.heap.objs.size≠l)]) .none vs.length 0 { s with heap:=dE } #[] _ aa (eV _) ⟨eV _,by rw[show(vs.length:Int)-1-((0:Nat):Int)=(vs.length:Int)-1 by exact vV ..];exact uR,kept _ _ g⟩ uZ (afD _) λs' acc c hm Fy uY=>?_;rw[afh hm];have WB:acc.toList=vs.reverse:=by
  apply PU
  intro j;rcases i4 j vs.length with bh|bh
  ·have L5:j<acc.size:=by rw[uY.1];exact bh
   rw[uY.2 j acc[j] (P7 L5),Array.getElem?_toList,P7 L5]
  ·rw[hW (by rw[afW,uY.1];exact bh),hW (by rw[qr];exact bh)]
 refine⟨aa,br s'.heap s'.toks c (λb o au e=>hm.heap b o (λmN=>?_) (kept b o e)) ?_⟩
 ·rcases List.mem_cons.mp mN with aG|mN
  ·exact absurd (Heap.lt_size e) (by rw[aG];exact vO _)
  ·exact au (bN.mp mN)
 ·rw[Fy];unfold en;rw[<-WB]
end
inductive gC(h:Heap)(i c:Addr)(k:Nat)(vs:List Value):Bool->Prop
 |lst:h.IsListIter i c k->h.IsList c vs.toArray->gC h i c k vs true
 |tup:h.IsTupleIter i c k->h.IsTuple c vs.toArray->gC h i c k vs false
theorem gC.keep(x:gC h i c k vs t)(aI:∀o,h.get? i=I o->h'.get? i=I o)(aA:∀o,h.get? c=I o->h'.get? c=I o):gC h' i c k vs t:=by
 induction x with
 |lst a b=>exact .lst (a.at aI) (b.at aA)
 |tup a b=>exact .tup (by obtain⟨o,ho,r⟩:=a;exact⟨o,aI _ ho,r⟩) (b.at aA)
theorem gC.at(x:gC h i c k vs t):∃o T aD,h.get? i=I o/\o.cls=.type T/\T ≠ "tuple" /\ o.data=.fields aD:=by
 induction x with
 |lst a _=>obtain⟨o,ho,aA,hd⟩:=a;exact⟨o,_,_,ho,aA,by decide,hd⟩
 |tup a _=>obtain⟨o,ho,aA,hd⟩:=a;exact⟨o,_,_,ho,aA,by decide,hd⟩
theorem gC.ne(x:gC h i c k vs t):c≠i:=λe=>by
 subst e
 induction x with
 |lst a b=>obtain⟨o,ho,aA,_⟩:=a;obtain⟨o',jt,mP,_⟩:=b;replace jt:=ho ▸ jt;cases jt;replace mP:=aA ▸ mP;exact absurd (yD mP) (by decide)
 |tup a b=>obtain⟨o,ho,aA,_⟩:=a;obtain⟨o',jt,mP,_⟩:=b;replace jt:=ho ▸ jt;cases jt;replace mP:=aA ▸ mP;exact absurd (yD mP) (by decide)
section
variable {prog:Program}{w:World}{E:Value->Shared->Prop}
theorem Di(az:gC s.heap i c k vs t)(ak:vs[k]? =I x)(br:∀h',gC h' i c (k+1) vs t->Heap.SameBut i s.heap h'->Q x { s with heap:=h' }) :
  wpAny (model prog w) A (Builtin.SmallTypes.nextOf (.ref i)) Q E s:=by
 have cv:=az.ne;have gf:vs.toArray[k]? =I x:=by simpa using ak
 induction az with
 |lst a b=>exact wpAny_nextOf_list_item a b gf λh' qb e0=>br h' (.lst qb (b.at λo e=>(e0.2 c cv).trans e)) e0
 |tup a b=>
  refine aB λae=>?_;obtain⟨o,ho,aA,hd⟩:=id a;obtain⟨ol,pP,_,nl,Fp⟩:=id b;refine ae ?_;unfold Builtin.SmallTypes.nextOf;refine a0 (qk (name:=Str.ofString "__next__") a.typeIs HV
   (m5 HV a.typeIs afP ?_ (afR _)))
  refine(?_:wpAny _ _ (field (.ref i) 0>>=_) _ _ s);refine a0 (hU ho hd (x:=.ref c) aa ?_);refine(?_:wpAny _ _ (if (Value.ref c==Value.none)=aw then _ else _) _ _ s);rw[aR (show ¬((Value.ref c==Value.none)=aw) from qw)];refine(?_:wpAny _ _ (field (.ref i) 1>>=_) _ _ s);refine a0 (hU ho hd (x:=.int k 0) aa ?_);refine(?_:wpAny _ _ (seqItems? (.ref c)>>=_) _ _ s);refine a0 (o9 pP Fp ?_);simp only [Int.toNat_natCast,gf];have ke:∀f,Heap.SameBut i s.heap (s.heap.update i f):=λf=>ahd ..;refine a0 (aem ho hd (by simp) (cz ⟨x,aa,cz (br _ (.tup ?_ (b.at λo e=>((ke _).2 c cv).trans e)) (ke _))⟩));exact⟨_,yP _ ho (Obj.isFreed_of_fields (ae0 hd _)),(Obj.cls_mapFields ..).trans aA,by rw[ae0 hd];simp [rawInt]⟩
theorem Jq(a8:A.handled=U)(az:gC s.heap i c k vs t)(ak:vs[k]? =U)
  (AB:∀h' e,Heap.ExtBut i s.heap h'->(∃o,h'.get? e=I o/\o.cls=.type "StopIteration")->E (.ref e) { s with heap:=h' }):wpAny (model prog w) A (Builtin.SmallTypes.nextOf (.ref i)) Q E s:=by
 have gf:vs.toArray[k]? =U:=by simpa using ak
 induction az with
 |lst a b=>exact wpAny_nextOf_list_end a8 a b gf AB
 |tup a b=>
  refine aB λae=>?_;obtain⟨o,ho,aA,hd⟩:=id a;obtain⟨ol,pP,_,nl,Fp⟩:=id b;refine ae ?_;unfold Builtin.SmallTypes.nextOf;refine a0 (qk (name:=Str.ofString "__next__") a.typeIs HV
   (m5 HV a.typeIs afP ?_ (afR _)))
  refine(?_:wpAny _ _ (field (.ref i) 0>>=_) _ _ s);refine a0 (hU ho hd (x:=.ref c) aa ?_);refine(?_:wpAny _ _ (if (Value.ref c==Value.none)=aw then _ else _) _ _ s);rw[aR (show ¬((Value.ref c==Value.none)=aw) from qw)];refine(?_:wpAny _ _ (field (.ref i) 1>>=_) _ _ s);refine a0 (hU ho hd (x:=.int k 0) aa ?_);refine(?_:wpAny _ _ (seqItems? (.ref c)>>=_) _ _ s);refine a0 (o9 pP Fp ?_);simp only [Int.toNat_natCast,gf];refine a0 (tK (a0 (aem ho hd (by simp) ?_)));refine C5 (A:=A.in1) a8 λh' e ar he=>AB h' e (λb o au g=>ar b o ?_) he;exact(yQ _ _ (kv au)).trans g
structure GR(z gj c1 cS cZ cI c4:Addr):Prop where
 TIz:gj≠z
 TOz:c1≠z
 i1z:cS≠z
 i2z:cZ≠z
 TITO:gj≠c1
 TIi1:gj≠cS
 TIi2:gj≠cZ
 TOi1:c1≠cS
 TOi2:c1≠cZ
 i12:cS≠cZ
 A7:cI≠z
 NS:cI≠c1
 agT:cI≠cS
 Zv:cI≠cZ
 A6:c4≠z
 Gv:c4≠c1
 NR:c4≠cS
 agS:c4≠cZ
structure yg(h:Heap)(z gj c1 cS cZ cI c4:Addr)(k:Nat)(vs ws:List Value)(t1 bp:Bool)(f0:Value):Prop where
 off:GR z gj c1 cS cZ cI c4
 zip:IsZip h z gj c1 f0
 its:IsPair h gj (.ref cS) (.ref cZ)
 out:∃a b,IsPair h c1 a b
 one:gC h cS cI k vs t1
 two:gC h cZ c4 k ws bp
noncomputable abbrev vn(h h':Heap)(z c1 cS cZ:Addr):Prop:=∀c o,c≠z->c≠c1->c≠cS->c≠cZ->h.get? c=I o->h'.get? c=I o
theorem Qj(Z:yg s.heap z gj c1 cS cZ cI c4 k vs ws t1 bp .none)(ak:vs[k]? =I x)(a9:ws[k]? =I y)
  (br:∀h',yg h' z gj c1 cS cZ cI c4 (k+1) vs ws t1 bp (rawInt s.heap.objs.size)->IsPair h' s.heap.objs.size x y->vn s.heap h' z c1 cS cZ->Q (I (.ref s.heap.objs.size)) { s with heap:=h' }) :
  wpAny (model prog w) A (pyNext (.ref z)) Q E s:=by
 have D:=Z.off;have hz:=Z.zip;have pX:=Z.its;obtain⟨a,b,kg⟩:=Z.out;have bw:s.TypeIs (.ref z) "zip":=⟨_,hz,aa⟩;unfold pyNext;refine a0 (vK (qk (name:=Str.ofString "__next__") bw HU (m5 HU bw afO ?_ (afQ _))));refine(?_:wpAny _ _ (field (.ref z) 2>>=_) _ _ _);refine a0 (hU hz aa (x:=.bool aS) aa ?_);refine(?_:wpAny _ _ (field (.ref z) 3>>=_) _ _ _);refine a0 (hU hz aa (x:=.ref gj) aa ?_);refine a0 (o9 pX aa ?_);refine(?_:wpAny _ _ (Builtin.SmallTypes.ownedTupleIsFree (.ref z)>>=_) _ _ _);refine a0 ?_;unfold Builtin.SmallTypes.ownedTupleIsFree;refine a0 (hU hz aa (x:=.none) aa (cz ?_));simp only [if_true];refine a0 (tK ?_);refine a0 (hU hz aa (x:=.ref c1) aa ?_);refine a0 (qi hz (by simp) λdE q4 lL=>?_);replace q4:IsZip dE z gj c1 .ellipsis:=q4;refine a0 ?_;simp only [List.zipIdx_cons,List.zipIdx_nil,List.forIn_cons,List.forIn_nil];refine a0 (a0 (BS ?_));refine(?_:wpAny _ _ (Builtin.SmallTypes.nextOf (.ref cS)>>=_) _ _ _);refine a0 (Di (s:={ s with heap:=dE }) (Z.one.keep (λo e=>(lL.2 _ D.i1z).trans e) λo e=>(lL.2 _ D.A7).trans e) ak λft MB kR=>cz ?_);have xI:IsPair ft c1 a b:=kR.extBut _ _ D.TOi1 (lL.extBut _ _ D.TOz kg);refine a0 (o9 xI aa ?_);refine a0 (Pr xI λfi sT mL=>?_);replace sT:IsPair fi c1 x b:=sT;refine a0 (BT (cz ?_));refine a0 (a0 (BS ?_));refine(?_:wpAny _ _ (Builtin.SmallTypes.nextOf (.ref cZ)>>=_) _ _ _);have ow:∀c,c≠z->c≠cS->c≠c1->∀o,s.heap.get? c=I o->fi.get? c=I o:=λc av ay dB o e=>mL.extBut _ _ dB (kR.extBut _ _ ay (lL.extBut _ _ av e));refine a0 (Di (s:={ s with heap:=fi }) (Z.two.keep (ow _ D.i2z D.i12.symm D.TOi2.symm) (ow _ D.A6 D.NR D.Gv)) a9 λuI WO oL=>cz ?_);have Mp:IsPair uI c1 x b:=oL.extBut _ _ D.TOi2 sT;refine a0 (o9 Mp aa ?_);refine a0 (Pr Mp λja Ay nJ=>?_);replace Ay:IsPair ja c1 x y:=Ay;refine a0 (BT (cz (cz ?_)));refine a0 (o9 Ay aa ?_);refine a0 (wpAny_newTuple ?_);have cV:ja.objs.size=s.heap.objs.size:=by rw[nJ.1,oL.1,mL.1,kR.1,lL.1]
 have Ly:IsZip ja z gj c1 .ellipsis:=nJ.extBut _ _ D.TOz.symm (oL.extBut _ _ D.i2z.symm (mL.extBut _ _ D.TOz.symm (kR.extBut _ _ D.i1z.symm q4)));have L2:vn s.heap ja z c1 cS cZ:=λc o cI c4 n1 k1 e=>nJ.extBut _ _ c4 (oL.extBut _ _ k1 (ow c cI n1 c4 o e));have TH:gC ja cS cI (k+1) vs t1:=MB.keep (λo e=>nJ.extBut _ _ D.TOi1.symm (oL.extBut _ _ D.i12 (mL.extBut _ _ D.TOi1.symm e))) λo e=>nJ.extBut _ _ D.NS (oL.extBut _ _ D.Zv (mL.extBut _ _ D.NS e));have Q8:gC ja cZ c4 (k+1) ws bp:=WO.keep (λo e=>nJ.extBut _ _ D.TOi2.symm e) λo e=>nJ.extBut _ _ D.Gv e;have LB:z<ja.objs.size:=Heap.lt_size Ly;refine(?_:wpAny _ _ (Builtin.SmallTypes.ownedTupleHandOut (.ref z) (.ref ja.objs.size)>>=_) _ _ _);refine a0 ?_;unfold Builtin.SmallTypes.ownedTupleHandOut;have Vi:IsZip (ja.push { cls:=.type "tuple",data:=.seq #[x,y] }) z gj c1 .ellipsis:=fH _ Ly;refine a0 (qi Vi (by simp) λVe EH LI=>?_);replace EH:IsZip Ve z gj c1 (rawInt ja.objs.size):=EH;refine qi EH (by simp) λAb Ad LH=>?_;replace Ad:IsZip Ab z gj c1 (rawInt ja.objs.size):=Ad;have up:∀c o,c≠z->ja.get? c=I o->Ab.get? c=I o:=λc o cI e=>LH.extBut _ _ cI (LI.extBut _ _ cI (fH _ e));have Mo:IsPair Ab ja.objs.size x y:=LH.extBut _ _ (Nat.ne_of_gt LB) (LI.extBut _ _ (Nat.ne_of_gt LB) (gR _ aa));rw[cV]at Ad Mo;refine cz ⟨_,aa,?_⟩;refine(?_:wpAny _ _ (Pure.pure (I (Value.ref ja.objs.size))) _ _ _);rw[cV];refine cz (br Ab ⟨D,Ad,up _ _ D.TIz (L2 _ _ D.TIz D.TITO D.TIi1 D.TIi2 pX),⟨x,y,up _ _ D.TOz Ay⟩,TH.keep (λo e=>up _ o D.i1z e) (λo e=>up _ o D.A7 e),Q8.keep (λo e=>up _ o D.i2z e) (λo e=>up _ o D.A6 e)⟩ Mo λc o cI c4 n1 k1 e=>up c o cI (L2 c o cI c4 n1 k1 e))
theorem Ql(a8:A.handled=U)(Z:yg s.heap z gj c1 cS cZ cI c4 k vs ws t1 bp .none)(xE:vs[k]? =U\/ws[k]? =U)
  (br:∀h',vn s.heap h' z c1 cS cZ->(∃a b,IsPair h' c1 a b)->Q U { s with heap:=h' }):wpAny (model prog w) A (pyNext (.ref z)) Q E s:=by
 have D:=Z.off;have hz:=Z.zip;have pX:=Z.its;obtain⟨a,b,kg⟩:=Z.out;have bw:s.TypeIs (.ref z) "zip":=⟨_,hz,aa⟩;have fin:∀h' e,vn s.heap h' z c1 cS cZ->(∃a b,IsPair h' c1 a b)->(∃o,h'.get? e=I o/\o.cls=.type "StopIteration")->wpAny (model prog w) A (do if <-isInstance (.ref e) (.type "StopIteration") then Pure.pure U else throw (.ref e)) Q E { s with heap:=h' }:=λh' e ar ho a8=>by
  obtain⟨o,he,aA⟩:=a8;refine a0 (yB (T := "StopIteration") (b:=aw) ⟨o,he,aA⟩ Pw ?_);exact cz (br _ ar ho)
 unfold pyNext;refine a0 (vK (qk (name:=Str.ofString "__next__") bw HU (m5 HU bw afO ?_ (afQ _))));refine(?_:wpAny _ _ (field (.ref z) 2>>=_) _ _ _);refine a0 (hU hz aa (x:=.bool aS) aa ?_);refine(?_:wpAny _ _ (field (.ref z) 3>>=_) _ _ _);refine a0 (hU hz aa (x:=.ref gj) aa ?_);refine a0 (o9 pX aa ?_);refine(?_:wpAny _ _ (Builtin.SmallTypes.ownedTupleIsFree (.ref z)>>=_) _ _ _);refine a0 ?_;unfold Builtin.SmallTypes.ownedTupleIsFree;refine a0 (hU hz aa (x:=.none) aa (cz ?_));simp only [if_true];refine a0 (tK ?_);refine a0 (hU hz aa (x:=.ref c1) aa ?_);refine a0 (qi hz (by simp) λdE q4 lL=>?_);replace q4:IsZip dE z gj c1 .ellipsis:=q4;have Mq:IsPair dE c1 a b:=lL.extBut _ _ D.TOz kg;refine a0 ?_;simp only [List.zipIdx_cons,List.zipIdx_nil,List.forIn_cons,List.forIn_nil];refine a0 (a0 (BS ?_));refine(?_:wpAny _ _ (Builtin.SmallTypes.nextOf (.ref cS)>>=_) _ _ _);have Kh:gC dE cS cI k vs t1:=Z.one.keep (λo e=>(lL.2 _ D.i1z).trans e) λo e=>(lL.2 _ D.A7).trans e
 induction ak:vs[k]? with
 |none=>
  refine a0 (Jq (A:=A.in1) (s:={ s with heap:=dE }) a8 Kh ak λft e kR he=>?_);obtain⟨b1,pQ,nV⟩:=he;have LA:IsZip ft z gj c1 .ellipsis:=kR _ _ D.i1z.symm q4;have Fj:e≠z:=λx=>by subst x;replace pQ:=LA ▸ pQ;cases pQ;exact absurd (yD nV) (by decide)
  exact qi (s:={ s with heap:=ft }) LA (by simp) λfi af mL=>fin fi e (λc o cI af n1 aJ x=>mL.extBut _ _ cI (kR _ _ n1 (lL.extBut _ _ cI x))) ⟨a,b,mL.extBut _ _ D.TOz (kR _ _ D.TOi1 Mq)⟩ ⟨b1,mL.extBut _ _ Fj pQ,nV⟩
 |some x=>
  have a9:ws[k]? =U:=by rcases xE with h|h;replace h:=ak ▸ h;exact fU h;exact h
  refine a0 (Di (s:={ s with heap:=dE }) Kh ak λft MB kR=>cz ?_);have xI:IsPair ft c1 a b:=kR.extBut _ _ D.TOi1 Mq;refine a0 (o9 xI aa ?_);refine a0 (Pr xI λfi sT mL=>?_);replace sT:IsPair fi c1 x b:=sT;refine a0 (BT (cz ?_));refine a0 (a0 (BS ?_));refine(?_:wpAny _ _ (Builtin.SmallTypes.nextOf (.ref cZ)>>=_) _ _ _);have ow:∀c,c≠z->c≠cS->c≠c1->∀o,s.heap.get? c=I o->fi.get? c=I o:=λc av ay dB o e=>mL.extBut _ _ dB (kR.extBut _ _ ay (lL.extBut _ _ av e));refine a0 (Jq (A:=A.in1) (s:={ s with heap:=fi }) a8 (Z.two.keep (ow _ D.i2z D.i12.symm D.TOi2.symm) (ow _ D.A6 D.NR D.Gv)) a9 λuI e oL he=>?_);obtain⟨b1,pQ,nV⟩:=he;have Lz:IsZip uI z gj c1 .ellipsis:=oL _ _ D.i2z.symm (mL.extBut _ _ D.TOz.symm (kR.extBut _ _ D.i1z.symm q4));have Fj:e≠z:=λx=>by subst x;replace pQ:=Lz ▸ pQ;cases pQ;exact absurd (yD nV) (by decide)
  exact qi (s:={ s with heap:=uI }) Lz (by simp) λja af nJ=>fin ja e (λc o cI c4 n1 k1 g=>nJ.extBut _ _ cI (oL _ _ k1 (ow c cI n1 c4 o g))) ⟨x,b,nJ.extBut _ _ D.TOz (oL _ _ D.TOi2 sT)⟩ ⟨b1,nJ.extBut _ _ Fj pQ,nV⟩
inductive jQ(h:Heap)(c:Addr)(vs:List Value):Bool->Prop
 |lst:h.IsList c vs.toArray->jQ h c vs true
 |tup:h.IsTuple c vs.toArray->jQ h c vs false
theorem jQ.lt(x:jQ h c vs t):c<h.objs.size:=by
 induction x with
 |lst a=>obtain⟨o,ho,_⟩:=a;exact Heap.lt_size ho
 |tup a=>obtain⟨o,ho,_⟩:=a;exact Heap.lt_size ho
theorem jQ.push(x:jQ h c vs t)(o:Obj):jQ (h.push o) c vs t:=by
 induction x with
 |lst a=>exact .lst (a.push o)
 |tup a=>exact .tup (a.push o)
theorem jQ.iter(x:jQ s.heap c vs t)(h:∀o,gC (s.heap.push o) s.heap.objs.size c 0 vs t->Q (.ref s.heap.objs.size) { s with heap:=s.heap.push o }):wpAny (model prog w) A (pyIter (.ref c)) Q E s:=by
 induction x with
 |lst a=>exact aeq a (h _ (.lst ⟨_,gR _ aa,aa,aa⟩ (a.push _)))
 |tup a=>exact aeo a (h _ (.tup ⟨_,gR _ aa,aa,aa⟩ (a.push _)))
theorem Qi(cI c4:Addr)(vs ws:List Value)(t1 bp:Bool) :
  Meets (Builtin.«zip.__new__» ⟨[.type "zip",.ref cI,.ref c4],[]⟩) (λaf R s=>jQ s.heap cI vs t1/\jQ s.heap c4 ws bp /\
   ∀bS cn,gC (s.heap.push bS) s.heap.objs.size cI 0 vs t1->gC ((s.heap.push bS).push cn) (s.heap.push bS).objs.size c4 0 ws bp ->
    R (.ok (.ret (.ref ((((s.heap.push bS).push cn).push { cls:=.type "tuple",data:=.seq #[.ref s.heap.objs.size,.ref (s.heap.push bS).objs.size] }).push { cls:=.type "tuple",data:=.seq #[.none,.none] }).objs.size)))
     {s with heap:=((((s.heap.push bS).push cn).push { cls:=.type "tuple",data:=.seq #[.ref s.heap.objs.size,.ref (s.heap.push bS).objs.size] }).push { cls:=.type "tuple",data:=.seq #[.none,.none] }).push { cls:=.type "zip",data:=.fields #[.none,.bool aS,.bool aS,.ref ((s.heap.push bS).push cn).objs.size,.ref (((s.heap.push bS).push cn).push { cls:=.type "tuple",data:=.seq #[.ref s.heap.objs.size,.ref (s.heap.push bS).objs.size] }).objs.size] } }):=
 .of_wp λprog w A R s h=>by
  obtain⟨hp,g,d,bj,os⟩:=s;obtain⟨h1,h2,h⟩:=h;have q5:=sub_zip
  wp_walk using (λaH=>jQ.iter (s:=⟨hp,g,d,bj,os⟩) h1 aH:∀{Q:Value->Shared->Prop}{E:Value->Shared->Prop},(∀o,gC (hp.push o) hp.objs.size cI 0 vs t1->Q (.ref hp.objs.size) ⟨hp.push o,g,d,bj,os⟩)->wpAny (model prog w) A.in1 (pyIter (.ref cI)) Q E ⟨hp,g,d,bj,os⟩)
  intro bS s1
  wp_walk using (λbS af aJ aH=>jQ.iter (s:=⟨hp.push bS,g,d,bj,os⟩) (h2.push bS) aH:∀(bS:Obj) {Q:Value->Shared->Prop}{E:Value->Shared->Prop},(∀o,gC ((hp.push bS).push o) (hp.push bS).objs.size c4 0 ws bp->Q (.ref (hp.push bS).objs.size) ⟨(hp.push bS).push o,g,d,bj,os⟩)->wpAny (model prog w) A.in1 (pyIter (.ref c4)) Q E ⟨hp.push bS,g,d,bj,os⟩) bS
  intro cn s2
  wp_walk
  exact⟨_,aa,h bS cn s1 s2⟩
theorem Qg(n cI c4:Nat)(h1:cI<n)(h2:c4<n):GR (n+4) (n+2) (n+3) n (n+1) cI c4:=by
 have key:∀a b:Nat,a<b->a≠b/\b≠a:=λa b h=>⟨gv h,Nat.ne_of_gt h⟩;exact⟨(key _ _ (by exact cp 0x4090010882400020 aa)).1,(key _ _ (by exact cp 0x40900108C2400020 aa)).1,(key _ _ (by exact cp 0x812002120020 aa)).1,(key _ _ (by exact cp 0x4090010842400020 aa)).1,(key _ _ (by exact cp 0x3090010882400020 aa)).1,(key n (n+2) (by exact cp 0x412002120020 aa)).2,(key (n+1) (n+2) (by exact cp 0x2090010842400020 aa)).2,(key n (n+3) (by exact cp 0x612002120020 aa)).2,(key (n+1) (n+3) (by exact cp 0x3090010842400020 aa)).2,(key _ _ (by exact jY _)).1,(key _ _ (by exact bF 0x409401090010142120021 aa h1)).1,(key _ _ (by exact bF 0x309401090010142120021 aa h1)).1,(key _ _ (by exact bF 0xA1090010142120021 aa h1)).1,(key _ _ (by exact yG h1)).1,(key _ _ (by exact bF 0x409401090010142120021 aa h2)).1,(key _ _ (by exact bF 0x309401090010142120021 aa h2)).1,(key _ _ (by exact bF 0xA1090010142120021 aa h2)).1,(key _ _ (by exact yG h2)).1⟩
theorem Zo(h1:jQ s.heap cI vs t1)(h2:jQ s.heap c4 ws bp)
  (h:∀h',(∀b o,s.heap.get? b=I o->h'.get? b=I o)->yg h' (s.heap.objs.size+4) (s.heap.objs.size+2) (s.heap.objs.size+3) s.heap.objs.size (s.heap.objs.size+1) cI c4 0 vs ws t1 bp .none->Q (.ref (s.heap.objs.size+4)) { s with heap:=h' }) :
  wpAny (model prog w) A (call (.type "zip") [.ref cI,.ref c4]) Q E s:=by
 refine callType_new F.called_zip (by decide) (F.typeCall_zip_2 _ _) (F.newCall_zip_2 _ _) (λobj=>F.args_object_init_3 obj _ _) F.entry_zip_new (Qi cI c4 vs ws t1 bp) ⟨h1,h2,λbS cn s1 s2=>?_⟩;have kL:=h2.lt;have Ci:(s.heap.push bS).objs.size=s.heap.objs.size+1:=vX ..;have v5:((s.heap.push bS).push cn).objs.size=s.heap.objs.size+2:=by rw[vX,Ci]
 have ID:∀b o,s.heap.get? b=I o->((s.heap.push bS).push cn).get? b=I o:=λb o e=>fH _ (fH _ e);have Jy:gC ((s.heap.push bS).push cn) s.heap.objs.size cI 0 vs t1:=s1.keep (λo e=>fH _ e) λo e=>fH _ e;rw[Ci]at s2 ⊢;rw[v5];generalize (s.heap.push bS).push cn=H at Jy s2 v5 ID ⊢;have yT:(H.push { cls:=.type "tuple",data:=.seq #[.ref s.heap.objs.size,.ref (s.heap.objs.size+1)] }).objs.size=s.heap.objs.size+3:=by rw[vX,v5]
 have g3:(H.push { cls:=.type "tuple",data:=.seq #[.ref s.heap.objs.size,.ref (s.heap.objs.size+1)] }).get? (s.heap.objs.size+2)=I { cls:=.type "tuple",data:=.seq #[.ref s.heap.objs.size,.ref (s.heap.objs.size+1)] }:=by rw[<-v5];exact gR _ aa
 have ow:∀b o,H.get? b=I o->(H.push { cls:=.type "tuple",data:=.seq #[.ref s.heap.objs.size,.ref (s.heap.objs.size+1)] }).get? b=I o:=λb o e=>fH _ e;rw[yT];generalize H.push { cls:=.type "tuple",data:=.seq #[.ref s.heap.objs.size,.ref (s.heap.objs.size+1)] }=tE at yT g3 ow ⊢;have Ch:(tE.push { cls:=.type "tuple",data:=.seq #[.none,.none] }).objs.size=s.heap.objs.size+4:=by rw[vX,yT]
 have dk:(tE.push { cls:=.type "tuple",data:=.seq #[.none,.none] }).get? (s.heap.objs.size+3)=I { cls:=.type "tuple",data:=.seq #[.none,.none] }:=by rw[<-yT];exact gR _ aa
 have CA:∀b o,tE.get? b=I o->(tE.push { cls:=.type "tuple",data:=.seq #[.none,.none] }).get? b=I o:=λb o e=>fH _ e;rw[Ch];generalize tE.push { cls:=.type "tuple",data:=.seq #[.none,.none] }=rE at Ch dk CA ⊢;have fc:(rE.push { cls:=.type "zip",data:=.fields #[.none,.bool aS,.bool aS,.ref (s.heap.objs.size+2),.ref (s.heap.objs.size+3)] }).get? (s.heap.objs.size+4)=I { cls:=.type "zip",data:=.fields #[.none,.bool aS,.bool aS,.ref (s.heap.objs.size+2),.ref (s.heap.objs.size+3)] }:=by rw[<-Ch];exact gR _ aa
 have Cz:∀b o,rE.get? b=I o->(rE.push { cls:=.type "zip",data:=.fields #[.none,.bool aS,.bool aS,.ref (s.heap.objs.size+2),.ref (s.heap.objs.size+3)] }).get? b=I o:=λb o e=>fH _ e;have wa:∀b o,H.get? b=I o->(rE.push { cls:=.type "zip",data:=.fields #[.none,.bool aS,.bool aS,.ref (s.heap.objs.size+2),.ref (s.heap.objs.size+3)] }).get? b=I o:=λb o e=>Cz _ _ (CA _ _ (ow _ _ e));refine⟨⟨_,fc,aa⟩,h _ (λb o e=>wa _ _ (ID _ _ e)) ⟨?_,fc,Cz _ _ (CA _ _ g3),⟨.none,.none,Cz _ _ dk⟩,Jy.keep (λo e=>wa _ _ e) λo e=>wa _ _ e,s2.keep (λo e=>wa _ _ e) λo e=>wa _ _ e⟩⟩;exact Qg _ _ _ h1.lt kL
end
def hx(wr:List Addr)(h h':Heap):Prop:=(∀b o,b∉wr->h.get? b=I o->h'.get? b=I o)/\∀b∈wr,∀vs n,h.get? b=I (dZ vs n)->∃ws m,h'.get? b=I (dZ ws m)
def Own(wr:List Addr)(ρ:Map)(h:Heap):Prop:=∀b∈wr,∃o,h.get? b=I o/\((c9 ρ b/\∀vs n,o≠dZ vs n)\/((∃(m:Nat) (d:Nat),ρ[m]? =I (b,d))/\∃vs n,o=dZ vs n))
section
variable {au:Heap}{wr:List Addr}{aU eJ:Map}{h h':Heap}
theorem hx.of(ar:∀b o,b∉wr->h.get? b=I o->h'.get? b=I o)(ao:∀b∈wr,∀vs n,h.get? b≠I (dZ vs n)):hx wr h h':=⟨ar,λb au vs n e=>absurd e (ao b au vs n)⟩
theorem Ext.but(x:Ext W eJ au ρ h)(ar:hx wr h h')(hd:∀b∈wr,au.get? b=U):Ext W eJ au ρ h':=by
 have out:∀b o,au.get? b=I o->b∉wr:=λb o e hm=>by rw[hd b hm]at e;exact a5 e
 exact {
  pre:=λn a v e=>by obtain⟨v',aG,l,k⟩:=x.pre n a v e;exact⟨v',aG,l,λq o g d=>ar.1 a o (out a o g) (k q o g d)⟩
  keep:=λb o e g6 js=>ar.1 b o (out b o e) (x.keep b o e g6 js)
  kM:=λb o e=>by obtain⟨o',aG,k⟩:=x.kM b o e;exact⟨o',ar.1 b o' (out b o e) aG,k⟩
  new:=x.new }
theorem hx.sub(ar:hx wr h h')(ho:Own wr ρ h):Sub ρ h ρ h':=⟨λaf aJ v e=>⟨v,e⟩,λb vs n off e=>⟨off,ar.1 b _ (λhm=>by
 obtain⟨o,aG,⟨_,ao⟩|⟨⟨m,d,hm⟩,_⟩⟩:=ho b hm
 ·replace aG:=e ▸ aG;cases aG;exact ao vs n aa
 ·exact off _ (ee hm) aa) e⟩⟩
theorem Inv.but(i:Inv ab σ ρ h)(ar:hx wr h h')(ho:Own wr ρ h)(aE:∀b∈wr,ab.get? b=U):Inv ab σ ρ h' where
 base:=λb o e=>ar.1 b o (λhm=>by rw[aE b hm]at e;exact a5 e) (i.base b o e)
 len:=i.len
 objs:=λn o p av ay=>by
  have r:=i.objs n o p av ay;by_cases hm:p.1∈wr
  ·obtain⟨b2,aG,⟨off,_⟩|⟨_,vs,k,kX⟩⟩:=ho p.1 hm
   ·exact absurd aa (off p (ee ay))
   ·rw[kX]at aG;rw[r.cache aG];obtain⟨ws,m,ay⟩:=ar.2 _ hm _ _ aG;exact⟨ws,m,ay⟩
  ·exact r.sub (ar.sub ho) (λb2 g=>ar.1 _ _ hm g)
 fresh:=i.fresh
 apart:=i.apart
theorem c7.but(F:c7 ab env ns loc ρ h)(ar:hx wr h h')(ho:Own wr ρ h)(aZ:∀b∈wr,pF env b):c7 ab env ns loc ρ h':=by
 have VS:env.locals∉wr:=λhm=>(aZ _ hm).1 aa;have sP:∀x c,env.cells.lookup x=I c->c∉wr:=λx c e hm=>(aZ _ hm).2 x c e aa;have az:=ar.sub ho;exact {
  names:=F.names
  kind:=F.kind
  globals:=F.globals
  kk:=F.kk
  vars:=by
   refine aB λae=>?_;obtain⟨m,ao,aM⟩:=F.vars;obtain⟨o,aW,dI,ho,r⟩:=ao;refine ae ⟨m,⟨o,aW,dI,ar.1 _ _ VS ho,r⟩,λy i v h1 h2=>?_⟩;refine aB λae=>?_;obtain⟨val,e,aX⟩:=aM y i v h1 h2;exact ae ⟨val,e,aX.sub az⟩
  cell:=λy i h1=>by
   refine aB λae=>?_;obtain⟨c,o,e,⟨b2,iS,hd⟩,aM⟩:=F.cell y i h1;refine ae ⟨c,o,e,⟨b2,ar.1 _ _ (sP _ _ e) iS,hd⟩,λv hl=>?_⟩;refine aB λae=>?_;obtain⟨val,aG,aX⟩:=aM v hl;exact ae ⟨val,aG,aX.sub az⟩
  live:=λy c e=>by
   refine aB λae=>?_;obtain⟨o,b2,iS,hd⟩:=F.live y c e;exact ae ⟨o,b2,ar.1 _ _ (sP _ _ e) iS,hd⟩
  kI:=F.kI
  h5:=F.h5
  apart:=F.apart }
noncomputable def tR:k2->Bool
 |.lst _=>aw
 |.tup _=>aS
inductive ko(ρ:Map)(h:Heap)(i c:Addr)(k:Nat):k2->Prop
 |lst{n d:Nat}:h.IsListIter i c k->ρ[n]? =some (c,d)->ko ρ h i c k (.lst n)
 |tup{vs:List Value}{n:Nat}{l:List V}:h.IsTupleIter i c k->c9 ρ c->h.get? c=some (dZ vs n)->b8 ρ h vs l->ko ρ h i c k (.tup l)
theorem IsTupleIter.keep(x:h.IsTupleIter ba t i)(e:∀o,h.get? ba=I o->h'.get? ba=I o):h'.IsTupleIter ba t i:=by obtain⟨o,ho,r⟩:=x;exact⟨o,e _ ho,r⟩
theorem ko.sub(x:ko ρ h i c k z)(y:Sub ρ h aU h')(aI:∀o,h.get? i=I o->h'.get? i=I o):ko aU h' i c k z:=by
 induction x with
 |lst a e=>obtain⟨f3,aG⟩:=y.1 _ _ _ e;exact .lst (a.at aI) aG
 |tup a off g r=>exact .tup (IsTupleIter.keep a aI) (y.2 _ _ _ off g).1 (y.2 _ _ _ off g).2 (r.sub y)
theorem ko.side(x:ko ρ s.heap i c k z)(dD:Inv ab σ ρ s.heap)(e:z.all σ=I l):∃vs,gC s.heap i c k vs (tR z)/\b8 ρ s.heap vs l:=by
 induction x with
 |lst a bL=>
  obtain⟨vs,n,g,_,r⟩:=dD.list (uw e) bL;exact⟨vs,.lst a (gd g),r⟩
 |tup a off g r=>cases e;exact⟨_,.tup a (mJ g),r⟩
theorem ko.on(x:ko ρ h i c k z)(q:gC h' i c (k+1) vs (tR z))(y:Sub ρ h aU h'):ko aU h' i c (k+1) z:=by
 induction x with
 |lst a e=>
  obtain⟨f3,aG⟩:=y.1 _ _ _ e
  cases q with
  |lst b _=>exact .lst b aG
 |tup a off g r=>
  cases q with
  |tup b _=>exact .tup b (y.2 _ _ _ off g).1 (y.2 _ _ _ off g).2 (r.sub y)
inductive g9(ab:eG)(i:Nat)(ρ:Map)(h:Heap):Src->Value->List Addr->Prop
 |tup{l:List V}{ba t:Addr}{vs:List Value}{n:Nat}:h.IsTupleIter ba t i->c9 ρ t->h.get? t=some (dZ vs n)->b8 ρ h vs l->c9 ρ ba->g9 ab i ρ h (.vals l) (.ref ba) [ba]
 |range{a b:Int}{ba:Addr}:IsRangeIter h ba (a+i) (((b-a).toNat:Int)-i) 1->c9 ρ ba->g9 ab i ρ h (.vals (i9 a b)) (.ref ba) [ba]
 |r1{l:List V}{ba t:Addr}{vs:List Value}{n:Nat}:vt h ba t ((vs.length:Int)-1-i)->i<=vs.length->vs.length<=sizeLine->c9 ρ t->h.get? t=some (dZ vs n)->b8 ρ h vs l->c9 ρ ba->g9 ab i ρ h (.vals l.reverse) (.ref ba) [ba]
 |lst{n d:Nat}{ba l:Addr}:h.IsListIter ba l i->ρ[n]? =some (l,d)->c9 ρ ba->g9 ab i ρ h (.lst n) (.ref ba) [ba]
 |qH{n d k:Nat}{ba l:Addr}:o1 h ba l ((k:Int)-1-i)->i<=k->ρ[n]? =some (l,d)->c9 ρ ba->g9 ab i ρ h (.rev n k) (.ref ba) [ba]
 |enum{n d:Nat}{e ba l:Addr}{old:Value}:IsEnum h e ba i old->h.IsListIter ba l i->ρ[n]? =some (l,d)->e≠ba->c9 ρ e->c9 ρ ba->g9 ab i ρ h (.enum n) (.ref e) [e,ba]
 |zip{a b:k2}{m d:Nat}{z gj c1 cS cZ cI c4:Addr}:GR z gj c1 cS cZ cI c4->IsZip h z gj c1 .none->IsPair h gj (.ref cS) (.ref cZ)->(∃x y,IsPair h c1 x y)->ρ[m]? =some (c1,d)->ko ρ h cS cI i a->ko ρ h cZ c4 i b->c9 ρ z->c9 ρ cS->c9 ρ cZ ->
   g9 ab i ρ h (.zip a b m) (.ref z) [z,c1,cS,cZ]
 |keys{n v d dI:Nat}{ba a:Addr}{cj:List (Key×Value)}{l:List V}:h.IsKeyIter ba a i cj.length dI->ρ[n]? =some (a,d)->v<=d->(d=v->h.DictAt (keyKind ab.prog ab.w) a cj dI)->l=cj.map (λp=>h7 p.1)->(∀p∈cj,∀s,p.1=.inr s->hu s)->a≠ba->c9 ρ ba->g9 ab i ρ h (.keys n v l) (.ref ba) [ba]
theorem uj(aA:o.cls=.type T)(aP:T ≠ "tuple"):∀ws n,o≠dZ ws n:=λws n e=>by rw[e]at aA;exact aP (yD aA).symm
theorem uf(off:c9 ρ ba)(g:h.get? ba=I o)(aA:o.cls=.type T)(aP:T ≠ "tuple"):Own [ba] ρ h:=λb au=>by
 rw[bN.mp au];exact⟨o,g,.inl ⟨off,uj aA aP⟩⟩
theorem ko.own(x:ko ρ h i c k z):∃o,h.get? i=I o/\∀vs n,o≠dZ vs n:=by
 induction x with
 |lst a _=>obtain⟨o,ho,aA,_⟩:=a;exact⟨o,ho,uj aA (by decide)⟩
 |tup a _ _ _=>obtain⟨o,ho,aA,_⟩:=a;exact⟨o,ho,uj aA (by decide)⟩
theorem g9.own(x:g9 ab i ρ h b7 it wr):Own wr ρ h:=by
 induction x with
 |tup bJ _ _ _ off=>obtain⟨o,ho,aA,hd⟩:=bJ;exact uf off ho aA (by decide)
 |range bJ off=>exact uf off bJ aa (by decide)
 |r1 bJ _ _ _ _ _ off=>exact uf off bJ aa (by decide)
 |lst bJ _ off=>obtain⟨o,ho,aA,hd⟩:=bJ;exact uf off ho aA (by decide)
 |qH bJ _ _ off=>exact uf off bJ aa (by decide)
 |keys bJ _ _ _ _ _ _ off=>obtain⟨o,ho,aA,hd⟩:=bJ;exact uf off ho aA (by decide)
 |enum he bJ _ _ off ui=>
  obtain⟨o,ho,aA,hd⟩:=bJ;intro b au;rcases List.mem_cons.mp au with rfl|au
  ·exact⟨_,he,.inl ⟨off,uj aa (by decide)⟩⟩
  ·rw[bN.mp au];exact⟨_,ho,.inl ⟨ui,uj aA (by decide)⟩⟩
 |zip D hz pX kg em s1 s2 ud bS cn=>
  obtain⟨x,y,kg⟩:=kg;obtain⟨TQ,g1,eZ⟩:=s1.own;obtain⟨TP,g2,n2⟩:=s2.own;intro b au;refine aB λae=>?_;rcases List.mem_cons.mp au with rfl|au
  ·exact ae ⟨_,hz,.inl ⟨ud,uj aa (by decide)⟩⟩
  ·rcases List.mem_cons.mp au with rfl|au
   ·exact ae ⟨_,kg,.inr ⟨⟨_,_,em⟩,[x,y],0,aa⟩⟩
   ·rcases List.mem_cons.mp au with rfl|au
    ·exact ae ⟨_,g1,.inl ⟨bS,eZ⟩⟩
    ·refine ae ?_;rw[bN.mp au];exact⟨_,g2,.inl ⟨cn,n2⟩⟩
theorem g9.ext(x:Ext W ρ h aU h')(g6:∀b∈wr,b∉W)(r:g9 ab i ρ h b7 it wr):g9 ab i aU h' b7 it wr:=by
 have ho:=r.own;have ar:∀b∈wr,∀o,h.get? b=I o->h'.get? b=I o:=λb au o e=>by
  obtain⟨o',aG,⟨off,_⟩|⟨_,vs,n,kX⟩⟩:=ho b au
  ·exact x.keep b o e (g6 b au) off
  ·replace aG:=e ▸ aG;cases aG;rw[kX]at e ⊢;exact x.rO _ _ _ e
 have hJ:∀b o,h.get? b=I o->c9 ρ b->c9 aU b:=λb o e off=>c9.ext x e off;have y:=x.sub;have one:∀{ba:Addr},ba∈[ba]:=bN.mpr aa
 induction r with
 |tup bJ iu g bf off=>
  refine aB λae=>?_;obtain⟨o,ho,_⟩:=id bJ;exact ae (.tup (IsTupleIter.keep bJ (ar _ one)) (hJ _ _ g iu) (x.rO _ _ _ g) (bf.ext x) (hJ _ _ ho off))
 |range bJ off=>exact .range (ar _ one _ bJ) (hJ _ _ bJ off)
 |r1 bJ h1 h2 iu g bf off=>exact .r1 (ar _ one _ bJ) h1 h2 (hJ _ _ g iu) (x.rO _ _ _ g) (bf.ext x) (hJ _ _ bJ off)
 |lst bJ e off=>
  refine aB λae=>?_;obtain⟨o,ho,_⟩:=id bJ;obtain⟨_,aG⟩:=y.1 _ _ _ e;exact ae (.lst (bJ.at (ar _ one)) aG (hJ _ _ ho off))
 |qH bJ h1 e off=>
  obtain⟨_,aG⟩:=y.1 _ _ _ e;exact .qH (ar _ one _ bJ) h1 aG (hJ _ _ bJ off)
 |enum he bJ e cv off ui=>
  refine aB λae=>?_;obtain⟨o,ho,_⟩:=id bJ;obtain⟨_,aG⟩:=y.1 _ _ _ e;have mH:∀{a b:Addr},b∈[a,b]:=dz _ (bN.mpr aa);exact ae (.enum (ar _ (b9 ..) _ he) (bJ.at (ar _ mH)) aG cv (hJ _ _ he off) (hJ _ _ ho ui))
 |@zip a b m d z gj c1 cS cZ cI c4 D hz pX kg em s1 s2 ud bS cn=>
  refine aB λae=>?_;obtain⟨u,v,kg⟩:=kg;obtain⟨TQ,g1,eZ⟩:=s1.own;obtain⟨TP,g2,n2⟩:=s2.own;obtain⟨_,YJ⟩:=y.1 _ _ _ em;have Uu:z∈[z,c1,cS,cZ]:=b9 ..;have lE:c1∈[z,c1,cS,cZ]:=dz _ (b9 ..);have mH:cS∈[z,c1,cS,cZ]:=dz _ (dz _ (b9 ..));have wZ:cZ∈[z,c1,cS,cZ]:=dz _ (dz _ (dz _ (bN.mpr aa)));exact ae (.zip D (ar _ Uu _ hz) (x.rO _ [.ref cS,.ref cZ] 0 pX) ⟨u,v,ar _ lE _ kg⟩ YJ (s1.sub y (ar _ mH)) (s2.sub y (ar _ wZ)) (hJ _ _ hz ud) (hJ _ _ g1 bS) (hJ _ _ g2 cn))
 |keys bJ e aM hd hl az cv off=>
  refine aB λae=>?_;obtain⟨o,ho,_⟩:=id bJ;obtain⟨f3,aG,hle,q7⟩:=x.pre _ _ _ e;refine ae (.keys (bJ.at (ar _ one)) aG (b0 aM hle) (λq=>?_) hl az cv (hJ _ _ ho off));have d8:_=_:=iF (q ▸ hle) aM;refine aB λae=>?_;obtain⟨o,aW,ho,aA,As,r⟩:=hd d8;exact ae ⟨o,aW,q7 (q.trans d8.symm) o ho ⟨_,_,As⟩,aA,As,r⟩
set_option backward.match.sparseCases true in
theorem w4(ho:s.heap.get? ba=I o)(aA:o.cls=.type T)
  (bw:["enumerate", "zip", "dict_itemiterator", "dict_reverseitemiterator", "odict_iterator", "itertools.zip_longest", "itertools.pairwise"].contains T=aS) (h:Q () s):wpAny (model ab.prog ab.w) A (letOwnedTupleGo target (.ref ba) v) Q E s:=by
 have key:∀f:Expr,(letOwnedTupleGo f (.ref ba) v=Pure.pure ()\/letOwnedTupleGo f (.ref ba) v=(match v with
   |.ref a=>(load ba>>=λo=>match o.cls,o.data with
    |.type n,.fields vs=>if (["enumerate", "zip", "dict_itemiterator", "dict_reverseitemiterator", "odict_iterator", "itertools.zip_longest", "itertools.pairwise"].contains n&&vs[0]? == I (rawInt a))=aw then
      (rule "for.unpacks-the-owned-tuple" >>= λaf=>updateField ba 0 .none) else Pure.pure ()
    |_,_=>Pure.pure ())
   |_=>Pure.pure ())):=by
  intro f;cases f <;> first|exact .inl aa|(right;cases v <;> rfl)
 rcases key target with e|e
 ·rw[e];exact cz h
 ·rw[e]
  induction v with
  |ref a=>
   refine a0 (wpAny_load ho ?_);rw[aA]
   cases o.data with
   |fields vs=>
    refine(?_:wpAny _ _ (if (["enumerate", "zip", "dict_itemiterator", "dict_reverseitemiterator", "odict_iterator", "itertools.zip_longest", "itertools.pairwise"].contains T&&_)=aw then _ else _) _ _ _);rw[bw];exact cz h
   |_=>exact cz h
  |_=>exact cz h
theorem KX(h:(listAt σ n).map f=I r):∃l,σ[n]? =I (.list l)/\f l=r:=by
 obtain⟨l,e,h⟩:=eU.mp h;exact⟨l,uw e,h⟩
theorem UY(ar:uB k v=aw)(az:∀s,k=.inr s->hu s):Rel ρ h v (h7 k):=by
 rcases nF ar with ⟨i,t,rfl,rfl⟩|⟨x,t,rfl,rfl⟩
 ·exact .int i t
 ·exact .str x t (az x aa)
theorem Lh(h:Ep t=aw):∃aW k p,t=.Tuple aW k p:=by
 induction t using Expr.casesOn with
 |Tuple aW k p=>exact⟨aW,k,p,aa⟩
 |_=>exact fw h
def acZ(s:Shared)(wr:List Addr)(Q:Option Value->Shared->Prop)(o:Option V):Prop:=∀h',o=U->hx wr s.heap h'->Q U { s with heap:=h' }
def ac4(ab:eG)(A:Around)(s:Shared)(ρ:Map)(target:Expr)(wr:List Addr)(b7:Src)(it:Value)(i:Nat)(val:Value)(v:V)(h':Heap)(bj:Nat):Prop:=
 ∀(hR:Unit->Shared->Prop) (ks:Value->Shared->Prop),(∀gi,hx wr s.heap gi->Rel ρ gi val v->g9 ab (i+1) ρ gi b7 it wr->hR () (At gi bj s))->wpAny (model ab.prog ab.w) A (letOwnedTupleGo target it val) hR ks (At h' bj s)
def acY(ab:eG)(A:Around)(s:Shared)(ρ:Map)(target:Expr)(Q:Option Value->Shared->Prop)(wr:List Addr)(b7:Src)(it:Value)(i:Nat)(o:Option V):Prop:=
 ∀v val h' bj,o=I v->hx wr s.heap h'->ac4 ab A s ρ target wr b7 it i val v h' bj->Q (I val) (At h' bj s)
theorem Own.kN(own:Own [ba] ρ h)(off:c9 ρ ba)(ak:Heap.ExtBut ba h h'):hx [ba] h h':=hx.of (λb o au e=>ak b o (λeq=>au (bN.mpr eq)) e) λb au vs n e=>by
 obtain⟨o,aG,⟨_,ao⟩|⟨⟨m,d,hm⟩,_⟩⟩:=own b au
 ·replace aG:=e ▸ aG;cases aG;exact ao vs n aa
 ·replace hm:=bN.mp au ▸ hm;exact off _ (ee hm) aa
theorem g9.next(aT:A.handled=U)(x:g9 ab i ρ s.heap b7 it wr)(dD:Inv ab σ ρ s.heap)(e:b7.at σ i=I o)
  (mK:jm b7 target=aw) (h1:acZ s wr Q o) (h2:acY ab A s ρ target Q wr b7 it i o) :
  wpAny (model ab.prog ab.w) A (pyNext it) Q E s:=by
 have own:=x.own
 induction x with
 |@tup l ba t vs n bJ iu g bf off=>
  cases e
  induction hl:l[i]? with
  |none=>
   exact wpAny_pyNext_tuple_end aT bJ (mJ g) (by simpa using bf.get_none hl) λh' ak=>h1 h' hl (own.kN off ak)
  |some v=>
   refine aB λae=>?_;obtain⟨val,aM,r⟩:=bf.get hl;refine ae (wpAny_pyNext_tuple_item bJ (mJ g) (x:=val) (by simpa using aM) λh' fE ak=>?_);have ar:=own.kN off ak.extBut;have az:=ar.sub own;refine h2 v val h' s.toks hl ar λhR ks aH=>?_;refine aB λae=>?_;obtain⟨b2,iS,aA,_⟩:=id fE;exact ae (w4 (s:={ s with heap:=h' }) iS aA (by decide) (aH h' ar (r.sub az) (.tup fE iu (az.2 _ _ _ iu g).2 (bf.sub az) off)))
 |@range a b ba bJ off=>
  cases e;rw[JP]at h1 h2;by_cases fu:i<(b-a).toNat
  ·replace h2:=aK fu ▸ h2;refine wpAny_pyNext_range_item bJ (by exact SM ‹_›) λh' fE ak=>?_;have ar:=own.kN off ak.extBut;refine h2 _ _ h' (s.toks+1) aa ar λhR ks aH=>?_;refine w4 (s:=At h' (s.toks+1) s) fE aa (by decide) (aH h' ar (.int _ _) (.range ?_ off));have ay:((b-a).toNat:Int)-(i:Int)-1=((b-a).toNat:Int)-((i+1:Nat):Int):=by exact vV ..
   replace fE:=ay ▸ ((afL .. : a+(i:Int)+1=a+((i+1:Nat):Int)) ..) ▸ fE;exact fE
  ·replace h1:=aR fu ▸ h1;exact wpAny_pyNext_range_end aT bJ (by exact SN ‹_›) λh' ak=>h1 h' aa (own.kN off ak)
 |@r1 l ba t vs n bJ aI hz iu g bf off=>
  cases e;have hlen:=bf.length;refine aB λae=>?_;rcases i4 i vs.length with fu|xy
  ·have oU:(vs.length:Int)-1-(i:Int)=((vs.length-1-i:Nat):Int):=by exact Ds ‹_›
   replace bJ:=oU ▸ bJ;have xr:l[l.length-1-i]? =I (l[l.length-1-i]'(r0 (hlen ▸ fu))):=cD (r0 (hlen ▸ fu));obtain⟨val,aM,r⟩:=bf.get xr;replace aM:=(j1 (hlen ..)) ▸ aM;refine ae (TY bJ g hz aM λh' bj fE ak=>?_);have ar:=own.kN off ak.extBut;have az:=ar.sub own;refine h2 _ val h' bj (by rw[PQ (by exact fS ‹_› ‹_›)];exact xr) ar λhR ks aH=>?_;refine w4 (s:=At h' bj s) fE aa (by decide) (aH h' ar (r.sub az) (.r1 ?_ fu hz iu (az.2 _ _ _ iu g).2 (bf.sub az) off));have ay:((vs.length-1-i:Nat):Int)-1=(vs.length:Int)-1-((i+1:Nat):Int):=by exact Dp ‹_›
   replace fE:=ay ▸ fE;exact fE
  ·have oU:(vs.length:Int)-1-(i:Int) = -1:=by exact Dr ‹_› ‹_›
   replace bJ:=oU ▸ bJ;exact ae (TX aT bJ λh' ak=>h1 h' (hW (by rw[qr,<-hlen];exact xy)) (own.kN off ak))
 |@lst n d ba l bJ bL off=>
  refine aB λae=>?_;obtain⟨m,bX,rfl⟩:=KX e;obtain⟨vs,k,g,hl,bf⟩:=dD.list bX bL;refine ae ?_
  induction hm:m[i]? with
  |none=>
   exact wpAny_pyNext_list_end aT bJ (gd g) (by simpa using bf.get_none hm) λh' ak=>h1 h' hm (own.kN off ak)
  |some v=>
   refine aB λae=>?_;obtain⟨val,aM,r⟩:=bf.get hm;refine ae (wpAny_pyNext_list_item bJ (gd g) (x:=val) (by simpa using aM) λh' fE ak=>?_);have ar:=own.kN off ak.extBut;refine h2 v val h' s.toks hm ar λhR ks aH=>?_;refine aB λae=>?_;obtain⟨b2,iS,aA,_⟩:=id fE;exact ae (w4 (s:={ s with heap:=h' }) iS aA (by decide) (aH h' ar (r.sub (ar.sub own)) (.lst fE bL off)))
 |@qH n d k ba l bJ aI bL off=>
  refine aB λae=>?_;obtain⟨m,em,e⟩:=i3.mp e;refine ae ?_;by_cases q9:m.length=k
  case neg=>replace e:=aR q9 ▸ e;exact a5 e
  replace e:=aK q9 ▸ e;cases e;refine aB λae=>?_;obtain⟨vs,j,g,hl,bf⟩:=dD.list (uw em) bL;have hlen:=bf.length;rcases i4 i k with fu|xy
  ·have oU:(k:Int)-1-(i:Int)=((k-1-i:Nat):Int):=by exact Ds ‹_›
   replace bJ:=oU ▸ bJ;have xr:m[m.length-1-i]? =I (m[m.length-1-i]'(r0 (q9 ▸ fu))):=cD (r0 (q9 ▸ fu));obtain⟨val,aM,r⟩:=bf.get xr;replace aM:=q9 ▸ aM;refine ae (KB bJ g aM λh' fE ak=>?_);have ar:=own.kN off ak.extBut;refine h2 _ val h' s.toks (by rw[PQ (by exact fS ‹_› (j1 ‹_›))];exact xr) ar λhR ks aH=>?_;refine w4 (s:={ s with heap:=h' }) fE aa (by decide) (aH h' ar (r.sub (ar.sub own)) (.qH ?_ fu bL off));rw[(by exact Dp ‹_› : ((k-1-i:Nat):Int)-1=(k:Int)-1-((i+1:Nat):Int))]at fE;exact fE
  ·have oU:(k:Int)-1-(i:Int) = -1:=by exact Dr ‹_› ‹_›
   replace bJ:=oU ▸ bJ;exact ae (KA aT bJ λh' ak=>h1 h' (hW (by rw[qr,q9];exact xy)) (own.kN off ak))
 |@enum n d cG ba l old he bJ bL cv off ui=>
  refine aB λae=>?_;obtain⟨m,bX,rfl⟩:=KX e;obtain⟨vs,k,g,hl,bf⟩:=dD.list bX bL;have out:∀b,b∉[cG,ba]->b≠cG/\b≠ba:=λb au=>⟨λeq=>au (by rw[eq];exact b9 ..),λeq=>au (by rw[eq];exact dz _ (bN.mpr aa))⟩;have DP:∀b∈[cG,ba],∀vs n,s.heap.get? b≠I (dZ vs n):=λb au vs n e=>by
   obtain⟨b2,aG,⟨_,ao⟩|⟨⟨Um,kj,hm⟩,_⟩⟩:=own b au
   ·replace aG:=e ▸ aG;cases aG;exact ao vs n aa
   ·rcases List.mem_cons.mp au with rfl|au
    ·exact off _ (ee hm) aa
    ·replace hm:=bN.mp au ▸ hm;exact ui _ (ee hm) aa
  refine ae ?_
  induction hm:m[i]? with
  |none=>
   replace h1:=hm ▸ h1;exact wpAny_pyNext_enum_end aT he bJ (gd g) (by simpa using bf.get_none hm) λh' ak=>h1 h' aa (hx.of (λb o au e=>ak b o (out b au).2 e) DP)
  |some v=>
   replace h2:=hm ▸ h2;refine aB λae=>?_;obtain⟨aW,Tq,pp,rfl⟩:=Lh mK;obtain⟨val,aM,r⟩:=bf.get hm;refine ae (wpAny_pyNext_enum_item he bJ (gd g) (x:=val) (by simpa using aM) cv λh' WG fE bw cV jL=>?_);refine h2 _ _ h' (s.toks+1) aa (hx.of (λb o au e=>jL b o (out b au).1 (out b au).2 e) DP:hx [cG,ba] s.heap h') λhR ks aH=>?_;refine wpAny_letOwnedTupleGo_enum (s:=At h' (s.toks+1) s) WG λgi Fn xl=>?_;have uQ:hx [cG,ba] s.heap gi:=hx.of (λb o au e=>(xl.2 b (out b au).1).trans (jL b o (out b au).1 (out b au).2 e)) DP;have az:=uQ.sub own;refine aH gi uQ (.tup (vs:=[.int i s.toks,val]) (n:=0) dD.mF ((xl.2 _ (Nat.ne_of_gt (Heap.lt_size he):s.heap.objs.size≠cG)).trans bw) (by show 2<=sizeLine;decide) (.cons (.int _ _) (.cons (r.sub az) .nil))) (.enum (old:=val) ?_ (fE.at λo e=>(xl.2 ba cv.symm).trans e) bL cv off ui);replace Fn:=((aa:(i:Int)+1=((i+1:Nat):Int)) ..) ▸ Fn;exact Fn
 |@zip a b Um d z gj c1 cS cZ cI c4 D hz pX kg em s1 s2 ud bS cn=>
  refine aB λae=>?_;obtain⟨l,av,e⟩:=i3.mp e;obtain⟨m,ay,rfl⟩:=eU.mp e;obtain⟨vs,d8,cR⟩:=s1.side dD av;obtain⟨ws,eD,h0⟩:=s2.side dD ay;have Z:yg s.heap z gj c1 cS cZ cI c4 i vs ws (tR a) (tR b) .none:=⟨D,hz,pX,kg,d8,eD⟩;have lE:c1∈[z,c1,cS,cZ]:=dz _ (b9 ..);have mH:cS∈[z,c1,cS,cZ]:=dz _ (dz _ (b9 ..));have wZ:cZ∈[z,c1,cS,cZ]:=dz _ (dz _ (dz _ (bN.mpr aa)));have eR:∀h',vn s.heap h' z c1 cS cZ->(∃x y,IsPair h' c1 x y)->hx [z,c1,cS,cZ] s.heap h':=λh' ar a8=>by
   obtain⟨x,y,aP⟩:=a8;refine⟨λc o aA e=>ar c o (λeq=>aA (eq ▸ (b9 .. : z∈[z,c1,cS,cZ]))) (λeq=>aA (eq ▸ lE)) (λeq=>aA (eq ▸ mH)) (λeq=>aA (eq ▸ wZ)) e,λc aA vs n e=>?_⟩;obtain⟨b2,aG,⟨_,ao⟩|⟨⟨agj,kj,hm⟩,_⟩⟩:=own c aA
   ·replace aG:=e ▸ aG;cases aG;exact absurd aa (ao vs n)
   ·refine aB λae=>?_;rcases List.mem_cons.mp aA with rfl|aA
    ·exact absurd aa (ud _ (ee hm))
    ·rcases List.mem_cons.mp aA with rfl|aA
     ·exact ae ⟨[x,y],0,aP⟩
     ·rcases List.mem_cons.mp aA with rfl|aA
      ·exact absurd aa (bS _ (ee hm))
      ·refine ae ?_;replace hm:=bN.mp aA ▸ hm;exact absurd aa (cn _ (ee hm))
  have ends:vs[i]? =U\/ws[i]? =U->pairUp l[i]? m[i]? =U->wpAny (model ab.prog ab.w) A (pyNext (.ref z)) Q E s:=λhe hp=>Ql aT Z he λh' ar aP=>h1 h' hp (eR h' ar aP);refine ae ?_
  induction hl:l[i]? with
  |none=>exact ends (.inl (cR.get_none hl)) (by rw[hl];rfl)
  |some x=>
   induction hm:m[i]? with
   |none=>exact ends (.inr (h0.get_none hm)) (by rw[hl,hm];rfl)
   |some y=>
    refine aB λae=>?_;obtain⟨QP,Vq,SA⟩:=cR.get hl;obtain⟨QO,Vp,Dn⟩:=h0.get hm;obtain⟨aW,Tq,pp,rfl⟩:=Lh mK;refine ae (Qj Z Vq Vp λh' vo bw ar=>?_);refine h2 (.tup [x,y]) _ h' s.toks (by rw[hl,hm];rfl) (eR h' ar vo.out) λhR ks aH=>?_;refine wpAny_letOwnedTupleGo_zip (s:={ s with heap:=h' }) vo.zip λgi Vk xl=>?_;have up:∀c o,c≠z->h'.get? c=I o->gi.get? c=I o:=λc o aA e=>(xl.2 c aA).trans e;have Kc:∃x y,IsPair gi c1 x y:=by obtain⟨x,y,e⟩:=vo.out;exact⟨x,y,up _ _ D.TOz e⟩
    have L4:=eR gi (λc o cI c4 n1 k1 e=>up c o cI (ar c o cI c4 n1 k1 e):vn s.heap gi z c1 cS cZ) Kc;have az:=L4.sub own;exact aH gi L4 (.tup (vs:=[QP,QO]) (n:=0) dD.mF (up _ _ (Nat.ne_of_gt (Heap.lt_size hz):s.heap.objs.size≠z) bw) (by show 2<=sizeLine;decide) (.cons (SA.sub az) (.cons (Dn.sub az) .nil)))
     (.zip D Vk (up _ _ D.TIz vo.its) Kc em (s1.on (vo.one.keep (λo e=>up _ o D.i1z e) λo e=>up _ o D.A7 e) az) (s2.on (vo.two.keep (λo e=>up _ o D.i2z e) λo e=>up _ o D.A6 e) az) ud bS cn)
 |@keys n v d dI ba a cj l bJ bL aM hd hl az cv off=>
  have oK:my σ n=I v/\o=l[i]?:=by
   have e:(if my σ n=I v then I l[i]? else U)=I o:=e;by_cases q:my σ n=I v
   ·replace e:=aK q ▸ e;cases e;exact⟨q,aa⟩
   ·replace e:=aR q ▸ e;exact a5 e
  refine aB λae=>?_;obtain⟨oK,rfl⟩:=oK;have bX:∃t,σ[n]? =I (.dict v t):=by
   unfold my at oK
   induction q:σ[n]? with
   |none=>replace oK:=q ▸ oK;exact a5 oK
   |some b2=>
    replace oK:=q ▸ oK
    induction b2 using O.casesOn with
    |dict v' t=>cases oK;exact⟨t,aa⟩
    |_=>exact a5 oK
  obtain⟨t,bX⟩:=bX;have df:=hd ((dD.dict bX bL).1:d=v);refine ae ?_
  induction ak:cj[i]? with
  |none=>
   refine wpAny_pyNext_dict_end aT bJ df ak λh' gf=>h1 h' ?_ (own.kN off gf);rw[hl,e6,ak];rfl
  |some p=>
   obtain⟨k,u⟩:=p;refine wpAny_pyNext_dict_item bJ df ak λkey h' V3 fE ke=>?_;have ar:=own.kN off ke.extBut;refine h2 (h7 k) key h' s.toks (by rw[hl,e6,ak];rfl) ar λhR ks aH=>?_;exact letGo_keyiter (s':={ s with heap:=h' }) fE (aH h' ar (UY V3 (az _ (ee ak))) (.keys fE bL aM (λaf=>df.extBut ke.extBut cv) hl az cv off))
def Z9(ab:eG):Src->Map->Heap->Value->Prop
 |.vals l,ρ,h,v=>(∃t vs n,v=.ref t/\c9 ρ t/\h.get? t=I (dZ vs n)/\b8 ρ h vs l) \/
   ∃r a b t u w,v=.ref r/\IsRange h r a b 1 t u w/\Builtin.Range.small a b 1=aw/\l=i9 a b
 |.lst n,ρ,h,v=>∃a d vs k,v=.ref a/\ρ[n]? =I (a,d)/\h.get? a=I (en vs k)
 |.keys n u l,ρ,h,v=>∃a cj,v=.ref a/\ρ[n]? =I (a,u)/\(a==sysModules)=aS/\h.DictOf (keyKind ab.prog ab.w) a cj/\l=cj.map (λp=>h7 p.1)/\∀p∈cj,∀s,p.1=.inr s->hu s
 |_,_,_,_=>False
def mX(ab:eG)(au:Heap)(b7:Src)(ρ:Map)(h:Heap)(v:Value):Prop:=Z9 ab b7 ρ h v\/∃wr,g9 ab 0 ρ h b7 v wr/\∀b∈wr,au.get? b=U
theorem wt(ar:∀b o,h.get? b=I o->∃o',h'.get? b=I o'):h.get? h'.objs.size=U:=by
 induction e:h.get? h'.objs.size with
 |none=>rfl
 |some o=>obtain⟨o',aG⟩:=ar _ _ e;exact absurd (Heap.lt_size aG) (vO _)
theorem g9.self(x:g9 ab i ρ s.heap b7 it wr)(h:Q it s):wpAny (model ab.prog ab.w) A (pyIter it) Q E s:=by
 induction x with
 |tup bJ _ _ _ _=>exact wpAny_pyIter_tupleiter bJ h
 |range bJ _=>exact wpAny_pyIter_rangeiter bJ h
 |r1 bJ _ _ _ _ _ _=>exact U3 bJ h
 |lst bJ _ _=>exact wpAny_pyIter_listiter bJ h
 |qH bJ _ _ _=>exact Eo bJ h
 |enum he _ _ _ _ _=>exact wpAny_pyIter_enum he h
 |zip _ hz _ _ _ _ _ _ _ _=>exact wpAny_pyIter_zip hz h
 |keys bJ _ _ _ _ _ _ _=>exact wpAny_pyIter_keyiter bJ h
theorem mX.iter(dD:Inv ab σ ρ s.heap)(x:Ext W eJ au ρ s.heap)(r:mX ab au b7 ρ s.heap v)
  (h:∀it wr h',(∀b o,s.heap.get? b=I o->h'.get? b=I o)->g9 ab 0 ρ h' b7 it wr->(∀b∈wr,au.get? b=U)->Q it { s with heap:=h' }):wpAny (model ab.prog ab.w) A (pyIter v) Q E s:=by
 have off:=dD.mF;have uN:∀b2 b o,s.heap.get? b=I o->(s.heap.push b2).get? b=I o:=λb2 b o e=>fH _ e;have one:∀b∈[s.heap.objs.size],au.get? b=U:=λb au=>by rw[bN.mp au];exact(wt x.alive)
 rcases r with r|⟨wr,it,hw⟩
 ·induction b7 with
  |vals l=>
   refine aB λae=>?_;rcases r with ⟨t,vs,n,rfl,iu,g,bf⟩|⟨r,a,b,t,u,w,rfl,aX,Vz,rfl⟩
   ·exact ae (aeo (mJ g) (h _ [s.heap.objs.size] _ (uN _) (.tup ⟨_,gR _ aa,aa,aa⟩ iu (uN _ _ _ g) (bf.sub (Sub.keeps (uN _))) off) one))
   ·refine ae (wpAny_pyIter_range aX Vz (h _ [s.heap.objs.size] _ (uN _) (.range ?_ off) one));have e:Builtin.Range.rangeSize a b 1=((b-a).toNat:Int)-((0:Nat):Int):=by rw[rangeSize_one];split;exact(afE (Int.sub_nonneg_of_le (vW ‹_›))).symm.trans (B7 _).symm;rw[Int.toNat_of_nonpos (afF (qt.mp ‹_›))];rfl
    rw[<-e,(by exact B7 _:a+((0:Nat):Int)=a)];exact gR _ aa
  |lst n=>
   refine aB λae=>?_;obtain⟨a,d,vs,k,rfl,bL,g⟩:=r;exact ae (aeq (gd g) (h _ [s.heap.objs.size] _ (uN _) (.lst ⟨_,gR _ aa,aa,aa⟩ bL off) one))
  |keys n u l=>
   refine aB λae=>?_;obtain⟨a,cj,rfl,bL,ER,hd,hl,az⟩:=r;obtain⟨dI,df⟩:=hd.dictAt;exact ae (aer ER df (h _ [s.heap.objs.size] _ (uN _) (.keys ⟨_,gR _ aa,aa,aa⟩ bL (bx _) (λaf=>df.push _) hl az (gv df.lt_size) off) one))
  |enum _=>exact r.elim
  |zip _ _ _=>exact r.elim
  |rev _ _=>exact r.elim
 ·exact it.self (h _ wr s.heap (λaf aJ e=>e) it hw)
end
section
variable {au:Heap}{wr:List Addr}{aU eJ:Map}{mg mb:Str->Option Value}
variable {loc:Loc}{n:Nat}
def rB(ab:eG)(env:Env)(ns:cC):Loc->Map->Heap->Unit->Prop:=λloc ρ h af=>c7 ab env ns loc ρ h
theorem xN{α:Type}{l:List α}{i j:Nat}{a b:α}(h:(l.set i a)[j]? =I b):(i=j/\b=a)\/(i≠j/\l[j]? =I b):=by
 by_cases kT:i=j
 ·subst kT
  left
  rcases i4 i l.length with hl|hl
  ·replace h:=yK hl ▸ h;cases h;exact⟨aa,aa⟩
  ·rw[hW (by simpa using hl)]at h;exact a5 h
 ·replace h:=oo kT ▸ h;exact .inr ⟨kT,h⟩
theorem zH{h:Heap}{a:Addr}{m:Str->Option Value}(ao:h.Ns a m):∃o,h.get? a=I o/\tD o:=by
 refine aB λae=>?_;obtain⟨o',aW,dI,ho,hd,r⟩:=ao;exact ae ⟨o',ho,aW,dI,hd⟩
theorem UW(hd:o.data=.cell v):og o o' where
 tup:=λvs n e=>by replace hd:=e ▸ hd;cases hd
theorem Xb(F:c7 ab env ns loc ρ s.heap):(env.scope.kind == .class || (env.scope.kind == .module&&env.locals != env.globals))=false:=by rw[F.kind];rfl
theorem ah.Jg{x:Str}{i:Nat}{v:Value}{a:V}(F:c7 ab env ns loc ρ s.heap)(dD:Inv ab σ ρ s.heap)(aZ:ab.get? env.locals=U)(az:slot ns x=I (i,.local))(r:Rel ρ s.heap v a) :
  ah ab [env.locals] ρ s A (rB ab env ns) (storeName env x v) (.ok (loc.set i (I a)) σ):=by
 refine aB λae=>?_;obtain⟨m,ao,aM⟩:=F.vars;refine ae (wpAny_storeName_local (F.kindOf az) ao (λh' gg ke=>?_) (Xb F));have ar:∀b o,s.heap.get? b=I o->b∉[env.locals]->h'.get? b=I o:=λb o e au=>ke.extBut b o (λeq=>au (bN.mpr eq)) e;have ak:Ext [env.locals] ρ s.heap ρ h':=Ext.of_keep (λb hm=>by rw[bN.mp hm];exact F.kI) ar λb o e hm=>by
  rw[bN.mp hm]at e ⊢;refine aB λae=>?_;obtain⟨o',aG,f3⟩:=zH gg;obtain⟨zE,jN,Gd⟩:=zH ao;refine ae ?_;replace jN:=e ▸ jN;cases jN;exact⟨o',aG,UU Gd⟩
 refine⟨ρ,h',s.toks+1,aa,dD.keep ak (λb hm=>by rw[bN.mp hm];exact⟨F.kI,aZ⟩) ar,ak,?_⟩;exact {
  names:=F.names
  kind:=F.kind
  globals:=F.globals
  kk:=F.kk
  vars:=by
   refine⟨_,gg,λy j u h1 h2=>?_⟩;rcases xN h2 with ⟨rfl,e⟩|⟨cv,h2⟩
   ·cases e;rw[zj h1 az];exact⟨v,aK aa,r.ext ak⟩
   ·refine aB λae=>?_;obtain⟨val,e,aX⟩:=aM y j u h1 h2;refine ae ⟨val,?_,aX.ext ak⟩;rw[aR (λeq=>by rw[eq,az]at h1;cases h1;exact cv aa)];exact e
  cell:=λy j h1=>by
   refine aB λae=>?_;obtain⟨c,o,e,⟨b2,iS,hd⟩,aM⟩:=F.cell y j h1;refine ae ⟨c,o,e,⟨b2,ar _ _ iS (λhm=>(F.h5 y c e).1 (bN.mp hm)),hd⟩,λu h2=>?_⟩;rcases xN h2 with ⟨rfl,_⟩|⟨cv,h2⟩
   ·replace h1:=az ▸ zj h1 az ▸ h1;cases h1
   ·refine aB λae=>?_;obtain⟨val,aG,aX⟩:=aM u h2;exact ae ⟨val,aG,aX.ext ak⟩
  live:=λy c e=>by
   refine aB λae=>?_;obtain⟨o,b2,iS,hd⟩:=F.live y c e;exact ae ⟨o,b2,ar _ _ iS (λhm=>(F.h5 y c e).1 (bN.mp hm)),hd⟩
  kI:=F.kI
  h5:=F.h5
  apart:=F.apart }
theorem ah.R5{x:Str}{i:Nat}{v:Value}{a:V}(F:c7 ab env ns loc ρ s.heap)(dD:Inv ab σ ρ s.heap)(aZ:∀b∈eg env,ab.get? b=U)(az:slot ns x=I (i,.cell))(r:Rel ρ s.heap v a) :
  ah ab (eg env) ρ s A (rB ab env ns) (storeName env x v) (.ok (loc.set i (I a)) σ):=by
 refine aB λae=>?_;obtain⟨c,J9,aA,sP,agu⟩:=F.cell x i az;have Mj:c∈eg env:=Xe (k:=.cell) (by rw[F.names];exact mem_of_lookup (wq az)) aA;refine ae (wpAny_storeName_cell F.kind (F.kindOf az) aA sP λh' gg ke=>?_);have ar:∀b o,s.heap.get? b=I o->b∉[c]->h'.get? b=I o:=λb o e au=>ke.extBut b o (λeq=>au (bN.mpr eq)) e;have ak:Ext [c] ρ s.heap ρ h':=Ext.of_keep (λb hm=>by rw[bN.mp hm];exact(F.h5 x c aA).2) ar λb o e hm=>by
  rw[bN.mp hm]at e ⊢;refine aB λae=>?_;obtain⟨o',aG,_⟩:=gg;obtain⟨zE,jN,Gd⟩:=sP;refine ae ?_;replace jN:=e ▸ jN;cases jN;exact⟨o',aG,UW Gd⟩
 refine⟨ρ,h',s.toks,aa,dD.keep ak (λb hm=>by rw[bN.mp hm];exact⟨(F.h5 x c aA).2,aZ c Mj⟩) ar,ak.weak λb hm=>.inl (by rw[bN.mp hm];exact Mj),?_⟩;exact {
  names:=F.names
  kind:=F.kind
  globals:=F.globals
  kk:=F.kk
  vars:=by
   refine aB λae=>?_;obtain⟨m,⟨o,aW,dI,ho,cO⟩,aM⟩:=F.vars;refine ae ⟨m,⟨o,aW,dI,ar _ _ ho (λhm=>(F.h5 x c aA).1 (bN.mp hm).symm),cO⟩,λy j u h1 h2=>?_⟩;rcases xN h2 with ⟨rfl,_⟩|⟨cv,h2⟩
   ·replace h1:=az ▸ zj h1 az ▸ h1;cases h1
   ·refine aB λae=>?_;obtain⟨val,e,aX⟩:=aM y j u h1 h2;exact ae ⟨val,e,aX.ext ak⟩
  cell:=λy j h1=>by
   refine aB λae=>?_;obtain⟨d,o,e,⟨b2,iS,hd⟩,aM⟩:=F.cell y j h1;refine ae ?_;by_cases uX:d=c
   ·subst uX;have EI:=F.apart y x d e aA;subst EI;replace h1:=az ▸ h1;cases h1;refine⟨d,I v,e,gg,λu h2=>?_⟩;rcases xN h2 with ⟨_,e⟩|⟨cv,h2⟩
    ·cases e;exact⟨v,aa,r.ext ak⟩
    ·exact absurd aa cv
   ·refine⟨d,o,e,⟨b2,ar _ _ iS (λhm=>uX (bN.mp hm)),hd⟩,λu h2=>?_⟩;rcases xN h2 with ⟨rfl,_⟩|⟨cv,h2⟩
    ·replace e:=aA ▸ zj h1 az ▸ e;cases e;exact absurd aa uX
    ·refine aB λae=>?_;obtain⟨val,aG,aX⟩:=aM u h2;exact ae ⟨val,aG,aX.ext ak⟩
  live:=λy d e=>by
   refine aB λae=>?_;obtain⟨o,b2,iS,hd⟩:=F.live y d e;refine ae ?_;by_cases uX:d=c
   ·subst uX;exact⟨_,gg⟩
   ·exact⟨o,b2,ar _ _ iS (λhm=>uX (bN.mp hm)),hd⟩
  kI:=F.kI
  h5:=F.h5
  apart:=F.apart }
structure Bi(ab:eG)(env:Env)(ns:cC)(W:List Addr)(st:Str->V->Loc->M Loc):Prop where
 store:∀(x:Str) (v:Value) (a:V) (loc:Loc) (σ:aN) (ρ:Map) (s:Shared) (A:Around),c7 ab env ns loc ρ s.heap->Inv ab σ ρ s.heap->Rel ρ s.heap v a->ah ab W ρ s A (rB ab env ns) (storeName env x v) (st x a loc σ)
theorem R6(aZ:ab.get? env.locals=U):Bi ab env ns [env.locals] (fJ ns) where
 store:=λx v a loc σ ρ s A F dD r=>by
  unfold fJ
  induction az:slot ns x with
  |none=>exact aL
  |some p=>
   obtain⟨i,k⟩:=p;cases k <;> first|exact aL|exact ah.Jg F dD aZ az r
theorem zg(aZ:∀b∈eg env,ab.get? b=U):Bi ab env ns (eg env) (stLoc ns) where
 store:=λx v a loc σ ρ s A F dD r=>by
  unfold stLoc
  induction az:slot ns x with
  |none=>exact aL
  |some p=>
   obtain⟨i,k⟩:=p;cases k <;> first
    |exact aL
    |exact ah.R5 F dD aZ az r
    |exact(ah.Jg F dD (aZ _ (b9 ..)) az r).weak λb hm=>.inl (by rw[bN.mp hm];exact b9 ..)
theorem ah.bindName(h:ah ab W ρ s A R (storeName env x v) r):ah ab W ρ s A R (PySem.bindName env x v) r:=
 ah.wrap (λaf aJ=>wpAny_bindName) h
theorem Ky(h:zK t=I q):t=.Name q.1 q.2:=by
 cases t <;> first
  |exact a5 h
  |(cases h;rfl)
theorem Rr(h:CM t=I q):t=.Tuple q.1 q.2.1 q.2.2:=by
 cases t <;> first
  |exact a5 h
  |(cases h;rfl)
noncomputable def qT(q:Str×Pos):Expr:=.Name q.1 q.2
theorem TU:∀{ts:List Expr}{bq:List (Str×Pos)},zJ ts=I bq->ts=bq.map qT:=by
 intro ts
 induction ts with
 |nil=>intro bq h;cases h;rfl
 |cons t ts aj=>
  intro bq h;obtain⟨q,h1,h⟩:=i3.mp h;obtain⟨r,h2,rfl⟩:=eU.mp h;rw[Ky h1,aj h2];rfl
theorem N9:assignEach (qT q::r) env=(aS,assign (qT q) env)::assignEach r env:=rfl
theorem Oa{bq:List (Str×Pos)}:(assignEach (bq.map qT) env).findIdx? (·.1)=U/\(assignEach (bq.map qT) env).length=bq.length:=by
 induction bq with
 |nil=>exact⟨aa,aa⟩
 |cons q bq aj=>rw[ea,N9,List.findIdx?_cons,aj.1,pe,aj.2];exact⟨aa,aa⟩
theorem ZE{st:Str->V->Loc->M Loc}(S:Bi ab env ns W st){bq:List (Str×Pos)}:∀(vs:List Value) (l:List V) (loc:Loc) (σ:aN) (ρ:Map) (s:Shared),c7 ab env ns loc ρ s.heap->Inv ab σ ρ s.heap->b8 ρ s.heap vs l ->
  ah ab W ρ s A (rB ab env ns) (assignInOrder ((assignEach (bq.map qT) env).map (·.2)) vs) (vk st bq l loc σ):=by
 induction bq with
 |nil=>
  intro vs l loc σ ρ s F dD r
  induction l with
  |nil=>cases r;exact ah.ret dD F
  |cons a l=>exact aL
 |cons q bq aj=>
  intro vs l loc σ ρ s F dD r
  cases r with
  |nil=>exact aL
  |@cons v vs a l r rs=>
   rw[ea,N9];show ah ab W ρ s A (rB ab env ns) (PySem.holding vs (assign (.Name q.1 q.2) env v)>>=λaf=>assignInOrder ((assignEach (bq.map qT) env).map (·.2)) vs) ((st q.1 a loc>>=λbP=>vk st bq l bP) σ);refine ah.bind (R:=rB ab env ns) (ah.holding ?_) λiw bl a7 H bj af bB b4 jD=>aj vs l iw bl a7 _ jD bB (rs.ext b4);rw[aeH];exact ah.standAt (ah.bindName (S.store q.1 v a loc σ ρ s A F dD r))
theorem ZF{st:Str->V->Loc->M Loc}{bq:List (Str×Pos)}:∀{l:List V}{loc bP:Loc}{σ ag:aN},vk st bq l loc σ=.ok bP ag->bq.length=l.length:=by
 induction bq with
 |nil=>intro l loc bP σ ag h;induction l with
  |nil=>rfl
  |cons _ _=>exact ic h
 |cons q bq aj=>intro l loc bP σ ag h;induction l with
  |nil=>exact ic h
  |cons v vs=>
   obtain⟨agl,bl,_,av⟩:=p8 (m:=st q.1 v loc) (f:=λbP=>vk st bq vs bP) h;exact ff (· + 1) (aj av)
theorem ah.bindTo{st:Str->V->Loc->M Loc}(S:Bi ab env ns W st){t:Expr}{v:Value}{a:V}(aT:A.handled=U)(F:c7 ab env ns loc ρ s.heap)(dD:Inv ab σ ρ s.heap)(r:Rel ρ s.heap v a) :
  ah ab W ρ s A (rB ab env ns) (assign t env v) (bindTo st t a loc σ):=by
 induction aX:Mine.Internal.bindTo st t a loc σ with
 |bad=>exact aL
 |ok iw bl=>
  unfold Mine.Internal.bindTo Mine.Internal.bindNames at aX
  induction h1:zK t with
  |some q=>
   rw[h1]at aX;rw[Ky h1,aeH,<-aX];exact ah.standAt (ah.bindName (S.store q.1 v a loc σ ρ s A F dD r))
  |none=>
   rw[h1]at aX
   induction h2:CM t with
   |none=>rw[h2]at aX;exact ic aX
   |some q=>
    rw[h2]at aX
    induction r using Rel.cs with
    |@tup gT vs nn l _ g hl bf=>
     dsimp only at aX
     induction h3:zJ q.1 with
     |none=>rw[h3]at aX;exact ic aX
     |some bq=>
      rw[h3]at aX;rw[Rr h2,TU h3,arm_assign_Tuple];refine ah.standAt ?_;unfold unpack;refine a0 (k5 ?_);rw[Oa.1,(by rw[Oa.2,ZF aX,List.size_toArray,bf.length]:(assignEach (bq.map qT) env).length=vs.toArray.size)];refine wpAny_unpackItems_tuple aT (mJ g) λh' ak=>?_;have ar:∀b o,s.heap.get? b=I o->h'.get? b=I o:=λb o e=>ak b o (gv (Heap.lt_size e)) e;have az:=ZE (A:=A) (bq:=bq) S vs l loc σ ρ { s with heap:=h' } (F.gB (Ext.of_keeps ar)) (dD.keeps ar) (bf.sub (Sub.keeps ar));rw[aX]at az;refine ei az (λb s' hp=>?_) λaf aJ x=>x;obtain⟨a7,H,bj,rfl,bB,b4,jD⟩:=hp;exact⟨a7,H,bj,aa,bB,(Ext.of_keeps ar).trans b4,jD⟩
    |_=>exact ic aX
end
section
variable {au:Heap}{wr:List Addr}{aU eJ:Map}{mg mb:Str->Option Value}
variable {loc:Loc}{n:Nat}
variable (ab C n) in
def n7(e:Expr):Prop:=∀(env:Env) (ns:cC) (loc:Loc) (σ:aN) (ρ:Map) (s:Shared) (A:Around),e4 A n->c7 ab env ns loc ρ s.heap->Inv ab σ ρ s.heap ->
 ah ab [] ρ s A (mX ab s.heap) (eval e env) (src C e ns loc (ev C e ns loc) σ)
theorem ah.map{α β a6:Type}{t:Sem β}{m:M α}{k:α->M a6}{R:α->Map->Heap->β->Prop}{qc:a6->Map->Heap->β->Prop}(h:ah ab W ρ s A R t (m σ))
  (ar:∀a bl a7 H b c dt,Inv ab bl a7 H->R a a7 H b->k a bl=.ok c dt->dt=bl/\qc c a7 H b):ah ab W ρ s A qc t ((m>>=k) σ):=by
 induction e:m σ with
 |bad=>rw[dR e];exact aL
 |ok a bl=>
  rw[a4 e];replace h:=e ▸ h
  induction ay:k a bl with
  |bad=>exact aL
  |ok c dt=>
   refine ei h (λb s' hp=>?_) λaf aJ x=>x;obtain⟨a7,H,bj,rfl,i,x,r⟩:=hp;obtain⟨rfl,bI⟩:=ar a bl a7 H b c dt i r ay;exact⟨a7,H,bj,aa,i,x,bI⟩
theorem f7.nr(r:f7 ρ h cj l):∀p∈cj,∀s,p.1=.inr s->hu s:=by
 induction r with
 |nil=>exact λaf hm=>nomatch hm
 |cons az _ _ aj=>exact λp hm=>(List.mem_cons.mp hm).elim (λe=>e ▸ az) (aj p)
set_option tactic.hygienic true in
theorem Jh{e:Expr}(he:cN ab C n e)(aT:e4 A n)(F:c7 ab env ns loc ρ s.heap)(i:Inv ab σ ρ s.heap) :
  ah ab [] ρ s A (mX ab s.heap) (eval e env) ((ev C e ns loc>>=eY) σ):=by
 refine ah.map (he env ns loc σ ρ s A aT F i) λa bl a7 H b c dt bB r ar=>?_
 induction r using Rel.cs with
 |tup iu g hl bf=>cases ar;exact⟨aa,.inl (.inl ⟨_,_,_,aa,iu,g,bf⟩)⟩
 |ref bL=>
  rename_i k n d
  have ar:(jc d>>=λo=>match o with|.list _=>(Pure.pure (Src.lst d):M Src)|.dict v l=>Pure.pure (.keys d v (l.map λp=>h7 p.1))|_=>M.bad) bl=.ok c dt:=ar
  induction bX:bl[d]? with
  |none=>rw[dR (by rw[pZ,bX])]at ar;exact ic ar
  |some o=>
   rw[a4 (a:=o) (ag:=bl) (by rw[pZ,bX])]at ar
   induction o with
   |list l=>
    cases ar;obtain⟨vs,k,g,_,_⟩:=Inv.list (s:={ s with heap:=H }) bB bX bL;exact⟨aa,.inl ⟨_,_,vs,k,aa,bL,g⟩⟩
   |dict v l=>
    cases ar;obtain⟨av,az,cj,hd,_,r⟩:=Inv.dict (s:={ s with heap:=H }) bB bX bL;refine⟨aa,.inl ⟨_,cj,aa,av ▸ bL,az,hd,?_,r.nr⟩⟩;have:=ff (List.map h7) r.keys;rw[gw,gw]at this;exact this.symm
   |_=>exact ic ar
 |_=>exact ic ar
theorem X6{a:Expr}{α:Type}{k:V->M α}:(ev C a ns loc>>=k)=(jw C [a] ns loc>>=λl=>match l with|[v]=>k v|_=>M.bad):=rfl
theorem X5{a b:Expr}{α:Type}{k:V->V->M α}:(ev C a ns loc>>=λv=>ev C b ns loc>>=λw=>k v w)=(jw C [a,b] ns loc>>=λl=>match l with|[v,w]=>k v w|_=>M.bad):=rfl
theorem Ko(i:Inv ab σ ρ s.heap)(au:s.heap.objs.size<=b):c9 ρ b:=λp hp=>by
 obtain⟨bS,av⟩:=i.alive hp;exact λe=>absurd (Heap.lt_size av) (vN.mpr (e ▸ au))
theorem vb{h h':Heap}(ar:∀b o,h.get? b=I o->∃o',h'.get? b=I o'){b:Addr}(au:h'.objs.size<=b):h.get? b=U:=by
 induction e:h.get? b with
 |none=>rfl
 |some o=>obtain⟨o',aG⟩:=ar _ _ e;exact absurd (Heap.lt_size aG) (vN.mpr au)
theorem ah.rangeCall(i:Inv ab σ ρ s.heap)(bf:Rel ρ s.heap a x):ah ab [] ρ s A (mX ab au) (call (.type "range") [a]) (nv x σ):=by
 induction bf using Rel.cs with
 |int z t=>
  refine ah.ite λaA=>?_;refine ah.grown i λQ E br=>call_range_1 (br _ _ _ (λc o e=>fH _ e) (.inl (.inr ⟨_,0,z,_,_,_,aa,IsRange.new ..,?_,aa⟩)));exact small_one (by decide) (by decide) (by lia) (by lia)
 |_=>exact aL
theorem ah.YC{a:Value}{x:V}(i:Inv ab σ ρ s.heap)(pj:Ext [] eJ au ρ s.heap)(bf:Rel ρ s.heap a x):ah ab [] ρ s A (mX ab au) (call (.type "enumerate") [a]) (xX x σ):=by
 induction bf using Rel.cs with
 |@ref a d n bL=>
  refine ah.fb λl bX=>?_;obtain⟨vs,m,g,hl,r⟩:=i.list bX bL;refine ah.grown i λQ E br=>call_enumerate_list (gd g) λh' he bJ cV ar=>br _ h' s.toks ar (.inr ⟨_,.enum he bJ bL (HB _) (Ko i (gH _)) i.mF,λb au=>?_⟩);rcases List.mem_cons.mp au with rfl|au
  ·exact vb pj.alive (gH _)
  ·rw[bN.mp au];exact wt pj.alive
 |_=>exact aL
theorem ah.SV(i:Inv ab σ ρ s.heap)(pj:Ext [] eJ au ρ s.heap)(bf:Rel ρ s.heap a x):ah ab [] ρ s A (mX ab au) (call (.type "reversed") [a]) (r3 x σ):=by
 have one:∀b∈[s.heap.objs.size],au.get? b=U:=λb au=>by rw[bN.mp au];exact wt pj.alive
 induction bf using Rel.cs with
 |@tup a vs n l iu g hl r=>
  refine(?_:ah ab [] ρ s A _ _ (.ok (Src.vals l.reverse) σ));refine ah.grown i λQ E br=>Zp g hl λh' bj ar bJ=>br _ h' bj ar (.inr ⟨_,.r1 (i:=0) ?_ (eV _) hl iu (ar _ _ g) (r.sub (Sub.keeps ar)) i.mF,one⟩);rw[show(vs.length:Int)-1-((0:Nat):Int)=(vs.length:Int)-1 by exact vV ..];exact bJ
 |@ref a d n bL=>
  refine ah.fb λl bX=>?_;obtain⟨vs,m,g,hl,r⟩:=i.list bX bL;refine ah.grown i λQ E br=>Zq g λh' ar bJ=>br _ h' s.toks ar (.inr ⟨_,.qH (i:=0) ?_ (eV _) bL i.mF,one⟩);rw[show(l.length:Int)-1-((0:Nat):Int)=(l.length:Int)-1 by exact vV ..,<-r.length];exact bJ
 |_=>exact aL
structure GZ(ab:eG)(σ:aN)(ρ:Map)(h:Heap)(v:Value)(z:k2)(c:Addr)(vs:List Value):Prop where
 eq:v=.ref c
 src:jQ h c vs (tR z)
 lst:∀n,z=.lst n->∃d,ρ[n]? =I (c,d)
 tup:∀l,z=.tup l->c9 ρ c/\(∃n,h.get? c=I (dZ vs n))/\b8 ρ h vs l
theorem H3{v:Value}{x:V}{α:Type}{k:k2->M α}{r:α}{ag:aN}(i:Inv ab σ ρ s.heap)(bf:Rel ρ s.heap v x)(h:(rK x>>=k) σ=.ok r ag):∃z c vs,GZ ab σ ρ s.heap v z c vs/\k z σ=.ok r ag:=by
 induction bf using Rel.cs with
 |@tup a vs n l iu g hl bf=>exact⟨.tup l,a,vs,⟨aa,.tup (mJ g),λn e=>(by cases e),λl e=>by cases e;exact⟨iu,⟨n,g⟩,bf⟩⟩,h⟩
 |@ref a d n bL=>
  have h:((fb n>>=λaf=>(Pure.pure (k2.lst n):M k2))>>=k) σ=.ok r ag:=h;rw[M.assoc]at h;obtain⟨l,bl,av,h⟩:=p8 h;rw[kh]at av
  induction bX:σ[n]? with
  |none=>rw[bX]at av;exact ic av
  |some o=>
   rw[bX]at av
   induction o with
   |list m=>
    cases av;obtain⟨vs,j,g,hl,r⟩:=i.list bX bL;exact⟨.lst n,a,vs,⟨aa,.lst (gd g),λn e=>(by cases e;exact⟨d,bL⟩),λl e=>(by cases e)⟩,h⟩
   |_=>exact ic av
 |_=>exact ic h
theorem GZ.at(q:GZ ab σ ρ h v z c vs)(y:Sub ρ h aU h')(az:gC h' i c 0 vs (tR z)):ko aU h' i c 0 z:=by
 induction z with
 |lst n=>
  obtain⟨d,e⟩:=q.lst n aa;obtain⟨f3,aG⟩:=y.1 _ _ _ e
  cases az with
  |lst a b=>exact .lst a aG
 |tup l=>
  obtain⟨iu,⟨n,g⟩,r⟩:=q.tup l aa
  cases az with
  |tup a b=>exact .tup a (y.2 _ _ _ iu g).1 (y.2 _ _ _ iu g).2 (r.sub y)
theorem ah.Qm{a b:Value}{x y:V}(i:Inv ab σ ρ s.heap)(pj:Ext [] eJ au ρ s.heap)(bf:Rel ρ s.heap a x)(bO:Rel ρ s.heap b y):ah ab [] ρ s A (mX ab au) (call (.type "zip") [a,b]) (tS x y σ):=by
 induction e:tS x y σ with
 |bad=>exact aL
 |ok b7 ag=>
  refine aB λae=>?_;obtain⟨Ci,cI,vs,d8,e⟩:=H3 i bf e;obtain⟨v5,c4,ws,eD,e⟩:=H3 i bO e;refine ae ?_;cases e;rw[d8.eq,eD.eq];refine Zo d8.src eD.src λh' ar Z=>?_;refine aB λae=>?_;obtain⟨u,v,kg⟩:=Z.out;have cg:=i.new (W:=[]) (o:=.cache) (a:=s.heap.objs.size+3) ar (vb (λb o e=>⟨o,e⟩) (ha _ _)) λx=>⟨[u,v],0,kg⟩;have y:=cg.2.sub;have off:∀b o,h'.get? b=I o->s.heap.objs.size<=b->b≠s.heap.objs.size+3->c9 (ρ++[(s.heap.objs.size+3,0)]) b:=λb o e au cv p hp=>by
   rcases gb.mp hp with hp|hp
   ·exact Ko i au p hp
   ·rw[bN.mp hp];exact cv
  obtain⟨bS,agZ,f1,g1,_⟩:=Z.one.at;obtain⟨cn,agY,f2,g2,_⟩:=Z.two.at;refine ae ⟨_,h',s.toks,aa,cg.1,cg.2,.inr ⟨_,.zip (d:=0) Z.off Z.zip Z.its Z.out ?_ (d8.at y Z.one) (eD.at y Z.two) (off _ _ Z.zip (ha _ _) Z.off.TOz.symm) (off _ _ g1 (bx _) Z.off.TOi1.symm) (off _ _ g2 (ha _ _) Z.off.TOi2.symm),λb au=>?_⟩⟩
  ·show(ρ++[(s.heap.objs.size+3,0)])[σ.length]? =_;rw[<-i.len,j0 (bx _),ky];rfl
  ·rcases List.mem_cons.mp au with rfl|au
   ·exact vb pj.alive (ha _ _)
   ·rcases List.mem_cons.mp au with rfl|au
    ·exact vb pj.alive (ha _ _)
    ·rcases List.mem_cons.mp au with rfl|au
     ·exact vb pj.alive (bx _)
     ·rw[bN.mp au];exact vb pj.alive (ha _ _)
theorem ah.typeCall{α:Type}{f:Str}{T:String}{aW:List Expr}{p pos:Pos}{k:List V->M α}{R:α->Map->Heap->Value->Prop}(B:i0 tx mg mb ab.heap)(aV:o6 ab C n aW)(aT:e4 A n)(F:c7 ab env ns loc ρ s.heap)(i:Inv ab σ ρ s.heap)(hg:nG ns f=aw)(aZ:tx.fns f=U)
  (dd:qR aW=aw) (ao:f∈p6) (bw:bootBuiltins f=I (.type T))
  (ar:∀l vs bl a7 H bj,Inv ab bl a7 H->Ext [] ρ s.heap a7 H->b8 a7 H vs l->ah ab [] a7 (At H bj s) A R (call (.type T) vs) (k l bl)) :
  ah ab [] ρ s A R (eval (.Call (.Name f p) aW [] pos) env) ((jw C aW ns loc>>=k) σ):=by
 rw[Ht];refine ah.head (v:=.type T) (λQ E h=>yU B F i hg ao aZ bw h) ?_;exact ah.args dd aV aT F i (λQ E dd h=>Gm dd h) λl bl a7 H bj vs bB b4 cw=>ar l vs bl a7 H bj bB b4 cw
theorem ah.CC{α:Type}{f:Str}{T:String}{a:Expr}{p pos:Pos}{k:V->M α}{R:α->Map->Heap->Value->Prop}(B:i0 tx mg mb ab.heap)(aV:cN ab C n a)(aT:e4 A n)(F:c7 ab env ns loc ρ s.heap)(i:Inv ab σ ρ s.heap)(hg:nG ns f=aw)(aZ:tx.fns f=U)
  (dd:sr a=aS) (ao:f∈p6) (bw:bootBuiltins f=I (.type T))
  (ar:∀x v bl a7 H bj,Inv ab bl a7 H->Ext [] ρ s.heap a7 H->Rel a7 H v x->ah ab [] a7 (At H bj s) A R (call (.type T) [v]) (k x bl)) :
  ah ab [] ρ s A R (eval (.Call (.Name f p) [a] [] pos) env) ((ev C a ns loc>>=k) σ):=by
 rw[X6];refine ah.typeCall B (AL aV FZ) aT F i hg aZ (by simp [qR,dd]) ao bw λl vs bl a7 H bj bB b4 cw=>?_
 cases cw with
 |nil=>exact aL
 |cons r rs=>cases rs with
  |nil=>exact ar _ _ bl a7 H bj bB b4 r
  |cons _ _=>exact aL
theorem Ji(mO:∀f,C.nH f=(tx.fns f).isSome)(h:i8 C ns f=t)(aP:t≠0):nG ns f=aw/\tx.fns f=U/\((t=1/\f=("range" : Str))\/(t=2/\f=("enumerate" : Str))\/(t=3/\f=("reversed" : Str))\/(t=4/\f=("zip" : Str))):=by
 unfold i8 at h;by_cases h1:(nG ns f && !C.nH f)=aw
 case neg=>replace h:=aR h1 ▸ h;exact absurd h.symm aP
 replace h:=aK h1 ▸ h;simp only [Bool.and_eq_true,Bool.not_eq_true']at h1;refine⟨h1.1,?_,?_⟩
 ·have:=h1.2;replace this:=(mO ..) ▸ this
  induction e:tx.fns f with
  |none=>rfl
  |some _=>replace this:=e ▸ this;exact kD this
 ·by_cases h2:f=("range" : Str)
  ·replace h:=aK h2 ▸ h;exact .inl ⟨h.symm,h2⟩
  ·replace h:=aR h2 ▸ h;by_cases h3:f=("enumerate" : Str)
   ·replace h:=aK h3 ▸ h;exact .inr (.inl ⟨h.symm,h3⟩)
   ·replace h:=aR h3 ▸ h;by_cases bY:f=("reversed" : Str)
    ·replace h:=aK bY ▸ h;exact .inr (.inr (.inl ⟨h.symm,bY⟩))
    ·replace h:=aR bY ▸ h;by_cases c0:f=("zip" : Str)
     ·replace h:=aK c0 ▸ h;exact .inr (.inr (.inr ⟨h.symm,c0⟩))
     ·replace h:=aR c0 ▸ h;exact absurd h.symm aP
theorem C6(h:sr a=aw):ev C a ns loc=M.bad:=by cases a <;> first|rfl|exact fw h
theorem Sb{f:Str}{as:List Expr}{p pos:Pos}(B:i0 tx mg mb ab.heap)(mO:∀f,C.nH f=(tx.fns f).isSome)(he:cN ab C n (.Call (.Name f p) as [] pos))(has:∀a∈as,cN ab C n a):n7 ab C n (.Call (.Name f p) as [] pos):=
 λenv ns loc σ ρ s A aT F i=>by
 have whole:=Jh he aT F i;rcases as with _|⟨a,_|⟨b,_|⟨c,r⟩⟩⟩
 ·exact whole
 ·refine(?_:ah ab [] ρ s A (mX ab s.heap) _ ((if (i8 C ns f=1\/i8 C ns f=2)\/i8 C ns f=3 then (ev C a ns loc>>=λv=>Jj (i8 C ns f) v) else (ev C (.Call (.Name f p) [a] [] pos) ns loc>>=λv=>eY v)) σ));by_cases t1:(i8 C ns f=1\/i8 C ns f=2)\/i8 C ns f=3
  case neg=>rw[aR t1];exact whole
  rw[aK t1];by_cases dd:sr a=aw
  ·rw[C6 dd];exact aL
  have dd:sr a=aS:=by simpa using dd
  obtain⟨hg,aZ,aP⟩:=Ji (t:=i8 C ns f) mO aa (λq=>by rw[q] at ‹_\/_›;revert ‹_\/_›;decide);have aV:=has a (bN.mpr aa);rcases aP with ⟨aP,rfl⟩|⟨aP,rfl⟩|⟨aP,rfl⟩|⟨aP,rfl⟩
  ·rw[aP];exact ah.CC B aV aT F i hg aZ dd (by decide +kernel) ZJ λx v bl a7 H bj bB b4 r=>ah.rangeCall bB r
  ·rw[aP];exact ah.CC B aV aT F i hg aZ dd (by decide +kernel) ZK λx v bl a7 H bj bB b4 r=>ah.YC bB b4 r
  ·rw[aP];exact ah.CC B aV aT F i hg aZ dd (by decide +kernel) ZI λx v bl a7 H bj bB b4 r=>ah.SV bB b4 r
  ·lia
 ·refine(?_:ah ab [] ρ s A (mX ab s.heap) _ ((if i8 C ns f=4 then (ev C a ns loc>>=λv=>ev C b ns loc>>=λw=>tS v w) else (ev C (.Call (.Name f p) [a,b] [] pos) ns loc>>=λv=>eY v)) σ));by_cases t1:i8 C ns f=4
  case neg=>rw[aR t1];exact whole
  rw[aK t1];by_cases dd:sr a=aw
  ·rw[C6 dd];exact aL
  by_cases Ai:sr b=aw
  ·rw[C6 Ai]
   induction e:ev C a ns loc σ with
   |bad=>rw[dR e];exact aL
   |ok _ _=>rw[a4 e];exact aL
  obtain⟨hg,aZ,aP⟩:=Ji mO t1 (by decide);rcases aP with ⟨aP,rfl⟩|⟨aP,rfl⟩|⟨aP,rfl⟩|⟨aP,rfl⟩ <;> try lia
  rw[X5];refine ah.typeCall B (AL (has a (b9 ..)) (AL (has b (dz _ (bN.mpr aa))) FZ)) aT F i hg aZ (by simp [qR,dd,Ai]) (by decide +kernel) ZH λl vs bl a7 H bj bB b4 cw=>?_
  cases cw with
  |nil=>exact aL
  |cons r rs=>cases rs with
   |nil=>exact aL
   |cons bI rs=>cases rs with
    |nil=>exact ah.Qm bB b4 r bI
    |cons _ _=>exact aL
 ·exact whole
theorem Ll(h:(k==NameKind.free)=aw):k=.free:=by simpa using h
structure aed(env:Env)(names:cC)(cs cl:List (Str×Addr)):Prop where
 sub:∀x c,cl.lookup x=I c->env.cells.lookup x=I c
 all:∀x∈names,x.2=.free->∃c,cl.lookup x.1=I c
 old:∀x,(∃c,cs.lookup x=I c)->∃c,cl.lookup x=I c
theorem Zj(env:Env)(names:cC)(cs:List (Str×Addr))(h1:∀x∈names,x.2=.free->∃c,env.cells.lookup x.1=I c)(h2:∀x c,cs.lookup x=I c->env.cells.lookup x=I c) :
  ∃cl,(forIn names cs λx r=>if (x.2==NameKind.free)=aw then (do let c <-cellOf env x.1;pure (ForInStep.yield ((x.1,c)::r))) else pure (ForInStep.yield r))=(Pure.pure cl:Sem (List (Str×Addr)))/\aed env names cs cl:=by
 induction names generalizing cs with
 |nil=>exact⟨cs,aa,h2,λaf hm=>(nomatch hm),λaf h=>h⟩
 |cons p r aj=>
  obtain⟨x,k⟩:=p;have u0:=λy a9=>h1 y (dz _ a9);rw[List.forIn_cons];by_cases ar:(k==NameKind.free)=aw
  ·obtain⟨c,aA⟩:=h1 (x,k) (b9 ..) (Ll ar);have e:cellOf env x=Pure.pure c:=by unfold cellOf;rw[show env.cells.lookup x=I c from aA]
   rw[aK ar,e];obtain⟨cl,av,q⟩:=aj ((x,c)::cs) u0 λy d hd=>by
    rw[gx]at hd
    split at hd
    ·rename_i a9
     cases hd;rw[beq_iff_eq.mp a9];exact aA
    ·exact h2 y d hd
   refine⟨cl,av,q.sub,λy a9 aZ=>?_,λy a9=>q.old y ?_⟩
   ·rcases List.mem_cons.mp a9 with rfl|a9
    ·exact q.old x ⟨c,by rw[gx,k6]⟩
    ·exact q.all y a9 aZ
   ·obtain⟨d,hd⟩:=a9;rw[gx]
    split
    ·exact⟨_,aa⟩
    ·exact⟨d,hd⟩
  ·rw[aR ar];obtain⟨cl,av,q⟩:=aj cs u0 h2;refine⟨cl,av,q.sub,λy a9 aZ=>?_,q.old⟩;rcases List.mem_cons.mp a9 with rfl|a9
   ·exact absurd (by rw[show k=NameKind.free from aZ];rfl) ar
   ·exact q.all y a9 aZ
theorem Zi(h:∀x∈scope.names,x.2=.free->∃c,env.cells.lookup x.1=I c):∃cl,closureFor scope env=Pure.pure cl/\(∀x c,cl.lookup x=I c->env.cells.lookup x=I c)/\∀x∈scope.names,x.2=.free->∃c,cl.lookup x.1=I c:=by
 refine aB λae=>?_;obtain⟨cl,av,ay,dB,_⟩:=Zj env scope.names [] h λaf aJ e=>by exact a5 e
 refine ae ⟨cl,?_,ay,dB⟩;show((forIn scope.names [] λ(x:Str×NameKind) (r:List (Str×Addr))=>if (x.2==NameKind.free)=aw then (do let c <-cellOf env x.1;pure (ForInStep.yield ((x.1,c)::r))) else pure (ForInStep.yield r))>>=λr=>Pure.pure r)=Pure.pure cl;rw[av];rfl
structure Z4(ns:cC)(loc bP:Loc)(x:Str)(i kO:Nat)(k:NameKind):Prop where
 le:kO<=i
 ex:∃o,bP[i-kO]? =I o/\(k≠.free->o=U)/\(k=.free->∃j,slot ns x=I (j,.cell)/\o=(loc[j]?).getD U)
structure vC(ns:cC)(loc:Loc)(names:cC)(bP:Loc)(σ ag:aN):Prop where
 same:ag=σ
 se:∀x∈names,x.2≠.cell
 fr:∀x∈names,x.2=.free->∃j,slot ns x.1=I (j,.cell)
 slots:∀(x:Str) (i kO:Nat) (k:NameKind),mA names x kO=I (i,k)->Z4 ns loc bP x i kO k
theorem vC.cons(q:vC ns loc r t σ ag)(aA:k≠.cell)(aZ:k=.free->∃j,slot ns x=I (j,.cell)/\o=(loc[j]?).getD U)(ao:k≠.free->o=U):vC ns loc ((x,k)::r) (o::t) σ ag:=by
 refine⟨q.same,λy a9=>?_,λy a9 L9=>?_,λy i kO eo az=>?_⟩
 ·rcases List.mem_cons.mp a9 with rfl|a9
  ·exact aA
  ·exact q.se y a9
 ·rcases List.mem_cons.mp a9 with rfl|a9
  ·obtain⟨j,bh,_⟩:=aZ L9;exact⟨j,bh⟩
  ·exact q.fr y a9 L9
 ·rw[t9]at az
  split at az
  ·rename_i EI
   cases az;rw[beq_iff_eq.mp EI];exact⟨bx _,o,by rw[ky];rfl,ao,aZ⟩
  ·refine aB λae=>?_;obtain⟨hle,o',jt,a8⟩:=q.slots y i (kO+1) eo az;refine ae ⟨HE hle,o',?_,a8⟩;rw[Ja hle,List.getElem?_cons_succ];exact jt
theorem Lu(h:fL ns loc names σ=.ok bP ag):vC ns loc names bP σ ag:=by
 induction names generalizing bP with
 |nil=>cases h;exact⟨aa,λaf hm=>(nomatch hm),λaf hm=>(nomatch hm),λaf aJ b3 eW e=>by exact a5 e⟩
 |cons p r aj=>
  obtain⟨x,k⟩:=p;have step:∀(o:Option V),((fL ns loc r>>=λt=>(pure (o::t):M Loc)) σ=.ok bP ag)->∃t,bP=o::t/\vC ns loc r t σ ag:=λo h=>by
   induction e:fL ns loc r σ with
   |bad=>replace h:=dR e ▸ h;exact ic h
   |ok t bl=>replace h:=a4 e ▸ h;cases h;exact⟨t,aa,aj e⟩
  have plain:k≠.cell->k≠.free->((fL ns loc r>>=λt=>(pure (U::t):M Loc)) σ=.ok bP ag)->vC ns loc ((x,k)::r) bP σ ag:=λh1 h2 h=>by
   obtain⟨t,rfl,q⟩:=step U h;exact q.cons h1 (λe=>absurd e h2) λaf=>aa
  induction k with
  |free=>
   induction az:slot ns x with
   |none=>replace h:=az ▸ EC ▸ h;exact ic h
   |some p=>
    obtain⟨j,eo⟩:=p
    induction eo with
    |cell=>
     replace h:=az ▸ EC ▸ h;obtain⟨t,rfl,q⟩:=step ((loc[j]?).getD U) h;exact q.cons (by decide) (λaf=>⟨j,az,aa⟩) λh=>absurd aa h
    |_=>replace h:=az ▸ EC ▸ h;exact ic h
  |cell=>exact ic h
  | «local» => exact plain (by decide) (by decide) h
  |globalImplicit=>exact plain (by decide) (by decide) h
  |globalExplicit=>exact plain (by decide) (by decide) h
theorem JM:∀{x:Str}{i kO:Nat}{k:NameKind},mA (cx ns names) x kO=I (i,k)->∃sl,mA names x kO=I (i,sl)/\(k=sl\/(sl=.free/\k=.cell)):=by
 induction names with
 |nil=>intro x i kO k h;exact a5 h
 |cons p r aj=>
  intro x i kO k h;obtain⟨y,uz⟩:=p;have e:cx ns ((y,uz)::r)=(y,if (uz == .free&&ns.lookup y==I .cell)=aw then .cell else uz)::cx ns r:=by
   unfold cx;rw[ea];by_cases aA:(uz == .free&&ns.lookup y==I .cell)=aw
   ·dsimp only;rw[aK aA,aK aA]
   ·dsimp only;rw[aR aA,aR aA]
  replace h:=e ▸ h;rw[t9]at h ⊢
  induction fM:(x==y) with
  |true=>
   replace h:=fM ▸ h;cases h;refine⟨uz,aa,?_⟩;by_cases aA:(uz == .free&&ns.lookup y==I .cell)=aw
   ·rw[aK aA];simp only [Bool.and_eq_true]at aA;exact .inr ⟨Ll aA.1,aa⟩
   ·rw[aR aA];exact .inl aa
  |false=>
   replace h:=fM ▸ h;exact aj h
theorem Sj(h:slot names x=I (i,k)):(x,k)∈names:=mem_of_lookup (wq h)
theorem Zc(F:c7 ab env ns loc ρ h)(g4:fL ns loc scope.names σ=.ok bP ag)(ar:scope.kind=.function)
  (gL:∀x c,cl.lookup x=I c->env.cells.lookup x=I c) (Fs:∀x∈scope.names,x.2=.free->∃c,cl.lookup x.1=I c)
  (nV:ey = { newEnv scope c env.globals cl env.qual U .none (I env) env.builtins with scope:=relabel scope env }) (ao:h.Ns c λaf=>U) (hJ:c9 ρ c) (cv:∀x d,env.cells.lookup x=I d->d≠c) :
  c7 ab ey (cx ns scope.names) bP ρ h:=by
 subst nV;refine aB λae=>?_;obtain⟨_,E2,xC,fY⟩:=Lu g4;refine ae ?_;exact {
  names:=by
   show(relabel scope env).names=_;unfold relabel cx;have:env.scope.names=ns:=F.names;simp only [F.kind,Env.kindOf,this];congr 1
   funext p
   obtain⟨y,k⟩:=p;cases k <;> simp
  kind:=ar
  globals:=F.globals
  kk:=F.kk
  vars:=⟨_,ao,λx i v h1 h2=>by
   refine aB λae=>?_;obtain⟨sl,az,jL⟩:=JM h1;rcases jL with rfl|⟨_,aA⟩
   ·obtain⟨_,o,ho,xo,_⟩:=fY x i 0 _ az;replace ho:=(vM ..) ▸ ho;rw[ho,xo (by decide)]at h2;cases h2
   ·refine ae ?_;cases aA⟩
  cell:=λx i h1=>by
   refine aB λae=>?_;obtain⟨sl,az,jL⟩:=JM h1;have mN:=Sj az;have xB:sl=.free:=by
    rcases jL with rfl|⟨h,_⟩
    ·exact absurd aa (E2 _ mN)
    ·exact h
   subst xB;obtain⟨_,o,ho,_,EX⟩:=fY x i 0 _ az;obtain⟨j,bh,rfl⟩:=EX aa;replace ho:=(vM ..) ▸ ho;obtain⟨d,da,av,ay,dB⟩:=F.cell x j bh;obtain⟨f3,jv⟩:=Fs _ mN aa;have:env.cells.lookup x=I f3:=gL _ _ jv;refine ae ?_;replace this:=(av ..) ▸ this;cases this;refine⟨d,da,jv,ay,λv aM=>dB v ?_⟩;replace aM:=(ho ..) ▸ aM
   induction e:loc[j]? with
   |none=>replace aM:=(e ..) ▸ aM;cases aM
   |some u=>replace aM:=(e ..) ▸ aM;exact aM
  live:=λx d e=>F.live x d (gL _ _ e)
  kI:=hJ
  h5:=λx d e=>⟨cv x d (gL _ _ e),(F.h5 x d (gL _ _ e)).2⟩
  apart:=λx y d av ay=>F.apart x y d (gL _ _ av) (gL _ _ ay) }
end
theorem NF:∀gens:List Comprehension,(∃t it ifs,gens=[⟨t,it,ifs,0⟩])\/∀(C:Cfg) (elt:Expr) (scope:Scope) (p:Pos) (ns:cC) (loc:Loc),ev C (.ListComp elt gens scope p) ns loc=M.bad
 |[]=>.inr λaf aJ b3 eW nd v7=>aa
 |[⟨t,it,ifs,.ofNat 0⟩]=>.inl ⟨t,it,ifs,aa⟩
 |[⟨t,it,ifs,.ofNat (k+1)⟩]=>.inr λaf aJ b3 eW nd v7=>aa
 |[⟨t,it,ifs,.negSucc k⟩]=>.inr λaf aJ b3 eW nd v7=>aa
 |⟨_,_,_,.ofNat 0⟩::_::_=>.inr λaf aJ b3 eW nd v7=>aa
 |⟨_,_,_,.ofNat (_+1)⟩::_::_=>.inr λaf aJ b3 eW nd v7=>aa
 |⟨_,_,_,.negSucc _⟩::_::_=>.inr λaf aJ b3 eW nd v7=>aa
section
variable {au:Heap}{wr:List Addr}{aU eJ:Map}{sb:Shared}{mg mb:Str->Option Value}
variable {ey:Env}{fo:cC}{loc:Loc}{n:Nat}
theorem Y9
  (h:wpAny (model ab.prog ab.w) A (pyNext it) (λr s₁=>match r with
   |none=>R (.ok .next) s₁
   |some v=>wpAny (model ab.prog ab.w) A (letOwnedTupleGo target it v) (λaf wh=>wpAny (model ab.prog ab.w) A (assign target env v) (λaf wg=>
     wpAny (model ab.prog ab.w) A (forIn ifs aw λc r=>if r=aw then do let ok <-isTrue c env (eval c env);pure (ForInStep.yield ok) else pure (ForInStep.yield r)) (λok lq=>
      if ok=aw then wpAny (model ab.prog ab.w) A (eval elt env) (λx I9=>
       wpAny (model ab.prog ab.w) A (call (.builtin "list.append") [acc,x]) (λaf I8=>codeAny (model ab.prog ab.w) A (.compLoop (.ListComp elt [⟨target,iter,ifs,0⟩] scope pos) 0 it acc env) R I8) (notedBy (model ab.prog ab.w) A env λx s'=>R (.error x) s') I9) (notedBy (model ab.prog ab.w) A env λx s'=>R (.error x) s') lq
      else codeAny (model ab.prog ab.w) A (.compLoop (.ListComp elt [⟨target,iter,ifs,0⟩] scope pos) 0 it acc env) R lq) (notedBy (model ab.prog ab.w) A env λx s'=>R (.error x) s') wg) (notedBy (model ab.prog ab.w) A env λx s'=>R (.error x) s') wh) (notedBy (model ab.prog ab.w) A env λx s'=>R (.error x) s') s₁) (notedBy (model ab.prog ab.w) A env λx s'=>R (.error x) s') s) :
  codeAny (model ab.prog ab.w) A (.compLoop (.ListComp elt [⟨target,iter,ifs,0⟩] scope pos) 0 it acc env) R s:=by
 refine HA ?_;refine(?_:wpAny _ A ((compTurn (.ListComp elt [⟨target,iter,ifs,0⟩] scope pos) 0 it acc env).onRaise (λx=>do noteFrame x env;theTreesLotGoes x)) _ _ s);refine Pt ?_;rw[compTurn_list];refine a0 (yA (a0 (ei h (λr s₁ dE=>?_) λaf aJ h'=>h')))
 induction r with
 |none=>exact cz dE
 |some v=>
  refine a0 (ei dE (λaf wh EG=>?_) λaf aJ h'=>h');refine a0 (ei EG (λaf wg ft=>a0 (ei ft (λok lq fi=>?_) λaf aJ h'=>h')) λaf aJ h'=>h')
  induction ok with
  |false=>exact cz ⟨aa,fi⟩
  |true=>
   exact a0 (a0 (ei fi (λx I9 uI=>a0 (ei uI (λaf I8 ja=>cz (cz ⟨aa,ja⟩)) λaf aJ h'=>h')) λaf aJ h'=>h'))
variable (ab C n) in
def oZ(ifs:List Expr):Prop:=∀(env:Env) (ns:cC) (loc:Loc) (σ:aN) (ρ:Map) (s:Shared) (A:Around),e4 A n->c7 ab env ns loc ρ s.heap->Inv ab σ ρ s.heap ->
 ah ab [] ρ s A vu (forIn ifs aw λc r=>if r=aw then do let ok <-isTrue c env (eval c env);pure (ForInStep.yield ok) else pure (ForInStep.yield r)) (tests C ifs ns loc σ)
theorem Ru:oZ ab C n []:=λenv ns loc σ ρ s A aT F i=>ah.ret i aa
theorem Rt(h:ig ab C n e):oZ ab C n [e]:=λenv ns loc σ ρ s A aT F i=>
 ah.wrap (λaf aJ=>wpAny_tests_one) (h env ns loc σ ρ s A aT F i)
theorem Rv:oZ ab C n (e::f::r):=λenv ns loc σ ρ s A aT F i=>aL
structure mm(ab:eG)(eJ:Map)(au:Heap)(ey:Env)(fo:cC)(D:Addr)(loc:Loc)(l:List V)(σ:aN)(ρ:Map)(h:Heap):Prop where
 inv:Inv ab σ ρ h
 gu:c7 ab ey fo loc ρ h
 ext:Ext [] eJ au ρ h
 acc:∃vs k,h.get? D=I (en vs k)/\b8 ρ h vs l
 off:c9 ρ D
structure tI(ab:eG)(au:Heap)(ey:Env)(wr:List Addr)(D:Addr):Prop where
 deadW:∀b∈wr,au.get? b=U
 rm:au.get? D=U
 vc:au.get? ey.locals=U
 oG:∀b∈wr,pF ey b
 wR:pF ey D
 base:∀b o,ab.get? b=I o->∃o',au.get? b=I o'
 Hs:D∉wr
theorem tI.Bd(K:tI ab au ey wr D)(h:au.get? b=U):ab.get? b=U:=by
 induction e:ab.get? b with
 |none=>rfl
 |some o=>obtain⟨o',aG⟩:=K.base _ _ e;rw[h]at aG;exact a5 aG
theorem mm.but(K:tI ab au ey wr D)(x:mm ab eJ au ey fo D loc l σ ρ h)(ar:hx wr h h')(ho:Own wr ρ h):mm ab eJ au ey fo D loc l σ ρ h' where
 inv:=x.inv.but ar ho (λb au=>K.Bd (K.deadW b au))
 gu:=x.gu.but ar ho K.oG
 ext:=x.ext.but ar K.deadW
 acc:=by
  obtain⟨vs,k,g,r⟩:=x.acc;exact⟨vs,k,ar.1 _ _ K.Hs g,r.sub (ar.sub ho)⟩
 off:=x.off
theorem mm.step(K:tI ab au ey wr D)(x:mm ab eJ au ey fo D loc l σ ρ h)(g6:∀b∈W,b=ey.locals)(i:Inv ab ag aU h')(e:Ext W ρ h aU h')(F:c7 ab ey fo bP aU h') :
  mm ab eJ au ey fo D bP l ag aU h' where
 inv:=i
 gu:=F
 ext:=((x.ext.weak (W':=W) λaf hm=>nomatch hm).trans e).weak λb hm=>.inr (by rw[g6 b hm];exact K.vc)
 acc:=by
  refine aB λae=>?_;obtain⟨vs,k,g,r⟩:=x.acc;exact ae ⟨vs,k,e.keep _ _ g (λhm=>K.wR.1 (g6 _ hm)) x.off,r.ext e⟩
 off:=by
  refine aB λae=>?_;obtain⟨vs,k,g,r⟩:=x.acc;exact ae (c9.ext e g x.off)
theorem mm.push(K:tI ab au ey wr D)(x:mm ab eJ au ey fo D loc l σ ρ s.heap)(j4:g9 ab i ρ s.heap b7 it wr)(r:Rel ρ s.heap v a)(hl:l.length<=sizeLine)
  (h:∀h',mm ab eJ au ey fo D loc (l++[a]) σ ρ h'->g9 ab i ρ h' b7 it wr->Q .none { s with heap:=h' }):wpAny (model ab.prog ab.w) A (call (.builtin "list.append") [.ref D,v]) Q E s:=by
 refine aB λae=>?_;obtain⟨vs,k,g,fA⟩:=x.acc;refine ae (aet ⟨k,g⟩ (λh' hg ar=>?_) (by rw[List.size_toArray,fA.length];exact hl));obtain⟨gK,hg⟩:=hg;have hg:h'.get? D=I (en (vs++[v]) gK):=by simpa [en] using hg
 have jL:∀b o,s.heap.get? b=I o->b∉[D]->h'.get? b=I o:=λb o e au=>ar.extBut b o (λeq=>au (bN.mpr eq)) e;have ak:Ext [D] ρ s.heap ρ h':=Ext.of_keep (λb hm=>by rw[bN.mp hm];exact x.off) jL λb o e hm=>by
  rw[bN.mp hm]at e ⊢;replace e:=g ▸ e;cases e;exact⟨_,hg,UT⟩
 refine h h' ⟨x.inv.keep ak (λb hm=>by rw[bN.mp hm];exact⟨x.off,K.Bd K.rm⟩) jL,x.gu.ext ak (λb hm=>by rw[bN.mp hm];exact K.wR),?_,⟨vs++[v],gK,hg,(fA.append (.cons r .nil)).ext ak⟩,x.off⟩
  (j4.ext ak λb au hm=>K.Hs (bN.mp hm ▸ au))
 exact((x.ext.weak (W':=[D]) λaf hm=>nomatch hm).trans ak).weak λb hm=>.inr (by rw[bN.mp hm];exact K.rm)
def aec(ab:eG)(eJ:Map)(au:Heap)(sb:Shared)(ey:Env)(fo:cC)(D:Addr)(qW:List V):Res (List V)->Result->Shared->Prop
 |.bad,_,_=>True
 |.ok l ag,r,s'=>r=.ok .next/\∃bP aU hT hF,s'=(At hT hF sb)/\mm ab eJ au ey fo D bP (qW++l) ag aU hT
theorem Za(aT:e4 A n)(K:tI ab au ey wr D)(aP:oZ ab C n ifs)(he:cN ab C n elt)(mK:jm b7 target=aw) :
  ∀(k i:Nat) (loc:Loc) (qW:List V) (σ:aN) (ρ:Map) (H:Heap) (bj:Nat) (r:Res (List V)),mm ab eJ au ey fo D loc qW σ ρ H->g9 ab i ρ H b7 it wr ->
   compLoop b7 (bindTo (fJ fo) target) (tests C ifs fo) (ev C elt fo) k i loc σ=r->r≠.bad->qW.length+k<=sizeLine+1 ->
   codeAny (model ab.prog ab.w) A (.compLoop (.ListComp elt [⟨target,iter,ifs,0⟩] scope pos) 0 it (.ref D) ey) (aec ab eJ au sb ey fo D qW r) (At H bj sb):=by
 intro k
 induction k with
 |zero=>
  intro _ _ _ _ _ _ _ _ _ _ h ao _;exact absurd h.symm ao
 |succ k aj=>
  intro i loc qW σ ρ H bj r x j4 h ao hl
  induction df:b7.at σ i with
  |none=>rw[NG df]at h;exact absurd h.symm ao
  |some o=>
   rw[A3 df]at h;refine Y9 (s:=At H bj sb) (j4.next (s:=At H bj sb) aT.handled x.inv df mK (λh' ho ar=>?_) λv val h' hF aM ar Fe=>?_)
   ·subst ho;subst h;exact⟨aa,loc,ρ,h',bj,aa,by rw[vU];exact x.but K ar j4.own⟩
   ·subst aM;refine Fe _ _ λgi uQ fA Ck=>?_;have mw:=x.but K uQ j4.own;have h1:=ah.bindTo (s:=At gi hF sb) (t:=target) (R6 (ab:=ab) (env:=ey) (ns:=fo) (K.Bd K.vc)) aT.handled mw.gu mw.inv fA
    induction lQ:bindTo (fJ fo) target v loc σ with
    |bad=>exact absurd ((dR lQ).symm.trans h).symm ao
    |ok iw bl=>
    replace h:=(a4 lQ).symm.trans h;rw[lQ]at h1;refine ei h1 (λaf s' hp=>?_) λaf aJ f=>f.elim;obtain⟨a7,ed,eB,rfl,bB,jN,jD⟩:=hp;have oq:=mw.step K (λb hm=>bN.mp hm) bB jN jD;have h2:=aP ey fo iw bl a7 (At ed eB sb) A aT oq.gu oq.inv
    induction sQ:tests C ifs fo iw bl with
    |bad=>exact absurd ((dR sQ).symm.trans h).symm ao
    |ok ok dt=>
    replace h:=(a4 sQ).symm.trans h;rw[sQ]at h2;refine ei h2 (λuh s' hp=>?_) λaf aJ f=>f.elim;obtain⟨eI,fx,fT,rfl,eS,ri,nP⟩:=hp;have nP:uh=ok:=nP;subst nP;have j3:=oq.step K (W:=[]) (λb hm=>absurd hm (List.not_mem_nil)) eS ri (oq.gu.gB ri);have qz:=(Ck.ext jN λb au hm=>(K.oG b au).1 (bN.mp hm)).ext ri λb au hm=>absurd hm List.not_mem_nil
    induction uh with
    |false=>exact aj (i+1) iw qW dt eI fx fT r j3 qz h ao (by exact cb 0x10980520020084C0084A020021 aa hl)
    |true=>
     have h:(ev C elt fo iw>>=λx=>compLoop b7 (bindTo (fJ fo) target) (tests C ifs fo) (ev C elt fo) k (i+1) iw>>=λr=>pure (x::r)) dt=r:=h;have h3:=he ey fo iw dt eI (At fx fT sb) A aT j3.gu j3.inv
     induction Fv:ev C elt fo iw dt with
     |bad=>exact absurd ((dR Fv).symm.trans h).symm ao
     |ok a jh=>
     replace h:=(a4 Fv).symm.trans h;rw[Fv]at h3;refine ei h3 (λy s' hp=>?_) λaf aJ f=>f.elim;obtain⟨vZ,BG,we,rfl,sq,FY,Dn⟩:=hp;have Qt:=qz.ext FY λb au hm=>absurd hm List.not_mem_nil;refine mm.push (s:=At BG we sb) K (j3.step K (W:=[]) (λb hm=>absurd hm (List.not_mem_nil)) sq FY (j3.gu.gB FY)) Qt Dn (by exact cb 0x31020084C0084A020021 aa hl) λh' Qr Qs=>?_
     induction Fu:compLoop b7 (bindTo (fJ fo) target) (tests C ifs fo) (ev C elt fo) k (i+1) iw jh with
     |bad=>exact absurd ((dR Fu).symm.trans h).symm ao
     |ok l qx=>
      have:=(a4 Fu).symm.trans h;subst this;refine BV ((λbI h' gg=>aj (i+1) iw (qW++[a]) jh vZ _ we bI Qr Qs h' gg (by rw[dp,List.length_singleton];exact cb 0x84C02842400020084C0084A020021 aa hl)) _ Fu nofun) λbI s' aX=>?_;obtain⟨c0,KW,Ca,Hi,CI,dH,X⟩:=aX;rw[pg]at X;exact⟨c0,KW,Ca,Hi,CI,dH,X⟩
theorem Zb:∀{k i:Nat}{loc:Loc}{σ:aN}{l:List V}{ag:aN},compLoop b7 bt tt eF k i loc σ=.ok l ag->l.length<k:=by
 intro k
 induction k with
 |zero=>
  intro _ _ _ _ _ h;exact ic h
 |succ k aj=>
  intro i loc σ l ag h
  induction df:b7.at σ i with
  |none=>rw[NG df]at h;exact ic h
  |some o=>
   rw[A3 df]at h
   induction o with
   |none=>cases h;exact qm _
   |some v=>
    obtain⟨iw,bl,_,h⟩:=p8 h;obtain⟨b,dt,_,h⟩:=p8 h
    induction b with
    |false=>exact yG (aj h)
    |true=>
     obtain⟨y,jh,_,h⟩:=p8 (m:=eF iw) h;obtain⟨r,qx,bY,h⟩:=p8 h;cases h;exact PA (aj bY)
end
section
variable {au:Heap}{wr:List Addr}{aU eJ:Map}{sb:Shared}{ag:aN}{mg mb:Str->Option Value}
variable {ey:Env}{fo:cC}{loc:Loc}{n:Nat}
def vf(C:Cfg)(elt target iter:Expr)(ifs:List Expr)(scope:Scope)(ns:cC)(loc:Loc):M V:=do
 let s <-src C iter ns loc (ev C iter ns loc)
 if jm s target&&hs scope.kind scope.names then do
  let n <-s.count
  if n<=sizeLine then do
   let bP <-fL ns loc scope.names
   let l <-compLoop s (bindTo (fJ (cx ns scope.names)) target) (tests C ifs (cx ns scope.names)) (ev C elt (cx ns scope.names)) (n+1) 0 bP
   cH (.list l)
  else M.bad
 else M.bad
theorem Y7(h:hs k names=aw):k=.function/\∀x∈names,x.2=.local->names.lookup x.1=I .local:=by
 unfold hs at h;simp only [Bool.and_eq_true,List.all_eq_true]at h;obtain⟨h1,h2⟩:=h;refine⟨?_,λx ak hl=>?_⟩
 ·cases k <;> first|rfl|exact fw h1
 ·have:=h2 x ak;replace this:=hl ▸ this;dsimp only at this
  induction e:names.lookup x.1 with
  |none=>replace this:=e ▸ this;exact fw this
  |some eo=>replace this:=e ▸ this;cases eo <;> first|rfl|exact fw this
theorem GO{α:Type}{f:aN->Option α}{a:α}{ag:aN}(h:c3 f σ=.ok a ag):ag=σ/\f σ=I a:=by
 replace h:=(hP ..) ▸ h
 induction e:f σ with
 |none=>replace h:=(e ..) ▸ h;exact ic h
 |some b=>replace h:=(e ..) ▸ h;cases h;exact⟨aa,aa⟩
theorem Lg{α:Type}{c:Prop}[Decidable c] {m:M α}(h:(if c then m else M.bad) σ≠.bad):c/\(if c then m else M.bad) σ=m σ:=by
 by_cases aA:c
 ·rw[aK aA];exact⟨aA,aa⟩
 ·rw[aR aA]at h;exact absurd aa h
theorem NC(kO:Inv ab ag ρ au)(i:Inv ab σ aU H)(x:Ext W ρ au aU H)(ao:H.Ns c m)(off:c9 aU c)(hd:au.get? c=U)(az:Heap.SameBut c H h') :
  Inv ab σ aU h'/\Ext W ρ au aU h'/\hx [c] H h'/\Own [c] aU H:=by
 have own:Own [c] aU H:=λb au=>by
  rw[bN.mp au];refine aB λae=>?_;obtain⟨o,ho,d⟩:=zH ao;refine ae ⟨o,ho,.inl ⟨off,λvs n e=>?_⟩⟩;refine aB λae=>?_;obtain⟨_,_,d⟩:=d;refine ae ?_;replace d:=e ▸ d;cases d
 have ar:hx [c] H h':=own.kN off az.extBut;have dead:∀b∈[c],au.get? b=U:=λb Fw=>by rw[bN.mp Fw];exact hd
 refine⟨i.but ar own (λb Fw=>?_),x.but ar dead,ar,own⟩
 induction e:ab.get? b with
 |none=>rfl
 |some o=>have:=kO.base _ _ e;replace this:=dead b Fw ▸ this;exact a5 this
theorem Jr(h:∀aW k p,iter≠.Set aW k p):∀x,foldedSetIterable iter env x=pure x:=by
 intro x;cases iter <;> first|rfl|exact absurd aa (h _ _ _)
theorem Sa:src C (.Set aW k p) ns loc (ev C (.Set aW k p) ns loc) σ=.bad:=rfl
def CompEnd(ab:eG)(A:Around)(ρ:Map)(s:Shared)(E:Value->Shared->Prop)(use:Option (Value->Sem Unit))(Q:Value->Shared->Prop)(r:Res V):Prop:=
 ∀v ag,r=.ok v ag->∀D c f aU H bj m,Inv ab ag aU H->Ext [] ρ s.heap aU H->Rel aU H (.ref D) v->H.Ns c m->c9 aU c->s.heap.get? c=U->compPost (model ab.prog ab.w) A E use Q (.ref D) c (.ok f) (At H bj s)
theorem ND{elt target iter:Expr}{ifs:List Expr}{scope:Scope}{pos:Pos}{r:Res V}{use:Option (Value->Sem Unit)}{Q:Value->Shared->Prop}{E:Value->Shared->Prop}{pp:Pos}(aT:e4 A n)(F:c7 ab env ns loc ρ s.heap)(dD:Inv ab σ ρ s.heap)
  (az:n7 ab C n iter) (aP:oZ ab C n ifs) (he:cN ab C n elt) (h:vf C elt target iter ifs scope ns loc σ=r) (aX:r≠.bad)
  (xE:CompEnd ab A ρ s E use Q r) :
  wpAny (model ab.prog ab.w) A (comprehension (.ListComp elt [⟨target,iter,ifs,0⟩] scope pos) scope env pp (newList []) aS (eval iter env) use) Q E s:=by
 subst h;have q6:=az env ns loc σ ρ s A aT F dD;by_cases oN:∃aW k p,iter=.Set aW k p
 ·refine aB λae=>?_;obtain⟨aW,k,p,rfl⟩:=oN;refine ae ?_;exact absurd aa aX
 refine aB λae=>?_;obtain⟨b7,bl,h1,av⟩:=ya aX;refine ae ?_;refine keep λP ae=>?_;replace av:vf C elt target iter ifs scope ns loc σ=_:=av;obtain⟨aA,ay⟩:=Lg λe=>aX (av.trans e);replace av:=av.trans ay;clear ay;obtain⟨N,dt,h2,dB⟩:=ya λe=>aX (av.trans e);replace av:=av.trans dB;clear dB;obtain⟨rfl,xM⟩:=GO h2;obtain⟨cg,eM⟩:=Lg λe=>aX (av.trans e);replace av:=av.trans eM;clear eM;obtain⟨bP,jh,h3,mS⟩:=ya λe=>aX (av.trans e);replace av:=av.trans mS;clear mS;replace aX:=λe=>aX (av.trans e);have Wr:∀l qx,compLoop b7 (bindTo (fJ (cx ns scope.names)) target) (tests C ifs (cx ns scope.names)) (ev C elt (cx ns scope.names)) (N+1) 0 bP jh=.ok l qx->l.length<=sizeLine:=λl qx h=>by
  have:=Zb h;exact cb 0xA608021200213002129021 aa cg this
 simp only [Bool.and_eq_true]at aA;obtain⟨mK,Ws⟩:=aA;obtain⟨ra,VJ⟩:=Y7 Ws;obtain⟨rfl,E2,xC,fY⟩:=Lu h3;obtain⟨cl,Wt,gL,Fs⟩:=Zi (env:=env) (scope:=scope) λx ak aZ=>by
  obtain⟨j,bh⟩:=xC x ak aZ;obtain⟨c,o,e,_⟩:=F.cell x.1 j bh;exact⟨c,e⟩
 refine ae (wpAny_comprehension_free (g:=⟨target,iter,ifs,0⟩) (gs:=[]) (cl:=cl) aa (Jr (λaW k p e=>oN ⟨aW,k,p,e⟩:∀aW k p,iter≠.Set aW k p)) Wt ra VJ ?_);rw[h1]at q6;refine ei q6 (λQp s₁ hp=>?_) λaf aJ f=>f.elim;refine aB λae=>?_;obtain⟨a7,ed,eB,rfl,bB,b4,cw⟩:=hp;refine ae ?_;refine mX.iter (s:=At ed eB s) bB b4 cw λit wr ft xt j4 uW=>?_;have eS:=bB.keeps xt;have eX:Ext [] ρ s.heap a7 ft:=b4.trans (Ext.of_keeps xt);have vE:c7 ab env ns loc a7 ft:=F.gB eX;refine qj (T := "list") (wpAny_newFunctionEnv E2 (by intro y a9;simp at a9) (λfi EZ Aj=>?_) ra);dsimp only at EZ Aj ⊢;have AD:∀b o,ft.get? b=I o->fi.get? b=I o:=λb o e=>Aj.extBut b o (gv (Heap.lt_size (fH _ e))) (fH _ (fH _ e));generalize AA:ft.push { cls:=.type "list",dict:=U,data:=.seq ([]:List Value).toArray }=m2 at EZ Aj ⊢;have Mw:ft.objs.size≠m2.objs.size:=by rw[<-AA,vX];exact gv (jY _)
 have rm:=wt eX.alive;have AZ:ft.get? m2.objs.size=U:=by
  induction e:ft.get? m2.objs.size with
  |none=>rfl
  |some o=>exact absurd (Heap.lt_size e) (by rw[(by rw[<-AA,vX]:m2.objs.size=ft.objs.size+1)];exact vN.mpr (gH _))
 have vc:s.heap.get? m2.objs.size=U:=by
  induction e:s.heap.get? m2.objs.size with
  |none=>rfl
  |some o=>obtain⟨o',aG⟩:=eX.alive _ _ e;rw[AZ]at aG;exact a5 aG
 have wR:c9 a7 ft.objs.size:=eS.mF;have h5:c9 a7 m2.objs.size:=λp hp=>by
  obtain⟨bS,av⟩:=eS.alive hp;exact λe=>(by rw[<-e,AZ]at av;exact a5 av)
 have ad5:c7 ab env ns loc a7 fi:=vE.gB (Ext.of_keeps AD);generalize nV:({ newEnv scope m2.objs.size env.globals cl env.qual U .none (I env) (builtinsNs) with scope:=relabel scope env }:Env)=ey;have xG:ey.locals=m2.objs.size:=by rw[<-nV];rfl
 have Wu:ey.cells=cl:=by rw[<-nV];rfl
 have ad7:c7 ab ey (cx ns scope.names) bP a7 fi:=Zc ad5 h3 ra gL Fs (by rw[<-nV];rfl) EZ h5 λx d hd e=>by
  refine aB λae=>?_;obtain⟨_,o,ho,_⟩:=vE.live x d hd;refine ae ?_;rw[e,AZ]at ho;exact a5 ho
 have Mi:∀y c,ey.cells.lookup y=I c->∃o,s.heap.get? c=I o:=λy c aA=>by
  rw[Wu]at aA;refine aB λae=>?_;obtain⟨_,o,ho,_⟩:=F.live y c (gL _ _ aA);refine ae ?_;exact⟨o,ho⟩
 have K:tI ab s.heap ey wr ft.objs.size:=
  {deadW:=uW
   rm:=rm
   vc:=by rw[xG];exact vc
   oG:=λb au=>by
    refine⟨λe=>?_,λy c aA e=>?_⟩
    ·refine aB λae=>?_;obtain⟨o,ho,_⟩:=j4.own b au;refine ae ?_;rw[e,xG,AZ]at ho;exact a5 ho
    ·obtain⟨o,ho⟩:=Mi y c aA;rw[<-e,uW b au]at ho;exact a5 ho
   wR:=⟨by rw[xG];exact Mw,λy c aA e=>by
     obtain⟨o,ho⟩:=Mi y c aA;rw[<-e,rm]at ho;exact a5 ho⟩
   base:=λb o e=>⟨o,dD.base b o e⟩
   Hs:=λhm=>by
    refine aB λae=>?_;obtain⟨o,ho,_⟩:=j4.own _ hm;refine ae ?_;exact absurd (Heap.lt_size ho) (vO _) }
 have X:mm ab ρ s.heap ey (cx ns scope.names) ft.objs.size bP [] jh a7 fi:=
  {inv:=(eS.keeps AD)
   gu:=ad7
   ext:=eX.trans (Ext.of_keeps AD)
   acc:=⟨[],0,(Aj.extBut _ _ (by rw[<-AA,vX];exact gv (jY _)) (fH _ (AA ▸ gR _ aa)):fi.get? ft.objs.size=I (en [] 0)),.nil⟩
   off:=wR }
 have qz:=j4.ext (Ext.of_keeps (W:=[]) AD) λb au hm=>absurd hm List.not_mem_nil;have LY:compLoop b7 (bindTo (fJ (cx ns scope.names)) target) (tests C ifs (cx ns scope.names)) (ev C elt (cx ns scope.names)) (N+1) 0 bP jh≠.bad:=λe=>aX (dR e);have fin:∀bj,codeAny (model ab.prog ab.w) A (.compLoop (.ListComp elt [⟨target,iter,ifs,0⟩] scope pos) 0 it (.ref ft.objs.size) ey) (compPost (model ab.prog ab.w) A E use Q (.ref ft.objs.size) m2.objs.size) (At fi bj s):=λbj=>by
  refine BV ((λbj=>Za (iter:=iter) (scope:=scope) (pos:=pos) (sb:=s) aT K aP he mK (N+1) 0 bP [] jh a7 fi bj _ X qz aa LY (by simpa using cg)) bj) λr s' pO=>?_
  induction bY:compLoop b7 (bindTo (fJ (cx ns scope.names)) target) (tests C ifs (cx ns scope.names)) (ev C elt (cx ns scope.names)) (N+1) 0 bP jh with
  |bad=>exact absurd bY LY
  |ok l qx=>
   rw[bY]at pO;refine aB λae=>?_;obtain⟨rfl,KW,Ca,Hi,CI,rfl,te⟩:=pO;obtain⟨vs,k,g,fA⟩:=te.acc;obtain⟨m,ao,_⟩:=te.gu.vars;rw[xG]at ao;have Kr:=te.gu.kI;rw[xG]at Kr;refine ae ?_;refine xE _ _ (av.trans (a4 bY)) _ _ _ (Ca++[(ft.objs.size,0)]) Hi CI m (te.inv.grow (.snoc (oI g)) (λaf aJ e=>e) te.off (K.Bd rm) ⟨vs,k,g,by rw[fA.length];simpa using (Wr l qx bY),fA.sub (.snoc (oI g))⟩) (te.ext.grow rm) (.ref (d:=0) ?_) ao (λp hp=>?_) vc
   ·rw[<-te.inv.len,j0 (bx _),ky];rfl
   ·rcases gb.mp hp with hp|hp
    ·exact Kr p hp
    ·rw[bN.mp hp];exact Mw.symm
 exact codeAny_compStart_list (fin _) (qz.self (s:=At fi _ s) (fin _))
end
section
variable {au:Heap}{wr:List Addr}{aU eJ:Map}{sb:Shared}{mg mb:Str->Option Value}
variable {ey:Env}{fo:cC}{loc:Loc}{n:Nat}
theorem Yc(az:n7 ab C n iter)(aP:oZ ab C n ifs)(he:cN ab C n elt):cN ab C n (.ListComp elt [⟨target,iter,ifs,0⟩] scope pos):=
 λenv ns loc σ ρ s A aT F i=>by
 refine(?_:ah ab [] ρ s A cW _ (vf C elt target iter ifs scope ns loc σ))
 induction h:vf C elt target iter ifs scope ns loc σ with
 |bad=>exact aL
 |ok v ag=>
  refine ND (use:=U) aT F i az aP he h nofun (λaf aJ e D c f aU H bj m fs il r ao off hd=>⟨m,ao,λh' ke=>?_⟩);cases e;refine aB λae=>?_;obtain⟨eS,eX,ar,own⟩:=NC i fs il ao off hd ke;exact ae ⟨aU,h',bj,aa,eS,eX,r.sub (ar.sub own)⟩
def Om(ρ:Map)(h:Heap):bE->Flow->Prop
 |.next,f=>f=.next
 |.brk,f=>f=.brk
 |.cont,f=>f=.cont
 |.ret v,f=>∃val,f=.ret val/\Rel ρ h val v
def gE(ab:eG)(env:Env)(ns:cC):bE×Loc->Map->Heap->Flow->Prop:=λr ρ h f=>Om ρ h r.1 f/\c7 ab env ns r.2 ρ h
variable (ab C n) in
def jV(st:Stmt):Prop:=∀(env:Env) (ns:cC) (loc:Loc) (σ:aN) (ρ:Map) (s:Shared) (A:Around),e4 A n->(∀b∈eg env,ab.get? b=U)->c7 ab env ns loc ρ s.heap->Inv ab σ ρ s.heap ->
 ah ab (eg env) ρ s A (gE ab env ns) (exec st env) (ex C st ns loc σ)
variable (ab C n) in
def ml(nq:List Stmt):Prop:=∀(env:Env) (ns:cC) (loc:Loc) (σ:aN) (ρ:Map) (s:Shared) (A:Around),e4 A n->(∀b∈eg env,ab.get? b=U)->c7 ab env ns loc ρ s.heap->Inv ab σ ρ s.heap ->
 ah ab (eg env) ρ s A (gE ab env ns) (execs nq env) (dw C nq ns loc σ)
theorem ah.gu{α β:Type}{t:Sem β}{r:Res α}{R:α->Map->Heap->β->Prop}(F:c7 ab env ns loc ρ s.heap)(h:ah ab [] ρ s A R t r):ah ab W ρ s A (λv aU h' b=>R v aU h' b/\c7 ab env ns loc aU h') t r:=by
 induction r with
 |bad=>exact aL
 |ok v ag=>
  refine ei h (λb s' hp=>?_) λaf aJ x=>x;obtain⟨a7,H,bj,rfl,bB,b4,cw⟩:=hp;exact⟨a7,H,bj,aa,bB,b4.weak λaf hm=>absurd hm List.not_mem_nil,cw,F.gB b4⟩
theorem cN.st{e:Expr}(he:cN ab C n e)(aT:e4 A n)(F:c7 ab env ns loc ρ s.heap)(i:Inv ab σ ρ s.heap):ah ab W ρ s A (λv aU h' b=>Rel aU h' b v/\c7 ab env ns loc aU h') (eval e env) (ev C e ns loc σ):=ah.gu F (he env ns loc σ ρ s A aT F i)
theorem ig.st{e:Expr}(he:ig ab C n e)(aT:e4 A n)(F:c7 ab env ns loc ρ s.heap)(i:Inv ab σ ρ s.heap):ah ab W ρ s A (λv aU h' b=>b=v/\c7 ab env ns loc aU h') (isTrue e env (eval e env)) (ep C e ns loc (ev C e ns loc) σ):=ah.gu F (he env ns loc σ ρ s A aT F i)
theorem XI:ml ab C n []:=λenv ns loc σ ρ s A aT aZ F i=>ah.ret i ⟨aa,F⟩
theorem XJ{st:Stmt}{r:List Stmt}(h:jV ab C n st)(aX:ml ab C n r):ml ab C n (st::r):=λenv ns loc σ ρ s A aT aZ F i=>by
 rw[execs_cons];show ah ab (eg env) ρ s A (gE ab env ns) _ ((ex C st ns loc>>=λx=>andThen x (dw C r ns)) σ);refine ah.bind (h env ns loc σ ρ s A aT aZ F i) λa bl a7 H bj f bB b4 cw=>?_;obtain⟨fl,iw⟩:=a;obtain⟨hj,jD⟩:=cw
 induction fl with
 |next=>cases hj;exact aX env ns iw bl a7 _ A aT aZ jD bB
 |brk=>cases hj;exact ah.ret bB ⟨aa,jD⟩
 |cont=>cases hj;exact ah.ret bB ⟨aa,jD⟩
 |ret v=>
  obtain⟨val,rfl,fA⟩:=hj;exact ah.ret bB ⟨⟨val,aa,fA⟩,jD⟩
theorem XR:jV ab C n (.Pass pos):=λenv ns loc σ ρ s A aT aZ F i=>by
 rw[arm_exec_Pass];exact ah.standAt (ah.ret i ⟨aa,F⟩)
theorem XO:jV ab C n (.Return U pos):=λenv ns loc σ ρ s A aT aZ F i=>by
 rw[aeF];exact ah.standAt (ah.ret i ⟨⟨.none,aa,.none⟩,F⟩)
theorem XQ(he:cN ab C n e):jV ab C n (.Return (I e) pos):=λenv ns loc σ ρ s A aT aZ F i=>by
 rw[aeF];refine ah.standAt (ah.bind (he.st aT F i) λa bl a7 H bj b bB b4 cw=>?_);exact ah.ret bB ⟨⟨b,aa,cw.1⟩,cw.2⟩
theorem XS(aP:ig ab C n t)(aV:ml ab C n a)(au:ml ab C n b):jV ab C n (.If t a b pos):=λenv ns loc σ ρ s A aT aZ F i=>by
 rw[arm_exec_If];refine ah.standAt (ah.bind (aP.st aT F i) λc bl a7 H bj fG bB b4 cw=>?_);obtain⟨rfl,jD⟩:=cw
 induction fG with
 |true=>exact aV env ns loc bl a7 _ A aT aZ jD bB
 |false=>exact au env ns loc bl a7 _ A aT aZ jD bB
theorem ah.dropValue(i:Inv ab σ ρ s.heap)(F:c7 ab env ns loc ρ s.heap):ah ab W ρ s A (gE ab env ns) (PySem.dropValue (.Call f as [] q) p v) ((Pure.pure (bE.next,loc):M (bE×Loc)) σ):=by
 have fin:o2 ab W ρ s σ (λaU h'=>gE ab env ns (.next,loc) aU h' .next) s:=⟨ρ,s.heap,s.toks,aa,i,Ext.refl,aa,F⟩
 induction v with
 |ref a=>exact a0 (yA (a0 (wpAny_runValue (aeD entry_let_go (show wpAny _ _ (PySem.ret .none) _ _ s from cz (cz fin))))))
 |_=>exact cz fin
theorem XV(he:cN ab C n (.Call f as [] p)):jV ab C n (.Expr (.Call f as [] p) pos):=λenv ns loc σ ρ s A aT aZ F i=>by
 rw[arm_exec_Expr];have aI:interactive env=aS:=by unfold interactive;rw[F.kind];rfl
 rw[aI,(aa:swapsWith (.Call f as [] p) U pos.line env=Pure.pure aS)];refine ah.standAt ?_;refine(?_:ah ab (eg env) ρ s A (gE ab env ns) (eval (.Call f as [] p) env>>=λv=>PySem.dropValue (.Call f as [] p) pos v) ((ev C (.Call f as [] p) ns loc>>=λaf=>(Pure.pure (bE.next,loc):M (bE×Loc))) σ));exact ah.bind (he.st aT F i) λa bl a7 H bj b bB b4 cw=>ah.dropValue bB cw.2
theorem ah.zC{t:Sem Unit}{m:M Loc}(h:ah ab W ρ s A (rB ab env ns) t (m σ)):ah ab W ρ s A (gE ab env ns) (t>>=λaf=>Pure.pure Flow.next) ((m>>=λl=>(Pure.pure (bE.next,l):M (bE×Loc))) σ):=
 ah.bind h λa bl a7 H bj b bB b4 cw=>ah.ret bB ⟨aa,cw⟩
variable (ab C n) in
def BN(value:Expr):Prop:=∀elt t it ifs sc p,value=.ListComp elt [⟨t,it,ifs,0⟩] sc p->n7 ab C n it/\oZ ab C n ifs/\cN ab C n elt
theorem XZ(aM:cN ab C n value)(aT:e4 A n)(aZ:∀b∈eg env,ab.get? b=U)(F:c7 ab env ns loc ρ s.heap)(i:Inv ab σ ρ s.heap)(xj:swapsWith value (I (.Name x p)) pos.line env=pure aS) :
  ah ab (eg env) ρ s A (gE ab env ns) (exec (.Assign [.Name x p] value pos) env) (ex C (.Assign [.Name x p] value pos) ns loc σ):=by
 rw[PySem.exec_Assign_Name _ _ _ _ _ xj];show ah ab (eg env) ρ s A (gE ab env ns) _ ((ev C value ns loc>>=λv=>stLoc ns x v loc>>=λl=>(Pure.pure (bE.next,l):M (bE×Loc))) σ);refine ah.standAt (ah.bind (aM.st aT F i) λa bl a7 H bj b bB b4 cw=>ah.standAt ?_);exact ah.zC (ah.bindName ((zg aZ).store x b a loc bl a7 _ A cw.2 bB cw.1))
theorem XY(az:n7 ab C n iter)(aP:oZ ab C n ifs)(he:cN ab C n elt)(aT:e4 A n)(aZ:∀b∈eg env,ab.get? b=U)
  (F:c7 ab env ns loc ρ s.heap) (i:Inv ab σ ρ s.heap) (xj:swapsWith (.ListComp elt [⟨target,iter,ifs,0⟩] scope x5) (I (.Name x p)) pos.line env=pure aw) :
  ah ab (eg env) ρ s A (gE ab env ns) (exec (.Assign [.Name x p] (.ListComp elt [⟨target,iter,ifs,0⟩] scope x5) pos) env) (ex C (.Assign [.Name x p] (.ListComp elt [⟨target,iter,ifs,0⟩] scope x5) pos) ns loc σ):=by
 rw[exec_Assign_Name_used _ _ _ _ xj];show ah ab (eg env) ρ s A (gE ab env ns) _ ((vf C elt target iter ifs scope ns loc>>=λv=>stLoc ns x v loc>>=λl=>(Pure.pure (bE.next,l):M (bE×Loc))) σ)
 induction h:vf C elt target iter ifs scope ns loc σ with
 |bad=>rw[dR h];exact aL
 |ok v ag=>
  rw[a4 h]
  induction h2:stLoc ns x v loc ag with
  |bad=>rw[dR h2];exact aL
  |ok bP i7=>
   rw[a4 h2];refine a0 (yA (a0 ?_));rw[arm_evalThenUse_ListComp];refine a0 (ND (use:=I (assign (.Name x p) env)) (Q:=λaf s'=>_) aT F i az aP he h nofun (λaf aJ e D c f aU H bj m fs il r ao off hd=>?_));cases e;have st:=ah.bindTo (s:=At H bj s) (t:=.Name x p) (zg (ab:=ab) (env:=env) (ns:=ns) aZ) aT.handled (F.gB il) fs r;rw[show bindTo (stLoc ns) (.Name x p) v loc ag=.ok bP i7 from h2]at st;refine ei st (λaf s' hp=>?_) λaf aJ f=>f.elim;obtain⟨a7,ed,eB,rfl,bB,b4,jD⟩:=hp;have Mk:pF env c:=F.Kq hd;have LU:ed.Ns c m:=b4.Ku ao Mk.Kv off;refine⟨m,LU,λh' ke=>cz (cz ?_)⟩;have oq:Ext (eg env) ρ s.heap a7 ed:=(il.weak λaf hm=>absurd hm List.not_mem_nil).trans b4;obtain⟨o,ho,_⟩:=zH ao;obtain⟨eS,eX,ar,own⟩:=NC i bB oq LU (c9.ext b4 ho off) hd ke;exact⟨a7,h',eB,aa,eS,eX,aa,jD.but ar own λb au=>by rw[bN.mp au];exact Mk⟩
theorem X0(aM:cN ab C n value)(aA:BN ab C n value):jV ab C n (.Assign [.Name x p] value pos):=λenv ns loc σ ρ s A aT aZ F i=>by
 have plain:=λxj=>XZ (x:=x) (p:=p) (pos:=pos) aM aT aZ F i xj;have GG:∀(au:ev C value ns loc σ=.bad),ah ab (eg env) ρ s A (gE ab env ns) (exec (.Assign [.Name x p] value pos) env) (ex C (.Assign [.Name x p] value pos) ns loc σ):=λau=>by
  show ah ab (eg env) ρ s A (gE ab env ns) _ ((ev C value ns loc>>=λv=>stLoc ns x v loc>>=λl=>(Pure.pure (bE.next,l):M (bE×Loc))) σ);rw[dR au];exact aL
 induction value using Expr.casesOn with
 |ListComp elt gens scope x5=>
  have au:∃b,swapsWith (.ListComp elt gens scope x5) (I (.Name x p)) pos.line env=Pure.pure b:=⟨_,aa⟩;obtain⟨b,au⟩:=au
  induction b using Bool.casesOn with
  |false=>exact plain au
  |true=>
   refine aB λae=>?_;rcases NF gens with ⟨t,it,ifs,rfl⟩|Ft
   ·skip
    obtain⟨h1,h2,h3⟩:=aA elt t it ifs scope x5 aa;exact ae (XY h1 h2 h3 aT aZ F i au)
   ·exact ae (GG (by rw[Ft];rfl))
 |SetComp _ _ _ _=>exact GG aa
 |DictComp _ _ _ _ _=>exact GG aa
 |_=>exact plain aa
theorem XX{o i:Expr}{p pos:Pos}{value:Expr}(aM:cN ab C n value)(ho:cN ab C n o)(aI:cN ab C n i):jV ab C n (.Assign [.Subscript o i p] value pos):=λenv ns loc σ ρ s A aT aZ F dD=>by
 rw[exec_Assign_Subscript _ _ _ _ _ (by cases value <;> rfl)];refine(?_:ah ab (eg env) ρ s A (gE ab env ns) _ ((ev C value ns loc>>=λv=>ev C o ns loc>>=λa=>ev C i ns loc>>=λb=>Mine.Internal.setItem a b v>>=λaf=>(Pure.pure (bE.next,loc):M (bE×Loc))) σ));refine ah.standAt (ah.bind (aM.st aT F dD) λa bl a7 ed eB ai bB b4 cw=>?_);refine(?_:ah ab (eg env) a7 _ A (gE ab env ns) _ (((ev C o ns loc>>=λb=>ev C i ns loc>>=λc=>Mine.Internal.setItem b c a>>=λaf=>(Pure.pure loc:M Loc))>>=λl=>(Pure.pure (bE.next,l):M (bE×Loc))) bl));refine ah.zC ?_;rw[arm_assign_Subscript];refine ah.bind (ah.holding (ho.st aT cw.2 bB)) λb dt eI fx fT aq eS eX iL=>?_;refine ah.bind (ah.holding (aI.st aT iL.2 eS)) λc jh vZ BG we ax sq Cj zq=>ah.standAt ?_;refine ah.bind (ah.holding (ah.gu zq.2 (ah.setItem (ab:=ab) (A:=A) (W:=[]) (s:=At BG we s) sq aT.u (iL.1.ext Cj) zq.1 ((cw.1.ext eX).ext Cj)))) λaf qx Cb Hj CJ aJ Em Qo Hl=>ah.of_wp (wpAny_release ⟨Cb,Hj,CJ,aa,Em,Ext.refl,Hl.2⟩)
theorem X1{o:Expr}{m:Str}{p pos:Pos}{value:Expr}(B:i0 tx mg mb ab.heap)(gL:C.cls=tx.cls)(aM:cN ab C n value)(ho:cN ab C n o):jV ab C n (.Assign [.Attribute o m p] value pos):=λenv ns loc σ ρ s A aT aZ F dD=>by
 rw[plainObj_exec_Assign_Attribute _ _ _ _ _ (by cases value <;> rfl)];refine(?_:ah ab (eg env) ρ s A (gE ab env ns) _ ((ev C value ns loc>>=λv=>ev C o ns loc>>=λa=>dT C m v a>>=λaf=>(Pure.pure (bE.next,loc):M (bE×Loc))) σ));refine ah.standAt (ah.bind (aM.st aT F dD) λa bl a7 ed eB ai bB b4 cw=>?_);refine(?_:ah ab (eg env) a7 _ A (gE ab env ns) _ (((ev C o ns loc>>=λb=>dT C m a b>>=λaf=>(Pure.pure loc:M Loc))>>=λl=>(Pure.pure (bE.next,l):M (bE×Loc))) bl));refine ah.zC ?_;rw[assign_Attribute];refine ah.bind (ah.holding (ho.st aT cw.2 bB)) λb dt eI fx fT aq eS eX iL=>ah.standAt ?_;refine ah.bind (ah.holding (ah.gu iL.2 (ah.dT (ab:=ab) (A:=A) (W:=[]) (s:=At fx fT s) B gL eS iL.1 (cw.1.ext eX)))) λaf qx Cb Hj CJ aJ Em Qo Hl=>ah.of_wp (wpAny_release ⟨Cb,Hj,CJ,aa,Em,Ext.refl,Hl.2⟩)
theorem XW{ts:List Expr}{k:Nat}{p pos:Pos}{value:Expr}(aM:cN ab C n value):jV ab C n (.Assign [.Tuple ts k p] value pos):=λenv ns loc σ ρ s A aT aZ F i=>by
 rw[arm_exec_Assign];refine(?_:ah ab (eg env) ρ s A (gE ab env ns) _ ((if (wc value).isNone=aw then (ev C value ns loc>>=λv=>bindTo (stLoc ns) (.Tuple ts k p) v loc>>=λl=>(Pure.pure (bE.next,l):M (bE×Loc))) else M.bad) σ));refine ah.ite λaA=>?_;have h1:swapsWithSole [.Tuple ts k p] value pos.line env=Pure.pure aS:=by cases value <;> rfl
 have h2:swappedStores [.Tuple ts k p] value env=Pure.pure U:=by cases value <;> first|rfl|exact absurd aA qw
 rw[h1,h2];refine ah.standAt ?_;refine(?_:ah ab (eg env) ρ s A (gE ab env ns) (eval value env>>=λv=>assign (.Tuple ts k p) env v>>=λaf=>Pure.pure Flow.next) _);refine ah.bind (aM.st aT F i) λa bl a7 ed eB ai bB b4 cw=>?_;exact ah.zC (ah.bindTo (zg aZ) aT.handled cw.2 bB cw.1)
theorem X4(h1:nameIn t=U)(h2:CY t=U)(h3:GN t=U)(bY:wc t=U):xT C t value ns loc=M.bad:=by
 unfold xT;rw[h1];dsimp only;rw[h2];dsimp only;rw[h3];dsimp only;rw[bY]
theorem XU(he:cN ab C n e):jV ab C n (.Expr e pos):=by
 induction h:Gr e with
 |some q=>obtain⟨⟨f,as,q⟩,rfl⟩:=q;exact XV he
 |none=>
  intro env ns loc σ ρ s A aT aZ F i;refine(?_:ah ab (eg env) ρ s A (gE ab env ns) _ ((match Gr e with|some _=>(ev C e ns loc>>=λaf=>(Pure.pure (bE.next,loc):M (bE×Loc)))|none=>M.bad) σ));rw[h];exact aL
end
section
variable {au:Heap}{wr:List Addr}{aU eJ:Map}{sb:Shared}{mg mb:Str->Option Value}
variable {ey:Env}{fo:cC}{loc:Loc}{n:Nat}
theorem Xh
  (h:wpAny (model ab.prog ab.w) A (pyNext it) (λr s₁=>match r with
   |none=>R (.ok .next) s₁
   |some v=>wpAny (model ab.prog ab.w) A (letOwnedTupleGo target it v) (λaf wh=>
     wpAny (model ab.prog ab.w) A (assign target env v) (λaf wg=>wpAny (model ab.prog ab.w) A (execs body env) (λf lq=>match f with
      |.next|.cont=>codeAny (model ab.prog ab.w) A (.forLoop target it body [] env) R lq
      |.brk=>R (.ok .next) lq
      |.ret v=>R (.ok (.ret v)) lq) (notedBy (model ab.prog ab.w) A env λx s'=>R (.error x) s') wg) (notedBy (model ab.prog ab.w) A env λx s'=>R (.error x) s') wh) (notedBy (model ab.prog ab.w) A env λx s'=>R (.error x) s') s₁) (λaf aJ=>False) s) :
  codeAny (model ab.prog ab.w) A (.forLoop target it body [] env) R s:=by
 refine HA ?_;refine(?_:wpAny _ A ((forTurn target it body [] env).onRaise (λx=>do noteFrame x env;theTreesLotGoes x)) _ _ s);refine Pt ?_;simp only [forTurn];refine a0 (yA (a0 (BS (ei h (λr s₁ dE=>?_) λaf aJ h'=>h'.elim))))
 induction r with
 |none=>exact cz ⟨aa,codeAny_block (Pu dE)⟩
 |some v=>
  refine a0 (ei dE (λaf wh EG=>?_) λaf aJ h'=>h');refine a0 (ei EG (λaf wg ft=>a0 (ei ft (λf lq fi=>?_) λaf aJ h'=>h')) λaf aJ h'=>h')
  induction f with
  |next=>exact cz ⟨aa,fi⟩
  |cont=>exact cz ⟨aa,fi⟩
  |brk=>exact cz fi
  |ret v=>exact cz fi
structure oi(ab:eG)(eJ:Map)(au:Heap)(env:Env)(ns:cC)(loc:Loc)(σ:aN)(ρ:Map)(h:Heap):Prop where
 inv:Inv ab σ ρ h
 gu:c7 ab env ns loc ρ h
 ext:Ext (eg env) eJ au ρ h
structure Hp(ab:eG)(au:Heap)(env:Env)(wr:List Addr):Prop where
 deadW:∀b∈wr,au.get? b=U
 A0:∀b∈wr,ab.get? b=U
 oG:∀b∈wr,pF env b
theorem oi.but(K:Hp ab au env wr)(x:oi ab eJ au env ns loc σ ρ h)(ar:hx wr h h')(ho:Own wr ρ h):oi ab eJ au env ns loc σ ρ h' where
 inv:=x.inv.but ar ho K.A0
 gu:=x.gu.but ar ho K.oG
 ext:=x.ext.but ar K.deadW
theorem Xj(h:b7.at σ i=U):forLoop b7 bt body (k+1) i loc σ=.bad:=by
 show(b7.get i>>=_) σ=_;rw[dR (by unfold Src.get;rw[hP,h])]
def Hm(ab:eG)(eJ:Map)(au:Heap)(sb:Shared)(env:Env)(ns:cC):Res (bE×Loc)->Result->Shared->Prop
 |.bad,_,_=>True
 |.ok r ag,res,s'=>∃f aU hT hF,res=.ok f/\s'=(At hT hF sb)/\Om aU hT r.1 f/\oi ab eJ au env ns r.2 ag aU hT
theorem Xi(aT:e4 A n)(K:Hp ab au env wr)(aZ:∀b∈eg env,ab.get? b=U)(nW:ml ab C n body)(mK:jm b7 target=aw) :
  ∀(k i:Nat) (loc:Loc) (σ:aN) (ρ:Map) (H:Heap) (bj:Nat) (r:Res (bE×Loc)),oi ab eJ au env ns loc σ ρ H->g9 ab i ρ H b7 it wr ->
   forLoop b7 (bindTo (stLoc ns) target) (dw C body ns) k i loc σ=r->r≠.bad ->
   codeAny (model ab.prog ab.w) A (.forLoop target it body [] env) (Hm ab eJ au sb env ns r) (At H bj sb):=by
 intro k
 induction k with
 |zero=>
  intro _ _ _ _ _ _ _ _ _ h ao;exact absurd h.symm ao
 |succ k aj=>
  intro i loc σ ρ H bj r x j4 h ao;have oG:∀b∈wr,b∉eg env:=λb au=>(K.oG b au).Kv
  induction df:b7.at σ i with
  |none=>replace h:=Xj df ▸ h;exact absurd h.symm ao
  |some o=>
   replace h:=MN df ▸ h;refine Xh (s:=At H bj sb) (j4.next (s:=At H bj sb) aT.handled x.inv df mK (λh' ho ar=>?_) λv val h' hF aM ar Fe=>?_)
   ·subst ho;subst h;exact⟨.next,ρ,h',bj,aa,aa,aa,x.but K ar j4.own⟩
   ·subst aM;refine Fe _ _ λgi uQ fA Ck=>?_;have mw:=x.but K uQ j4.own;have h1:=ah.bindTo (s:=At gi hF sb) (t:=target) (zg (ab:=ab) (env:=env) (ns:=ns) aZ) aT.handled mw.gu mw.inv fA
    induction lQ:bindTo (stLoc ns) target v loc σ with
    |bad=>exact absurd ((dR lQ).symm.trans h).symm ao
    |ok iw bl=>
    replace h:=(a4 lQ).symm.trans h;replace h1:=lQ ▸ h1;refine ei h1 (λaf s' hp=>?_) λaf aJ f=>f.elim;obtain⟨a7,ed,eB,rfl,bB,jN,jD⟩:=hp;have oq:oi ab eJ au env ns iw bl a7 ed:=⟨bB,jD,mw.ext.trans jN⟩;have h2:=nW env ns iw bl a7 (At ed eB sb) A aT aZ oq.gu oq.inv
    induction sQ:dw C body ns iw bl with
    |bad=>exact absurd ((dR sQ).symm.trans h).symm ao
    |ok a dt=>
    replace h:=(a4 sQ).symm.trans h;replace h2:=sQ ▸ h2;refine ei h2 (λf s' hp=>?_) λaf aJ f=>f.elim;obtain⟨eI,fx,fT,rfl,eS,ri,hj,vE⟩:=hp;obtain⟨fl,sg⟩:=a;have j3:oi ab eJ au env ns sg dt eI fx:=⟨eS,vE,oq.ext.trans ri⟩;have qz:=(Ck.ext jN oG).ext ri oG
    induction fl with
    |next=>cases hj;exact aj (i+1) sg dt eI fx fT r j3 qz h ao
    |cont=>cases hj;exact aj (i+1) sg dt eI fx fT r j3 qz h ao
    |brk=>cases hj;subst h;exact⟨.next,eI,fx,fT,aa,aa,aa,j3⟩
    |ret u=>
     obtain⟨val,rfl,wz⟩:=hj;subst h;exact⟨.ret val,eI,fx,fT,aa,aa,⟨val,aa,wz⟩,j3⟩
theorem Xf(aT:e4 A n)(aZ:∀b∈eg env,ab.get? b=U)(F:c7 ab env ns loc ρ s.heap)(dD:Inv ab σ ρ s.heap)
  (az:n7 ab C n iter) (nW:ml ab C n body) (mK:jm b7 target=aw) (h1:src C iter ns loc (ev C iter ns loc) σ=.ok b7 bl) (h3:forLoop b7 (bindTo (stLoc ns) target) (dw C body ns) N 0 loc bl=r) (aX:r≠.bad)
  (xE:∀res s',Hm ab ρ s.heap s env ns r res s'->match res with|.ok f=>Q f s'|.error e=>cameBackBy (model ab.prog ab.w) A env E e s'):wpAny (model ab.prog ab.w) A (exec (.For target iter body [] pos) env) Q E s:=by
 have oN:∀aW k p,iter≠.Set aW k p:=λaW k p e=>by subst e;rw[Sa]at h1;exact ic h1
 have q6:=az env ns loc σ ρ s A aT F dD;rw[h1]at q6;refine wpAny_For (ei q6 (λQp s₁ hp=>?_) λaf aJ f=>f.elim) (Jr oN);obtain⟨a7,ed,eB,rfl,bB,b4,cw⟩:=hp;refine mX.iter (s:=At ed eB s) bB b4 cw λit wr ft xt j4 uW=>?_;have eX:Ext [] ρ s.heap a7 ft:=b4.trans (Ext.of_keeps xt);have K:Hp ab s.heap env wr:=
  {deadW:=uW
   A0:=λb au=>by
    induction e:ab.get? b with
    |none=>rfl
    |some o=>have:=dD.base _ _ e;rw[uW b au]at this;exact a5 this
   oG:=λb au=>F.Kq (uW b au) }
 have X:oi ab ρ s.heap env ns loc bl a7 ft:=⟨(bB.keeps xt),F.gB eX,eX.weak λaf hm=>absurd hm List.not_mem_nil⟩;exact BV (Xi (sb:=s) aT K aZ nW mK N 0 loc bl a7 ft eB r X j4 h3 aX) xE
theorem XT(az:n7 ab C n iter)(nW:ml ab C n body):jV ab C n (.For target iter body [] pos):=λenv ns loc σ ρ s A aT aZ F dD=>by
 refine(?_:ah ab (eg env) ρ s A (gE ab env ns) _ ((src C iter ns loc (ev C iter ns loc)>>=λb7=>if jm b7 target=aw then (b7.count>>=λN=>forLoop b7 (bindTo (stLoc ns) target) (dw C body ns) (N+1) 0 loc) else M.bad) σ))
 induction h1:src C iter ns loc (ev C iter ns loc) σ with
 |bad=>rw[dR h1];exact aL
 |ok b7 bl=>
  rw[a4 h1];refine ah.ite λmK=>?_
  induction h2:b7.count bl with
  |bad=>rw[dR h2];exact aL
  |ok N dt=>
   rw[a4 h2];obtain⟨rfl,xM⟩:=GO h2
   induction h3:forLoop b7 (bindTo (stLoc ns) target) (dw C body ns) (N+1) 0 loc dt with
   |bad=>exact aL
   |ok r ag=>
    refine Xf aT aZ F dD az nW mK h1 h3 nofun λres s' aX=>?_;refine aB λae=>?_;obtain⟨f,aU,hT,hF,rfl,rfl,hj,tf⟩:=aX;exact ae ⟨aU,hT,hF,aa,tf.inv,tf.ext,hj,tf.gu⟩
theorem Qv
  (h:wpAny (model ab.prog ab.w) A (isTrue test env (eval test env)) (λb s₁=>if b=aw then wpAny (model ab.prog ab.w) A (execs body env) (λf lq=>match f with
      |.next|.cont=>codeAny (model ab.prog ab.w) A (.whileLoop test body [] env) R lq
      |.brk=>R (.ok .next) lq
      |.ret v=>R (.ok (.ret v)) lq) (λaf aJ=>False) s₁ else R (.ok .next) s₁) (λaf aJ=>False) s) :
  codeAny (model ab.prog ab.w) A (.whileLoop test body [] env) R s:=by
 refine HA ?_;refine(?_:wpAny _ A ((whileTurn test body [] env).onRaise (λx=>do noteFrame x env;theTreesLotGoes x)) _ _ s);refine Pt ?_;simp only [whileTurn];refine a0 (ei h (λb s₁ dE=>?_) λaf aJ f=>f.elim)
 induction b with
 |false=>exact a0 (Pu (cz dE))
 |true=>
  refine a0 (ei dE (λf lq fi=>?_) λaf aJ f=>f.elim)
  induction f with
  |next=>exact cz ⟨aa,fi⟩
  |cont=>exact cz ⟨aa,fi⟩
  |brk=>exact cz fi
  |ret v=>exact cz fi
theorem Qu(aT:e4 A n)(aZ:∀b∈eg env,ab.get? b=U)(aP:ig ab C n t)(nW:ml ab C n body) :
  ∀(k:Nat) (loc:Loc) (σ:aN) (ρ:Map) (H:Heap) (bj:Nat) (r:bE×Loc) (ag:aN),oi ab eJ au env ns loc σ ρ H->iJ (λl=>ep C t ns l (ev C t ns l)) (dw C body ns) k loc σ=.ok r ag ->
   codeAny (model ab.prog ab.w) A (.whileLoop t body [] env) (Hm ab eJ au sb env ns (.ok r ag)) (At H bj sb):=by
 intro k
 induction k with
 |zero=>intro _ _ _ _ _ _ _ _ h;exact ic h
 |succ k aj=>
  intro loc σ ρ H bj r ag x h;obtain⟨c,bl,h1,h⟩:=p8 (m:=ep C t ns loc (ev C t ns loc)) h;have s1:=aP env ns loc σ ρ (At H bj sb) A aT x.gu x.inv;replace s1:=h1 ▸ s1;refine Qv (s:=At H bj sb) (ei s1 (λfG s' hp=>?_) λaf aJ f=>f.elim);obtain⟨a7,ed,eB,rfl,bB,jN,aA⟩:=hp;have aA:fG=c:=aA;subst aA;have mw:oi ab eJ au env ns loc bl a7 ed:=⟨bB,x.gu.gB jN,x.ext.trans (jN.weak λaf hm=>absurd hm List.not_mem_nil)⟩
  induction fG with
  |false=>
   cases h;exact⟨.next,a7,ed,eB,aa,aa,aa,mw⟩
  |true=>
   obtain⟨a,dt,h2,h⟩:=p8 (m:=dw C body ns loc) h;have s2:=nW env ns loc bl a7 (At ed eB sb) A aT aZ mw.gu mw.inv;replace s2:=h2 ▸ s2;refine ei s2 (λf s' hp=>?_) λaf aJ f=>f;obtain⟨eI,fx,fT,rfl,eS,ri,hj,vE⟩:=hp;obtain⟨fl,sg⟩:=a;have j3:oi ab eJ au env ns sg dt eI fx:=⟨eS,vE,mw.ext.trans ri⟩
   induction fl with
   |next=>cases hj;exact aj sg dt eI fx fT r ag j3 h
   |cont=>cases hj;exact aj sg dt eI fx fT r ag j3 h
   |brk=>cases hj;cases h;exact⟨.next,eI,fx,fT,aa,aa,aa,j3⟩
   |ret u=>
    obtain⟨val,rfl,wz⟩:=hj;cases h;exact⟨.ret val,eI,fx,fT,aa,aa,⟨val,aa,wz⟩,j3⟩
theorem Qw(tt:Loc->M Bool)(bd:Loc->M (bE×Loc)):tT tt bd loc σ=ot tt bd loc σ:=by
 show(ot tt bd loc σ).bind Res.ok=_;cases ot tt bd loc σ <;> rfl
theorem XM(aP:ig ab C n t)(nW:ml ab C n body):jV ab C n (.While t body [] pos):=λenv ns loc σ ρ s A aT aZ F dD=>by
 refine(?_:ah ab (eg env) ρ s A (gE ab env ns) _ (tT (λl=>ep C t ns l (ev C t ns l)) (dw C body ns) loc σ));rw[Qw];unfold ot;by_cases hex:∃k,iJ (λl=>ep C t ns l (ev C t ns l)) (dw C body ns) k loc σ≠.bad
 case neg=>rw[dif_neg hex];exact aL
 rw[dif_pos hex];generalize Classical.choose hex=k
 induction h:iJ (λl=>ep C t ns l (ev C t ns l)) (dw C body ns) k loc σ with
 |bad=>exact aL
 |ok r ag=>
  refine wpAny_While (BV (Qu (sb:=s) aT aZ aP nW k loc σ ρ s.heap s.toks r ag ⟨dD,F,Ext.refl⟩ h) λres s' aX=>?_);refine aB λae=>?_;obtain⟨f,aU,hT,hF,rfl,rfl,hj,tf⟩:=aX;exact ae ⟨aU,hT,hF,aa,tf.inv,tf.ext,hj,tf.gu⟩
theorem XN(nW:ml ab C n body):jV ab C n (.Try body az rj fin pos):=λenv ns loc σ ρ s A aT aZ F i=>by
 refine(?_:ah ab (eg env) ρ s A (gE ab env ns) _ ((if (rj.isEmpty&&(fin.isEmpty && !az.isEmpty))=aw then dw C body ns loc else M.bad) σ));refine ah.ite λaA=>?_;simp only [Bool.and_eq_true,List.isEmpty_iff,Bool.not_eq_true']at aA;obtain⟨rfl,rfl,cv⟩:=aA;have h1:=nW env ns loc σ ρ s A aT aZ F i
 induction az using List.casesOn with
 |nil=>exact kD cv
 |cons y afY=>
  induction aX:dw C body ns loc σ with
  |bad=>exact aL
  |ok r bl=>
   rw[aX]at h1;refine wpAny_Try_except (ei h1 (λf s₁ hp=>?_) λaf aJ f=>f.elim)
   induction f with
   |next=>exact Pu hp
   |brk=>exact hp
   |cont=>exact hp
   |ret v=>exact hp
end
section
variable {mg mb:Str->Option Value}{n:Nat}
theorem xV(h:∀ns loc,M.bad=ev C e ns loc):cN ab C n e:=λenv ns loc σ ρ s A aT F i=>by rw[<-h];exact aL
theorem px(he:cN ab C n e)(h:∀ns loc whole,(whole>>=eY)=src C e ns loc whole):n7 ab C n e:=λenv ns loc σ ρ s A aT F i=>by
 rw[<-h];exact Jh he aT F i
end
section
variable {mg mb:Str->Option Value}{n:Nat}
structure qh(ab:eG)(C:Cfg)(n:Nat)(e:Expr):Prop where
 ev:cN ab C n e
 ep:ig ab C n e
 src:n7 ab C n e
 comp:BN ab C n e
 slice:∀lo aI q,e=.Slice lo aI U q->om ab C n lo/\om ab C n aI
 attr:∀o m q,e=.Attribute o m q->cN ab C n o
structure Hyp(ab:eG)(tx:ih)(mg mb:Str->Option Value)(C:Cfg)(n:Nat):Prop where
 B:i0 tx mg mb ab.heap
 fn:∀f,C.nH f=(tx.fns f).isSome
 glob:C.glob=tx.glob
 ns:Bx tx
 call:yw ab tx C n
 cls:C.cls=tx.cls
theorem xU:∀{aW:List Expr},(∀e∈aW,cN ab C n e)->o6 ab C n aW
 |[],_=>FZ
 |e::r,h=>AL (h e (b9 ..)) (xU λe he=>h e (dz _ he))
theorem M3:∀{aW:List Expr},(∀e∈aW,cN ab C n e)->yv ab C n aW
 |[],_=>Yq
 |e::r,h=>Yr (h e (b9 ..)) (M3 λe he=>h e (dz _ he))
theorem IM:∀{aW:List Expr},(∀e∈aW,ig ab C n e)->yh ab C n aW
 |[],_=>Rj
 |e::r,h=>Rk (h e (b9 ..)) (IM λe he=>h e (dz _ he))
theorem Rw:∀{aW:List Expr},(∀e∈aW,ig ab C n e)->oZ ab C n aW
 |[],_=>Ru
 |[e],h=>Rt (h e (b9 ..))
 |_::_::_,_=>Rv
theorem b8.reverse(r:b8 ρ h vs l):b8 ρ h vs.reverse l.reverse:=by
 induction r using b8.ind with
 |aE=>exact .nil
 |h1 a r aj=>rw[afp,afp];exact aj.append (.cons a .nil)
theorem UJ(h:uv b7 σ=.ok v ag):∃m l,b7=.rev m l.length/\σ[m]? =I (.list l)/\v=.ref σ.length/\ag=σ++[.list l.reverse]:=by
 obtain⟨q,bl,h1,h2⟩:=p8 (m:=c3 b7.back) h;obtain⟨rfl,h1⟩:=GO h1;cases h2
 induction b7 with
 |rev m k=>
  obtain⟨l,e,h1⟩:=i3.mp h1;by_cases ar:l.length=k
  ·replace h1:=aK ar ▸ h1;cases h1;exact⟨m,l,by rw[ar],uw e,aa,aa⟩
  ·replace h1:=aR ar ▸ h1;exact a5 h1
 |_=>exact a5 h1
theorem SU(B:i0 tx mg mb ab.heap)(nQ:Bx tx)(h:∀e∈aW,n7 ab C n e):Oj ab C n aW:=by
 intro a cG p pos env ns loc σ ρ s A aT F i hg aX;subst cG;have dd:∀e∈[a],∀v p,e≠.Starred v p:=λe he v p eq=>by
  rw[bN.mp he]at eq;rw[eq]at aX;exact fw aX
 have q6:=h a (bN.mpr aa) env ns loc σ ρ s A aT F i
 induction av:src C a ns loc (ev C a ns loc) σ with
 |bad=>rw[dR av];exact aL
 |ok b7 bl=>
  rw[a4 av];rw[av]at q6
  induction ay:uv b7 bl with
  |bad=>exact aL
  |ok v dt=>
   obtain⟨m,l,rfl,bX,rfl,rfl⟩:=UJ ay;rw[Ht];refine a0 (yU B F i hg (by decide +kernel) (nQ _ (by decide +kernel)) GF ?_);refine Gm dd ?_;rw[zf (dd a (bN.mpr aa))];show wpAny _ _ (eval a env>>=λv=>holding [v] (spliced (backTo pos (starEach [] env)))>>=λvs=>Pure.pure (v::vs)) _ _ _;refine a0 (ei q6 (λb s' hp=>?_) λaf aJ f=>f.elim);obtain⟨a7,H,bj,rfl,bB,b4,cw⟩:=hp;refine a0 (k5 (cz (cz ⟨bB.base,?_⟩)));rcases cw with cw|⟨wr,it,hw⟩
   ·exact cw.elim
   have own:=it.own
   cases it with
   |@qH _ d _ ba la bJ aI bL off=>
   obtain⟨vs,k,g,hl,r⟩:=Inv.list (s:={ s with heap:=H }) bB bX bL;have hlen:=r.length;rw[show(l.length:Int)-1-((0:Nat):Int)=(vs.length:Int)-1 from(B7 _).trans (by rw[<-r.length])]at bJ;refine Zr (s:=At H bj s) aT.handled (λeq=>off _ (ee bL) eq.symm:la≠ba) bJ g hl λh' hF c ar Ff=>?_;have xu:hx [ba] H h':=own.kN off λb o au e=>ar b o au e;have aE:∀b,s.heap.get? b=U->ab.get? b=U:=λb au=>by
    induction e:ab.get? b with
    |none=>rfl
    |some o=>have:=i.base _ _ e;rw[au]at this;exact a5 this
   have dead:=wt b4.alive;have sq:=(bB.but xu own λb au=>aE b (hw b au)).grow (o:=.list l.reverse) (.snoc (oI Ff)) (λaf aJ e=>e) bB.mF (aE _ dead) ⟨vs.reverse,c,Ff,by rw[qr];exact hl,(r.reverse.sub (xu.sub own)).sub (.snoc (oI Ff))⟩;refine⟨_,h',hF,aa,sq,(b4.but xu hw).grow dead,.ref (d:=0) ?_⟩;rw[<-bB.len,j0 (bx _),ky];rfl
theorem UM(f:Expr)(as:List Expr)(k:Keyword)(cm:List Keyword)(p:Pos)(C:Cfg)(ns:cC)(loc:Loc):M.bad=ev C (.Call f as (k::cm) p) ns loc:=by cases f <;> rfl
theorem pH(h:aS=Eu e):BN ab C n e:=λelt t it ifs sc p aG=>by rw[aG]at h;exact fw h
theorem pG(h:aS=Et e):∀lo aI q,e=.Slice lo aI U q->om ab C n lo/\om ab C n aI:=λlo aI q aG=>by rw[aG]at h;exact fw h
theorem noAttr(h:aS=Ew e):∀o m q,e=.Attribute o m q->cN ab C n o:=λo m q aG=>by rw[aG]at h;exact fw h
theorem qh.plain(he:cN ab C n e)(h1:∀(ns:cC) (loc:Loc) (whole:M V),(whole>>=λv=>truth v)=Mine.Internal.ep C e ns loc whole)(h2:∀(env:Env) (whole:Sem Value),isTrue e env whole=(do let v <-whole;standAt e.pos;holding [v] (truthy v)))
  (h3:∀ns loc whole,(whole>>=eY)=Mine.Internal.src C e ns loc whole) (bY:aS=Eu e) (c0:aS=Et e) (dH:aS=Ew e):qh ab C n e where
 ev:=he
 ep:=y3 he h1 h2
 src:=px he h3
 comp:=pH bY
 slice:=pG c0
 attr:=noAttr dH
theorem IL(h:∀ns loc,M.bad=Mine.Internal.ev C e ns loc)(h1:∀(ns:cC) (loc:Loc) (whole:M V),(whole>>=λv=>truth v)=Mine.Internal.ep C e ns loc whole):ig ab C n e:=λenv ns loc σ ρ s A aT F i=>by
 rw[<-h1,<-h];exact aL
theorem qh.nothing(h:∀ns loc,M.bad=Mine.Internal.ev C e ns loc)(h1:∀(ns:cC) (loc:Loc) (whole:M V),(whole>>=λv=>truth v)=Mine.Internal.ep C e ns loc whole)
  (h3:∀ns loc whole,(whole>>=eY)=Mine.Internal.src C e ns loc whole) (bY:aS=Eu e) (c0:aS=Et e) (dH:aS=Ew e):qh ab C n e where
 ev:=xV h
 ep:=IL h h1
 src:=px (xV h) h3
 comp:=pH bY
 slice:=pG c0
 attr:=noAttr dH
def aej(e:Expr):Prop:=∀⦃ab:eG⦄ ⦃tx:ih⦄ ⦃mg mb:Str->Option Value⦄ ⦃C:Cfg⦄ ⦃n:Nat⦄,Hyp ab tx mg mb C n->qh ab C n e
def aeh(aW:List Expr):Prop:=∀⦃ab:eG⦄ ⦃tx:ih⦄ ⦃mg mb:Str->Option Value⦄ ⦃C:Cfg⦄ ⦃n:Nat⦄,Hyp ab tx mg mb C n->∀e∈aW,qh ab C n e
def aeg(o:Option Expr):Prop:=∀⦃ab:eG⦄ ⦃tx:ih⦄ ⦃mg mb:Str->Option Value⦄ ⦃C:Cfg⦄ ⦃n:Nat⦄,Hyp ab tx mg mb C n->om ab C n o
def aei(gs:List Comprehension):Prop:=∀⦃ab:eG⦄ ⦃tx:ih⦄ ⦃mg mb:Str->Option Value⦄ ⦃C:Cfg⦄ ⦃n:Nat⦄,Hyp ab tx mg mb C n->∀g∈gs,n7 ab C n g.iter/\oZ ab C n g.ifs
mutual
theorem jP:∀e:Expr,aej e
 |.Constant c k p=>λab tx mg mb C n H=>.plain Yh (λaf aJ b3=>aa) (λaf aJ=>aa) (λaf aJ b3=>aa) aa aa aa
 |.Name x p=>λab tx mg mb C n H=>.plain (λenv ns loc σ ρ s A aT F i=>ah.name H.B H.glob F i) (λaf aJ b3=>aa) (λaf aJ=>aa) (λaf aJ b3=>aa) aa aa aa
 |.BinOp l op r p=>λab tx mg mb C n H=>.plain (Ym (jP l H).ev (jP r H).ev) (λaf aJ b3=>aa) (λaf aJ=>aa) (λaf aJ b3=>aa) aa aa aa
 |.UnaryOp op x p=>λab tx mg mb C n H=>by
  have ak:=jP x H
  cases op with
  |Not=>exact⟨M1 ak.ev,Rf ak.ep,px (M1 ak.ev) (λaf aJ b3=>aa),pH aa,pG aa,noAttr aa⟩
  |USub=>
   induction h:Ez x with
   |some i=>obtain⟨i,c,q,rfl⟩:=i;exact .plain X7 (λaf aJ b3=>aa) (λaf aJ=>aa) (λaf aJ b3=>aa) aa aa aa
   |none=>exact .nothing (λaf aJ=>by show M.bad=(match Ez x with|some i=>(Pure.pure (V.int (-i.1)):M V)|none=>M.bad);rw[h]at ⊢) (λaf aJ b3=>aa) (λaf aJ b3=>aa) aa aa aa
  |_=>exact .nothing (λaf aJ=>aa) (λaf aJ b3=>aa) (λaf aJ b3=>aa) aa aa aa
 |.BoolOp op vs p=>λab tx mg mb C n H=>by
  have aM:=tb vs H;have he:cN ab C n (.BoolOp op vs p):=Yl (M3 λe he=>(aM e he).ev);exact⟨he,Ri (IM λe he=>(aM e he).ep),px he (λaf aJ b3=>aa),pH aa,pG aa,noAttr aa⟩
 |.Compare l ops rs p=>λab tx mg mb C n H=>by
  have hl:=jP l H;have aX:=tb rs H
  match ops,rs with
  |[op],[r]=>
   have he:cN ab C n (.Compare l [op] [r] p):=Yi hl.ev (aX r (b9 ..)).ev;exact⟨he,Rh hl.ev (aX r (b9 ..)).ev,px he (λaf aJ b3=>aa),pH aa,pG aa,noAttr aa⟩
  |[],_=>exact .nothing (λaf aJ=>aa) (λaf aJ b3=>aa) (λaf aJ b3=>aa) aa aa aa
  |[_],[]|[_],_::_::_|_::_::_,_=>exact .nothing (λaf aJ=>aa) (λaf aJ b3=>aa) (λaf aJ b3=>aa) aa aa aa
 |.IfExp t a b p=>λab tx mg mb C n H=>by
  have aP:=jP t H;have aV:=jP a H;have au:=jP b H;have he:cN ab C n (.IfExp t a b p):=Ye aP.ep aV.ev au.ev;exact⟨he,Rg aP.ep aV.ep au.ep,px he (λaf aJ b3=>aa),pH aa,pG aa,noAttr aa⟩
 |.Slice lo aI st p=>λab tx mg mb C n H=>⟨xV λaf aJ=>aa,IL (λaf aJ=>aa) (λaf aJ b3=>aa),px (xV λaf aJ=>aa) (λaf aJ b3=>aa),pH aa,by
   have hlo:=Ke lo H;have xx:=Ke aI H;intro agn g5 q e;cases e;exact⟨hlo,xx⟩,noAttr aa⟩
 |.Subscript o i p=>λab tx mg mb C n H=>by
  have ho:=jP o H;have aI:=jP i H;have he:cN ab C n (.Subscript o i p):=by
   induction i using Expr.casesOn with
   |Slice lo g5 st q=>
    induction st using Option.casesOn with
    |none=>obtain⟨h1,h2⟩:=aI.slice lo g5 q aa;exact Yb ho.ev h1 h2
    |some st=>exact MZ ho.ev aI.ev (λaf aJ=>aa)
   |_=>exact MZ ho.ev aI.ev (λaf aJ=>aa)
  exact .plain he (λaf aJ b3=>aa) (λaf aJ=>aa) (λaf aJ b3=>aa) aa aa aa
 |.List aW p=>λab tx mg mb C n H=>.plain (Yd (xU λe he=>(tb aW H e he).ev)) (λaf aJ b3=>aa) (λaf aJ=>aa) (λaf aJ b3=>aa) aa aa aa
 |.Tuple aW k p=>λab tx mg mb C n H=>.plain (X8 (xU λe he=>(tb aW H e he).ev)) (λaf aJ b3=>aa) (λaf aJ=>aa) (λaf aJ b3=>aa) aa aa aa
 |.Attribute o m p=>λab tx mg mb C n H=>by
  have ho:=jP o H;have he:cN ab C n (.Attribute o m p):=Yn H.B H.cls ho.ev;exact⟨he,y3 he (λaf aJ b3=>aa) (λaf aJ=>aa),px he (λaf aJ b3=>aa),pH aa,pG aa,λo' gK q e=>by cases e;exact ho.ev⟩
 |.Call f as cm p=>λab tx mg mb C n H=>by
  have aZ:=jP f H;have has:=tb as H
  induction cm using List.casesOn with
  |cons k cm=>
   have sF:∀ns loc whole,(whole>>=eY)=Mine.Internal.src C (.Call f as (k::cm) p) ns loc whole:=λns loc whole=>by cases f <;> rfl
   exact .nothing (UM f as k cm p C) (λaf aJ b3=>aa) sF aa aa aa
  |nil=>
   induction f using Expr.casesOn with
   |Name x q=>
    have he:cN ab C n (.Call (.Name x q) as [] p):=Yj H.B H.fn H.cls H.call (xU λe he=>(has e he).ev) (SU H.B H.ns λe he=>(has e he).src);exact⟨he,y3 he (λaf aJ b3=>aa) (λaf aJ=>aa),Sb H.B H.fn he (λe he=>(has e he).ev),pH aa,pG aa,noAttr aa⟩
   |Attribute o m q=>
    have he:cN ab C n (.Call (.Attribute o m q) as [] p):=Yk H.B H.cls H.call (aZ.attr o m q aa) (xU λe he=>(has e he).ev);exact .plain he (λaf aJ b3=>aa) (λaf aJ=>aa) (λaf aJ b3=>aa) aa aa aa
   |_=>exact .nothing (λaf aJ=>aa) (λaf aJ b3=>aa) (λaf aJ b3=>aa) aa aa aa
 |.ListComp elt gens scope p=>λab tx mg mb C n H=>by
  have he:=jP elt H;have hg:=MJ gens H;have aA:BN ab C n (.ListComp elt gens scope p):=λagM eu ags agt aga e8 e=>by
   cases e;obtain⟨h1,h2⟩:=hg _ (b9 ..);exact⟨h1,h2,he.ev⟩
  have Fl:cN ab C n (.ListComp elt gens scope p):=by
   rcases NF gens with ⟨t,it,ifs,rfl⟩|Ft
   ·obtain⟨h1,h2⟩:=hg _ (b9 ..);exact Yc h1 h2 he.ev
   ·exact xV λns loc=>(Ft C elt scope p ns loc).symm
  exact⟨Fl,y3 Fl (λaf aJ b3=>aa) (λaf aJ=>aa),px Fl (λaf aJ b3=>aa),aA,pG aa,noAttr aa⟩
 |.NamedExpr _ _ _|.Lambda _ _ _ _=>λab tx mg mb C n H=>.nothing (λaf aJ=>aa) (λaf aJ b3=>aa) (λaf aJ b3=>aa) aa aa aa
 |.Dict cm vs p=>λab tx mg mb C n H=>by
  match cm,vs with
  |[],[]=>exact .plain (Yg H.B.nolimit) (λaf aJ b3=>aa) (λaf aJ=>aa) (λaf aJ b3=>aa) aa aa aa
  |[],_::_|_::_,_=>exact .nothing (λaf aJ=>aa) (λaf aJ b3=>aa) (λaf aJ b3=>aa) aa aa aa
 |.Set _ _ _|.SetComp _ _ _ _|.DictComp _ _ _ _ _|.GeneratorExp _ _ _ _|.Await _ _|.Yield _ _|.YieldFrom _ _|.FormattedValue _ _ _ _|.JoinedStr _ _|.Starred _ _=>λab tx mg mb C n H=>.nothing (λaf aJ=>aa) (λaf aJ b3=>aa) (λaf aJ b3=>aa) aa aa aa
theorem tb:∀aW:List Expr,aeh aW
 |[]=>λab tx mg mb C n H=>λaf hm=>absurd hm List.not_mem_nil
 |e::r=>λab tx mg mb C n H=>λaG hm=>by
  have h1:=jP e H;rcases List.mem_cons.mp hm with rfl|hm
  ·exact h1
  ·exact(tb r H) aG hm
theorem Ke:∀o:Option Expr,aeg o
 |none=>λab tx mg mb C n H=>Yp
 |some e=>λab tx mg mb C n H=>Yo (jP e H).ev
theorem MJ:∀gs:List Comprehension,aei gs
 |[]=>λab tx mg mb C n H=>λaf hm=>absurd hm List.not_mem_nil
 |⟨t,it,ifs,k⟩::r=>λab tx mg mb C n H=>λg hm=>by
  have h2:=tb ifs H;rcases List.mem_cons.mp hm with rfl|hm
  ·exact⟨(jP it H).src,Rw λe he=>(h2 e he).ep⟩
  ·exact(MJ r H) g hm
end
theorem tc(H:Hyp ab tx mg mb C n)(e:Expr):qh ab C n e:=jP e H
theorem X2(H:Hyp ab tx mg mb C n)(aM:qh ab C n v)(a8:∀e,qh ab C n e):jV ab C n (.Assign ts v p):=by
 induction h:DN ts with
 |none=>
  intro env ns loc σ ρ s A aT aZ F i;refine(?_:ah ab (eg env) ρ s A (gE ab env ns) _ ((match DN ts with|some t=>xT C t.1 v ns loc|none=>M.bad) σ));rw[h];exact aL
 |some t=>
  obtain⟨t,rfl⟩:=t
  induction h1:nameIn t with
  |some x=>obtain⟨x,q,rfl⟩:=x;exact X0 aM.ev aM.comp
  |none=>
   induction h2:CY t with
   |some q=>obtain⟨⟨o,i,q⟩,rfl⟩:=q;exact XX aM.ev (a8 o).ev (a8 i).ev
   |none=>
    induction h3:GN t with
    |some q=>obtain⟨⟨o,m,q⟩,rfl⟩:=q;exact X1 H.B H.cls aM.ev (a8 o).ev
    |none=>
     induction bY:wc t with
     |some q=>obtain⟨⟨ts,k,q⟩,rfl⟩:=q;exact XW aM.ev
     |none=>
      intro env ns loc σ ρ s A aT aZ F i;refine(?_:ah ab (eg env) ρ s A (gE ab env ns) _ (xT C t v ns loc σ));rw[X4 h1 h2 h3 bY];exact aL
def aea(st:Stmt):Prop:=∀⦃ab:eG⦄ ⦃tx:ih⦄ ⦃mg mb:Str->Option Value⦄ ⦃C:Cfg⦄ ⦃n:Nat⦄,Hyp ab tx mg mb C n->jV ab C n st
def ad9(nq:List Stmt):Prop:=∀⦃ab:eG⦄ ⦃tx:ih⦄ ⦃mg mb:Str->Option Value⦄ ⦃C:Cfg⦄ ⦃n:Nat⦄,Hyp ab tx mg mb C n->ml ab C n nq
mutual
theorem X3:∀st:Stmt,aea st
 |.Expr e p=>λab tx mg mb C n H=>XU (tc H e).ev
 |.Pass p=>λab tx mg mb C n H=>XR
 |.Return none p=>λab tx mg mb C n H=>XO
 |.Return (some e) p=>λab tx mg mb C n H=>XQ (tc H e).ev
 |.Assign ts v p=>λab tx mg mb C n H=>X2 H (tc H v) (tc H)
 |.If t a b p=>λab tx mg mb C n H=>XS (tc H t).ep (sZ a H) (sZ b H)
 |.For t it body rj p=>λab tx mg mb C n H=>by
  have h1:=tc H it;have h2:=sZ body H
  induction rj with
  |nil=>exact XT h1.src h2
  |cons _ _=>exact λenv ns loc σ ρ s A aT aZ F i=>aL
 |.FunctionDef ..|.AsyncFunctionDef ..|.ClassDef ..|.Delete ..|.TypeAlias ..|.AugAssign ..|.AnnAssign ..|.AsyncFor ..=>λab tx mg mb C n H=>λenv ns loc σ ρ s A aT aZ F i=>aL
 |.While t body rj p=>λab tx mg mb C n H=>by
  have h1:=tc H t;have h2:=sZ body H
  induction rj with
  |nil=>exact XM h1.ep h2
  |cons _ _=>exact λenv ns loc σ ρ s A aT aZ F i=>aL
 |.With ..|.AsyncWith ..|.Match ..|.Raise ..=>λab tx mg mb C n H=>λenv ns loc σ ρ s A aT aZ F i=>aL
 |.Try body az rj fin p=>λab tx mg mb C n H=>XN (sZ body H)
 |.TryStar ..|.Assert ..|.Import ..|.ImportFrom ..|.Global ..|.Nonlocal ..|.Break ..|.Continue ..=>λab tx mg mb C n H=>λenv ns loc σ ρ s A aT aZ F i=>aL
theorem sZ:∀nq:List Stmt,ad9 nq
 |[]=>λab tx mg mb C n H=>XI
 |st::r=>λab tx mg mb C n H=>XJ (X3 st H) (sZ r H)
end
theorem XH(nq:List Stmt)(H:Hyp ab tx mg mb C n):ml ab C n nq:=sZ nq H
end
theorem x6:∀(names:cC) (n:Nat) (acc:List (Str×Addr)),names.lookup x=I .cell\/(acc.lookup x).isSome=aw->((cellsFrom n names acc).lookup x).isSome=aw:=by
 intro cO
 induction cO with
 |nil=>
  intro _ _ h;rcases h with h|h
  ·exact a5 h
  ·exact h
 |cons pr r x6=>
  obtain⟨y,k⟩:=pr;intro n acc h;unfold cellsFrom;by_cases ar:(k==NameKind.cell)=aw
  ·rw[aK ar];refine x6 (n+1) _ ?_
   induction fM:x==y with
   |true=>right;rw[gx,fM];rfl
   |false=>
    rcases h with h|h
    ·left;rw[gx,fM]at h;exact h
    ·right;rw[gx,fM];exact h
  ·rw[aR ar];refine x6 n acc ?_;rcases h with h|h
   ·induction fM:x==y with
    |true=>rw[gx,fM]at h;cases h;exact absurd aa ar
    |false=>left;rw[gx,fM]at h;exact h
   ·exact .inr h
theorem ED:∀{names:cC}{i j:Nat}{k:NameKind},mA names x i=I (j,k)->i<=j/\(sv params args names)[j-i]? =I ((params.zip args).lookup x)
 |[],_,_,_,h=>by exact a5 h
 |(y,eo)::r,i,j,k,h=>by
  rw[t9]at h
  split at h
  ·rename_i e
   cases h;rw[beq_iff_eq.mp e];exact⟨bx _,by rw[ky];rfl⟩
  ·obtain⟨h1,h2⟩:=ED (params:=params) (args:=args) h;refine⟨HE h1,?_⟩;rw[Ja h1];exact h2
section
variable {h:Heap}
theorem H5{x:Str}{params:List Str}{vals:List Value}{args:List V}{a:V}(r:b8 ρ h vals args):(params.zip args).lookup x=I a->∃v,(params.zip vals).lookup x=I v/\Rel ρ h v a:=by
 induction r using b8.ind generalizing params with
 |aE=>intro e;replace e:=afi ▸ e;exact a5 e
 |h1 r rs aj=>
  intro e
  induction params using List.casesOn with
  |nil=>exact a5 e
  |cons p ps=>
   rw[tN,gx]at e ⊢
   induction ak:x==p with
   |true=>replace e:=ak ▸ e;cases e;exact⟨_,aa,r⟩
   |false=>replace e:=ak ▸ e;exact aj e
end
theorem GB{kindOf:Str->Option NameKind}{x:Str}:∀{binds:List (Str×Value)}{m:Str->Option Value},(∀p∈binds,p.1≠x)->bindL kindOf binds m x=m x:=by
 intro cO
 induction cO with
 |nil=>intro _ _;exact aa
 |cons pr r GB=>
  obtain⟨y,v⟩:=pr;intro m h;unfold bindL;rw[GB λp hp=>h p (dz _ hp)]
  split
  ·exact aR λe=>h (y,v) (b9 ..) e.symm
  ·rfl
theorem NY{kindOf:Str->Option NameKind}{x:Str}{v:Value}(ar:kindOf x=I .local):∀{binds:List (Str×Value)}{m:Str->Option Value},(binds.map (·.1)).Nodup->binds.lookup x=I v->bindL kindOf binds m x=I v
 |[],_,_,h=>by exact a5 h
 |(y,u)::r,m,ao,h=>by
  unfold bindL;rw[gx]at h;rw[ea,hV]at ao
  induction ak:x==y with
  |true=>
   rw[ak]at h;cases h;have e:=beq_iff_eq.mp ak;subst e;rw[GB λp hp e=>ao.1 (ez.mpr ⟨p,hp,e⟩),aK ar];exact aK aa
  |false=>rw[ak]at h;exact NY ar ao.2 h
theorem GC{kindOf:Str->Option NameKind}{x:Str}:∀{binds:List (Str×Value)}{m:Str->Option Value},(∀p∈binds,p.1≠x)->bindC kindOf binds m x=m x:=by
 intro cO
 induction cO with
 |nil=>intro _ _;exact aa
 |cons pr r GC=>
  obtain⟨y,v⟩:=pr;intro m h;unfold bindC;rw[GC λp hp=>h p (dz _ hp)]
  split
  ·rfl
  ·exact aR λe=>h (y,v) (b9 ..) e.symm
theorem NZ{kindOf:Str->Option NameKind}{x:Str}{v:Value}(ar:kindOf x=I .cell):∀{binds:List (Str×Value)}{m:Str->Option Value},(binds.map (·.1)).Nodup->binds.lookup x=I v->bindC kindOf binds m x=I v
 |[],_,_,h=>by exact a5 h
 |(y,u)::r,m,ao,h=>by
  unfold bindC;rw[gx]at h;rw[ea,hV]at ao
  induction ak:x==y with
  |true=>
   rw[ak]at h;cases h;have e:=beq_iff_eq.mp ak;subst e;rw[GC λp hp e=>ao.1 (ez.mpr ⟨p,hp,e⟩),aR (by rw[ar];decide)];exact aK aa
  |false=>rw[ak]at h;exact NZ ar ao.2 h
theorem Cf:∀{params:List Str}{vals:List Value},x∈(params.zip vals).map (·.1)->x∈params
 |[],_,h=>by cases h
 |_::_,[],h=>by cases h
 |p::ps,v::vs,h=>by
  rw[tN,ea]at h;rcases List.mem_cons.mp h with h|h
  ·exact h ▸ b9 ..
  ·exact dz _ (Cf h)
theorem Ce:∀{params:List Str}{vals:List Value},params.Nodup->((params.zip vals).map (·.1)).Nodup
 |[],_,_=>mr
 |_::_,[],_=>mr
 |p::ps,v::vs,ao=>by
  rw[tN,ea,hV];rw[hV]at ao;exact⟨λhm=>ao.1 (Cf hm),Ce ao.2⟩
section
variable {prog:Program}{w:World}{a8:Heap}{agI agH:List Env}{mg mb:Str->Option Value}
theorem vr.deeper(h:vr A (n+1)):e4 (A.deeper env) n where
 handled:=h.handled
 depth:=by exact show A.depth+1+2*n<recursionLimit from cb 0x6084A21042400001018212804220021 aa h.depth
 units:=by exact show A.units+3+16*n+300<cLine from cb 0xC10A59E0960218480000010182148BC1084A08088000021 aa h.units
theorem Zt(ok:Ho fd f)(i:Inv ⟨prog,w,a8⟩ σ ρ s.heap)(r:b8 ρ s.heap vals args)
  (x:InCallC s (callEnvC fd s.heap.objs.size a).locals (bindL (callEnvC fd s.heap.objs.size a).kindOf (f.params.zip vals) λaf=>U) (callEnvC fd s.heap.objs.size a).cells (bindC (callEnvC fd s.heap.objs.size a).kindOf (f.params.zip vals) λaf=>U) s₁) :
  c7 ⟨prog,w,a8⟩ (callEnvC fd s.heap.objs.size a) f.names (sv f.params args f.names) ρ s₁.heap:=by
 have ar:∀b o,s.heap.get? b=I o->s₁.heap.get? b=I o:=x.toInCall.keep;have pR:(callEnvC fd s.heap.objs.size a).scope.names=f.names:=ok.names;have ra:∀y i k,slot f.names y=I (i,k)->(callEnvC fd s.heap.objs.size a).kindOf y=I k:=λy i k h=>by
  refine(?_:(callEnvC fd s.heap.objs.size a).scope.names.lookup y=_);rw[pR];exact wq h
 have L0:∀y c,(callEnvC fd s.heap.objs.size a).cells.lookup y=I c->s.heap.objs.size<c:=λy c aA=>x.above y c (mem_of_lookup aA);have off:∀b:Addr,s.heap.objs.size<=b->c9 ρ b:=λb au p hp=>by
  obtain⟨bS,av⟩:=i.alive hp;exact λe=>absurd (Heap.lt_size av) (vN.mpr (e ▸ au))
 exact {
  names:=pR
  kind:=ok.kind
  globals:=ok.globals
  kk:=ok.kk
  vars:=⟨_,x.toInCall.ns,λy j v h1 h2=>by
   refine aB λae=>?_;obtain⟨_,h3⟩:=ED (params:=f.params) (args:=args) h1;rw[vM,h2]at h3;obtain⟨val,aM,fA⟩:=H5 r (gm h3).symm;refine ae ?_;exact⟨val,NY (ra y j _ h1) (Ce ok.nodup) aM,fA.sub (Sub.keeps ar)⟩⟩
  cell:=λy j h1=>by
   obtain⟨c,aA⟩:=m7.mp (x6 f.names (s.heap.objs.size+1) [] (.inl (wq h1)));have mP:(callEnvC fd s.heap.objs.size a).cells.lookup y=I c:=by
    refine(?_:(cellsFrom (s.heap.objs.size+1) fd.scope.names []).lookup y=I c);rw[ok.names];exact aA
   refine⟨c,_,mP,x.cell y c mP,λv h2=>?_⟩;refine aB λae=>?_;obtain⟨_,h3⟩:=ED (params:=f.params) (args:=args) h1;rw[vM,h2]at h3;obtain⟨val,aM,fA⟩:=H5 r (gm h3).symm;refine ae ?_;exact⟨val,NZ (ra y j _ h1) (Ce ok.nodup) aM,fA.sub (Sub.keeps ar)⟩
  live:=λy c aA=>⟨_,x.cell y c aA⟩
  kI:=off _ (bx _)
  h5:=λy c aA=>⟨Nat.ne_of_gt (L0 y c aA),off _ (k7 (L0 y c aA))⟩
  apart:=λy z c h1 h2=>name_of_addr x.apart (mem_of_lookup h1) (mem_of_lookup h2) }
set_option backward.match.sparseCases true in
theorem Zu(H:Hyp ⟨prog,w,a8⟩ tx mg mb C n)(hm:BI a8 fn a)(aT:vr A (n+1))(r:b8 ρ s.heap vals args)(i:Inv ⟨prog,w,a8⟩ σ ρ s.heap) :
  ah ⟨prog,w,a8⟩ [] ρ s A cW (call (.ref a) vals) (x8 C fn args σ):=by
 obtain⟨o,fd,ho,hd,ok,hcd⟩:=hm;unfold x8;refine ah.ite λhlen=>?_;have go:∀{Q:Value->Shared->Prop}{E:Value->Shared->Prop},(∀ed eB,(∀b∈eg (callEnvC fd s.heap.objs.size a),s.heap.get? b=U)->(∀b o,s.heap.get? b=I o->ed.get? b=I o) ->
   ah ⟨prog,w,a8⟩ (eg (callEnvC fd s.heap.objs.size a)) ρ (At ed eB s) (A.deeper (callEnvC fd s.heap.objs.size a)) (gE ⟨prog,w,a8⟩ (callEnvC fd s.heap.objs.size a) fn.names) (execs fn.body (callEnvC fd s.heap.objs.size a)) (dw C fn.body fn.names (sv fn.params args fn.names) σ) ->
   wpAny (model prog w) (A.deeper (callEnvC fd s.heap.objs.size a)) (execs fn.body (callEnvC fd s.heap.objs.size a)) (λf s'=>Q (match f with|.ret v=>v|_=>.none) s')
    (λe s'=>wpAny (model prog w) (A.deeper (callEnvC fd s.heap.objs.size a)) (leaving (callEnvC fd s.heap.objs.size a) e) (λaf Dm=>E e Dm) (λaG Dm=>E aG Dm) s') (At ed eB s)) ->
   wpAny (model prog w) A (call (.ref a) vals) Q E s:=λaH=>by
  refine wpAny_call (codeAny_call_cells (binds:=fn.params.zip vals) (by have:=aT.depth;exact cb 0xC109001018212804220021 aa this) (i.base _ _ ho) hd (H.B.nolimit.keeps i.base) (hcd.keeps i.base) ok.body (ok.binds vals (by rw[r.length,hlen]:vals.length=fn.params.length)) ok.g8 (λy a9=>?_) (λs₁ x=>?_) ok.co ok.gen ok.kind)
  ·have hp:y.1∈fn.params:=Cf (ez.mpr ⟨y,a9,aa⟩);rw[ok.names];rcases ok.J7 y.1 hp with h|h
   ·exact .inl h
   ·exact .inr ⟨h,x6 _ _ _ (.inl h)⟩
  ·have F:=Zt ok i r x;obtain⟨ed,eB,rfl⟩:=x.toInCall.same;have ar:∀b o,s.heap.get? b=I o->ed.get? b=I o:=x.toInCall.keep;have dead:∀b∈eg (callEnvC fd s.heap.objs.size a),s.heap.get? b=U:=λb au=>by
    have xy:s.heap.objs.size<=b:=by
     rcases List.mem_cons.mp au with rfl|au
     ·exact bx _
     ·obtain⟨⟨y,k⟩,_,aA⟩:=PL.mp au;exact k7 (x.above y b (mem_of_lookup aA))
    induction e:s.heap.get? b with
    |none=>rfl
    |some o=>exact absurd (Heap.lt_size e) (vN.mpr xy)
   have A0:∀b∈eg (callEnvC fd s.heap.objs.size a),a8.get? b=U:=λb au=>by
    induction e:a8.get? b with
    |none=>rfl
    |some o=>have:=i.base _ _ e;replace this:=dead b au ▸ this;exact a5 this
   exact aH ed eB dead ar (XH fn.body H (callEnvC fd s.heap.objs.size a) fn.names (sv fn.params args fn.names) σ ρ (At ed eB s) (A.deeper (callEnvC fd s.heap.objs.size a)) aT.deeper A0 F (i.keeps ar:Inv ⟨prog,w,a8⟩ σ ρ ed))
 induction h1:dw C fn.body fn.names (sv fn.params args fn.names) σ with
 |bad=>rw[dR h1];exact aL
 |ok res ag=>
  rw[a4 h1];refine go λed eB dead ar az=>?_;replace az:=h1 ▸ az;refine ei az (λfl s' hp=>?_) λaf aJ f=>f.elim;obtain⟨aU,hT,hF,rfl,fs,il,hj,Pl⟩:=hp;have ak:Ext [] ρ s.heap aU hT:=((Ext.of_keeps ar).trans il).weak λb au=>.inr (dead b au);obtain⟨Xs,bP⟩:=res
  induction Xs with
  |next=>cases hj;exact⟨aU,hT,hF,aa,fs,ak,.none⟩
  |brk=>cases hj;exact⟨aU,hT,hF,aa,fs,ak,.none⟩
  |cont=>cases hj;exact⟨aU,hT,hF,aa,fs,ak,.none⟩
  |ret v=>
   obtain⟨val,rfl,fA⟩:=hj;exact⟨aU,hT,hF,aa,fs,ak,fA⟩
theorem NQ(B:i0 tx mg mb a8)(nQ:Bx tx):∀(d:Nat),yw ⟨prog,w,a8⟩ tx (A5 tx d) d
 |0=>λf fn a args vals σ ρ s A aT aZ hm r i=>aL
 |d+1=>λf fn a args vals σ ρ s A aT aZ hm r i=>by
  refine(?_:ah ⟨prog,w,a8⟩ [] ρ s A cW _ (ro tx (d+1) f args σ));rw[NP,aZ];exact Zu (C:=A5 tx d) ⟨B,λaf=>aa,aa,nQ,NQ B nQ d,aa⟩ hm aT r i
end
end Mine.Internal

set_option backward.match.sparseCases false
namespace Mine.Internal
open PySem PySem.W PyProof.Rows
theorem Qk:∀{ps:List Str}{vals:List Value},ps.Nodup->vals.length=ps.length->(ps.filterMap λn=>((ps.zip vals).lookup n).map (n,·))=ps.zip vals:=by
 intro ps vals ao hl;have key:∀(pre:List (Str×Value)) (ps:List Str) (vals:List Value),ps.Nodup->vals.length=ps.length->(∀x∈ps,pre.lookup x=U)->(ps.filterMap λn=>((pre++ps.zip vals).lookup n).map (n,·))=ps.zip vals:=by
  intro pre ps
  induction ps generalizing pre with
  |nil=>intro vals _ _ _;rfl
  |cons p ps aj=>
   intro vals ao hl hp
   induction vals using List.casesOn with
   |nil=>cases hl
   |cons v vs=>
    rw[hV]at ao;have av:(pre++(p::ps).zip (v::vs)).lookup p=I v:=by
     rw[PO,hp p (b9 ..),tN,gx,k6];rfl
    rw[HN,av];dsimp only [Option.map];rw[tN];congr 1;have:=aj (pre++[(p,v)]) vs ao.2 (by simpa using hl) (λx ak=>by
     rw[PO,hp x (dz _ ak),gx];have:(x==p)=aS:=by
      induction e:x==p with
      |false=>rfl
      |true=>rw[beq_iff_eq.mp e]at ak;exact absurd ak ao.1
     rw[this];rfl)
    rw[pg]at this;exact this
 exact key [] ps vals ao hl (λaf aJ=>aa)
theorem A9{α β:Type}{x:α}{m:Sem α}{f:α->Sem β}{r:Sem β}(hm:m=pure x)(h:f x=r):(m>>=f)=r:=by rw[hm,pure_bind];exact h
theorem Gw{β:Type}{c:Prop}[Decidable c] {a b r:Sem β}(aA:¬c) (h:b=r):(if c then a else b)=r:=by rw[aR aA];exact h
theorem ZD{name qual:Str}{as:List Arg}{body:List Stmt}{scope:Scope}{pm code doc:Value}{vals:List Value}(ao:(as.map (·.arg)).Nodup)(hl:vals.length=(as.map (·.arg)).length) :
  bindArgs (methDef name qual ⟨[],as,U,[],[],U,[]⟩ body scope pm code doc) ⟨vals,[]⟩=pure ((as.map (·.arg)).zip vals):=by
 have hm:((as.map (·.arg)).filter λn=>(((as.map (·.arg)).zip vals).lookup n).isNone)=[]:=by
  rw[List.filter_eq_nil_iff];intro n gg;have:∀(ps:List Str) (vals:List Value),n∈ps->vals.length=ps.length->((ps.zip vals).lookup n).isNone=aS:=by
   intro ps
   induction ps with
   |nil=>intro _ h;cases h
   |cons p ps aj=>
    intro vals h hl
    induction vals using List.casesOn with
    |nil=>cases hl
    |cons v vs=>
     rw[tN,gx]
     induction e:n==p with
     |true=>rfl
     |false=>
      rcases List.mem_cons.mp h with h|h
      ·rw[h,k6]at e;exact kD e
      ·exact aj vs h (by simpa using hl)
  rw[this _ _ gg hl];decide
 have az:seqItems? .none=(Pure.pure U:Sem (Option (Array Value))):=by kernel_rfl
 have hd:∀k,(([]:List Value).drop k)=[]:=λk=>List.drop_nil;refine A9 (x:=((as.map (·.arg)).zip vals,[])) aa (A9 az (Gw ?_ (Gw ?_ (A9 (x:=(as.map (·.arg)).zip vals) ?_ (A9 (x:=((as.map (·.arg)).zip vals,[])) aa (Gw ?_ ?_))))))
 ·refine(?_:¬((decide (vals.length > (as.map (·.arg)).length)&&aw)=aw));rw[hl];simp
 ·refine(?_:¬((!(((as.map λx:Arg=>x.arg).take ((as.map λx:Arg=>x.arg).length-(([]:List Value).drop (0-(as.map λx:Arg=>x.arg).length)).length)).filter λn=>(((as.map λx:Arg=>x.arg).zip vals).lookup n).isNone).isEmpty)=aw));rw[hd,List.length_nil,vM,iG,hm];simp
 ·refine(?_:(forIn (List.zip _ (([]:List Value).drop _)) _ _:Sem (List (Str×Value)))=_);rw[hd,afi];rfl
 ·exact nofun
 ·show pure (((as.map λx:Arg=>x.arg)++[]).filterMap λn=>(((as.map λx:Arg=>x.arg).zip vals).lookup n).map (n,·))=_;rw[vU,Qk ao hl]
noncomputable def zo(params:Arguments)(scope:Scope):Bool:=
 (params.posonlyargs.isEmpty&&params.vararg.isNone&&params.kwonlyargs.isEmpty&&params.kw_defaults.isEmpty&&params.kwarg.isNone&&params.defaults.isEmpty)&&(match scope.kind with|.function=>aw|_=>aS) && !scope.isCoroutine && !scope.isGenerator &&
 decide (params.args.map (·.arg)).Nodup&&(params.args.map (·.arg)).all λx=>match scope.names.lookup x with|some .local=>aw|some .cell=>aw|_=>aS
def recOk(d:DefRec):Bool:=zo d.params d.scope
theorem Jp{name qual:Str}{params:Arguments}{body:List Stmt}{scope:Scope}{pm code doc:Value}(h:zo params scope=aw):Ho (methDef name qual params body scope pm code doc) ⟨params.args.map (·.arg),scope.names,body⟩:=by
 unfold zo at h;simp only [Bool.and_eq_true]at h;obtain⟨⟨⟨⟨⟨h1,h2⟩,h3⟩,bY⟩,c0⟩,dH⟩:=h;obtain⟨po,as,ai,d2,cK,kw,agP⟩:=params;simp only [Bool.and_eq_true,List.isEmpty_iff,Option.isNone_iff_eq_none]at h1;obtain⟨⟨⟨⟨⟨rfl,rfl⟩,rfl⟩,rfl⟩,rfl⟩,rfl⟩:=h1;have ao:(as.map (·.arg)).Nodup:=vL c0;exact {
  body:=rfl
  names:=rfl
  kind:=by
   refine(?_:scope.kind=.function)
   split at h2
   ·assumption
   ·exact fw h2
  co:=by refine(?_:scope.isCoroutine=aS);simpa using h3
  gen:=by refine(?_:scope.isGenerator=aS);simpa using bY
  g8:=rfl
  globals:=rfl
  kk:=rfl
  binds:=λvals hl=>ZD ao hl
  J7:=λx ak=>by
   have:=List.all_eq_true.mp dH x ak;refine(?_:scope.names.lookup x=I .local\/scope.names.lookup x=I .cell)
   split at this
   ·left;assumption
   ·right;assumption
   ·exact fw this
  nodup:=ao }
noncomputable def ZC(q:Program)(loose:List Str):Bool:=p6.all λx=>!startupNames.contains x && !loose.contains x && !((recsOf q).map (·.name)).contains x && !((litsOf q).map (·.1)).contains x && !((clssOf q loose).map (·.name)).contains x
theorem KU:∀{ds:List DefRec},(ds.map defOf).lookup x=I fn->∃d∈ds,d.name=x/\(defOf d).2=fn
 |[],h=>by exact a5 h
 |d::ds,h=>by
  rw[ea]at h;unfold defOf at h;rw[gx]at h
  split at h
  ·rename_i e
   cases h;exact⟨d,b9 ..,(beq_iff_eq.mp e).symm,aa⟩
  ·obtain⟨f3,hd,r⟩:=KU (ds:=ds) h;exact⟨f3,dz _ hd,r⟩
theorem Lr(h:intOf v=I a):v=.int a:=by
 induction v using V.casesOn with
 |int _=>cases h;rfl
 |_=>exact a5 h
theorem Je(h:strOf v=I a):v=.str a:=by
 induction v using V.casesOn with
 |str _=>cases h;rfl
 |_=>exact a5 h
theorem Sx(h:Dj o v=aw):o=I v:=by
 unfold Dj at h;rw[afT,Bool.and_eq_true,Bool.and_eq_true,beq_iff_eq,beq_iff_eq]at h;rcases h with ⟨h1,h2⟩|⟨h1,h2⟩
 ·obtain⟨a,aV⟩:=m7.mp h1;rw[aV]at h2;obtain⟨u,rfl,aY⟩:=i3.mp h2;rw[Lr aV,Lr aY]
 ·obtain⟨a,aV⟩:=m7.mp h1;rw[aV]at h2;obtain⟨u,rfl,aY⟩:=i3.mp h2;rw[Je aV,Je aY]
noncomputable def noObj(f:Str):Bool:=match fastLookup "object" f with
 |some none=>aw
 |_=>aS
def Tv(q:Program)(loose:List Str)(cs:List (Str×List Str×List Str)):Bool:=cs.all λp=>(plainsOf q loose).any λr=>((r.name==p.1&&p.2.1.contains "__init__")&&r.cmpNames==(["__eq__", "__ne__"]:List Str))&&(p.2.1.all λm=>r.meths.any λpJ=>pJ.name==m&&zo pJ.params pJ.scope)&&p.2.2.all λf=>r.statics.contains f&&noObj f
theorem base_of(T:Top q loose agk mg mb h)(TE:TopE q loose mg h)(Wa:WV q gs=aw)(he:Nq q=tab)(aX:(recsOf q).all recOk=aw)(au:ZC q loose=aw)
  (aA:Tv q loose cs=aw) (hm:(DL q loose).map (λp=>(CQ tab mtab gs cs).at (jq p.1.name p.2.name))=(DL q loose).map λp=>I (DW p.2)) :
  i0 (CQ tab mtab gs cs) mg mb h where
 own:=λc ms sG=>by
  have aA:=List.all_eq_true.mp aA (c,ms) (mem_of_lookup sG);refine aB λae=>?_;obtain⟨r,pO,aA⟩:=HP.mp aA;simp only [Bool.and_eq_true]at aA;obtain⟨⟨⟨⟨h1,h2⟩,aE⟩,h3⟩,bY⟩:=aA;have aE:r.cmpNames=(["__eq__", "__ne__"]:List Str):=eq_of_beq aE;have h1:r.name=c:=eq_of_beq h1;subst h1;obtain⟨C,N,gz,hg,kq⟩:=TE r pO;have P:=kq.ofCmp;refine ae ⟨C,N,gz,hg,P.cls,P.quiet _ (jG _ (by decide)),P.quiet _ (jG _ (by decide)),P.quiet _ (jG _ (by decide)),⟨kq.quiet _ (iH _ (iH _ (by rw[aE];exact .head _))),kq.quiet _ (iH _ (iH _ (by rw[aE];exact .tail _ (.head _))))⟩,λf aZ=>?_,vT.mp h2,λm gZ=>?_⟩
  ·have:=List.all_eq_true.mp bY f aZ;rw[Bool.and_eq_true]at this;refine⟨P.quiet f (iH _ (vT.mp this.1)),?_⟩;rw[pa,ql];have:=this.2;unfold noObj at this
   induction e:fastLookup "object" f with
   |none=>rw[e]at this;exact fw this
   |some y=>induction y using Option.casesOn with
    |none=>rfl
    |some _=>rw[e]at this;exact fw this
  ·refine aB λae=>?_;obtain⟨pJ,LV,c0⟩:=HP.mp (List.all_eq_true.mp h3 m gZ);rw[Bool.and_eq_true]at c0;have dH:pJ.name=m:=eq_of_beq c0.1;subst dH;obtain⟨f,o,pm,cd,doc,d8,eD,mE,zz,Tg⟩:=P.meths pJ LV;refine ae ⟨f,DW pJ,o,d8,?_,⟨o,_,eD,zz,Jp c0.2,Tg⟩,eD,mE⟩;exact List.map_inj_left.mp hm (r,pJ) (List.mem_flatMap.mpr ⟨r,pO,ez.mpr ⟨pJ,LV,aa⟩⟩)
 g:=T.g
 b:=T.b
 nolimit:=T.nolimit
 fn:=λf fn aZ=>by
  subst he;refine aB λae=>?_;obtain⟨d,hd,rfl,rfl⟩:=KU aZ;obtain⟨a,o,pm,code,doc,h1,h2,h3,bY⟩:=T.fn d hd;exact ae ⟨a,h1,o,_,h2,h3,Jp (List.all_eq_true.mp aX d hd),bY⟩
 blt:=λf aZ ao=>by
  have:=List.all_eq_true.mp au f aZ;simp only [Bool.and_eq_true,Bool.not_eq_true']at this;refine aB λae=>?_;obtain⟨⟨⟨⟨h1,h2⟩,h3⟩,bY⟩,c0⟩:=this;have se:∀{l:List Str},l.contains f=aS->f∉l:=λh hm=>by
   rw[vT.mpr hm]at h;exact kD h
  refine ae ?_;exact⟨T.free f (se h1) (se h2) (se h3) (se bY) (se c0),T.builtins f (by
   intro e;subst e;exact absurd h1 (by decide +kernel))⟩
 const:=λx v ak=>by
  refine aB λae=>?_;obtain⟨d,h1,h2⟩:=i3.mp (Sx (List.all_eq_true.mp Wa _ (mem_of_lookup (show gs.lookup x=I v from ak))):MH q x=I v);obtain⟨val,hm,aX⟩:=T.const x d h1;refine ae ⟨val,hm,λρ h'=>?_⟩;have aX:=aX h'
  cases d with
  |none=>cases h2;cases aX;exact .none
  |bool b=>cases h2;cases aX;exact .bool b
  |int i=>cases h2;cases aX;exact .int i _
  |str s=>
   have h2:(if hu s then I (V.str s) else U)=I v:=h2
   split at h2
   ·rename_i az;cases h2;cases aX;exact .str s _ az
   ·exact a5 h2
  |_=>exact a5 h2
theorem U7(q:IntsAre vs zs):b8 ρ h vs (zs.map .int):=by
 induction q with
 |nil=>exact .nil
 |cons i t _ aj=>exact .cons (.int i t) aj
theorem law_run(B:i0 tx mg mb s₁.heap)(nQ:p6.all (λx=>(tx.fns x).isNone)=aw)(hm:mg "law" = I (.ref fa))
  (aZ:(tx.fns "law").isSome=aw) (hl:s₁.heap.get? la=I (en vs n)) (hI:IntsAre vs zs) (hlen:zs.length<=63) (ok:O0 tx d) (aT:e4 A d) :
  wpAny (model prog w) A (call (.ref fa) [.ref la]) (λv s'=>v=.bool aw/\(∀b o,s₁.heap.get? b=I o->s'.heap.get? b=I o)/\s'.os=s₁.os/\s'.gens=s₁.gens) (λaf aJ=>False) s₁:=by
 obtain⟨ag,nP⟩:=ok zs hlen;have E0:Bx tx:=λf aZ=>by
  have:=List.all_eq_true.mp nQ f aZ
  induction e:tx.fns f with
  |none=>rfl
  |some _=>rw[e]at this;exact fw this
 have Vr:vs.length<=sizeLine:=by
  have h1:∀{vs:List Value}{zs:List Int},IntsAre vs zs->vs.length=zs.length:=by
   intro vs zs h
   induction h with
   |nil=>rfl
   |cons _ _ _ aj=>simp [aj]
  rw[h1 hI];exact b0 hlen (by decide)
 have hinv:Inv ⟨prog,w,s₁.heap⟩ [.list (zs.map .int)] [(la,0)] s₁.heap:=
  {base:=λaf aJ e=>e
   len:=rfl
   objs:=λk o p av ay=>by
    induction k with
    |zero=>cases av;cases ay;exact⟨vs,n,hl,Vr,U7 hI⟩
    |succ k=>exact a5 ay
   fresh:=λk p e ar=>by
    induction k with
    |zero=>cases ar
    |succ k=>exact a5 e
   apart:=λi j p q av ay kT=>by
    induction i with
    |zero=>
     induction j with
     |zero=>exact absurd aa kT
     |succ j=>exact a5 ay
    |succ i=>exact a5 av }
 obtain⟨fn,mO⟩:=m7.mp aZ;obtain⟨agJ,gZ,uh⟩:=B.fn _ fn mO;rw[hm]at gZ;cases gZ;have:=NQ (prog:=prog) (w:=w) B E0 d "law" fn fa [.ref 0] [.ref la] _ _ s₁ A aT.weak (by unfold ih.at;rw[mO];rfl) uh (.cons (.ref (d:=0) aa) .nil) hinv;rw[show(A5 tx d).call "law" [.ref 0] [.list (zs.map .int)]=.ok (.bool aw) ag from nP]at this;refine ei this (λv s' hp=>?_) λaf aJ f=>f;obtain⟨aU,h',bj,rfl,i,x,r⟩:=hp;cases r;exact⟨aa,i.base,aa,aa⟩
theorem list_at(hL:h.IsList la vs.toArray)(hw:Well P h (.ref la) (.list xs)):h.get? la=I (en vs 0):=by
 cases hw with
 |list pU _=>
  obtain⟨b2,iS,_,nn,As⟩:=hL;replace iS:=pU ▸ iS;cases iS;rw[pU,((Data.seq.inj As).1:_=vs.toArray)];rfl
theorem room_caller(h:d<=200):e4 callerA d where
 handled:=rfl
 depth:=by
  refine(?_:1+claimMargin+2*d<recursionLimit);have:1+claimMargin+2*200<recursionLimit:=by decide
  exact cb 0xC1090422842000020304264782211421000010991E09041 aa h this
 units:=by
  refine(?_:4+16*d+300<cLine);have:(4:Nat)+16*200+300<cLine:=by decide
  exact bF 0x28429678248088100001014214B3C1323C180881000010991E09201 aa h this
end Mine.Internal

end

set_option backward.match.sparseCases false
namespace Mine.Internal
open PySem
def Wp{α:Type}(σ:aN)(m:M α)(Q:α->aN->Prop):Prop:=∃a ag,m σ=.ok a ag/\Q a ag
section
variable {α β:Type}{σ ag:aN}{m n:M α}{f:α->M β}{a:α}
theorem jR(h:m σ=.ok a ag)(q:Q a ag):Wp σ m Q:=⟨a,ag,h,q⟩
theorem al{Q:β->aN->Prop}(h:m σ=.ok a ag)(k:Wp ag (f a) Q):Wp σ (m>>=f) Q:=
 by obtain⟨b,τ,e,q⟩:=k;exact⟨b,τ,(a4 h).trans e,q⟩
theorem Wp.step{P:α->aN->Prop}{Q:β->aN->Prop}(h:Wp σ m P)(k:∀a ag,P a ag->Wp ag (f a) Q):Wp σ (m>>=f) Q:=
 by obtain⟨a,bl,e,p⟩:=h;exact al e (k a bl p)
theorem Wp.mono(h:Wp σ m Q)(aH:∀a ag,Q a ag->hR a ag):Wp σ m hR:=by obtain⟨a,ag,e,q⟩:=h;exact⟨a,ag,e,aH a ag q⟩
theorem bZ(h:Q a σ):Wp σ (Pure.pure a:M α) Q:=⟨a,σ,aa,h⟩
theorem tg(h1:b=aw->Wp σ m Q)(h2:b=aS->Wp σ n Q):Wp σ (M.cond b m n) Q:=by
 induction b with
 |true=>exact h1 aa
 |false=>exact h2 aa
theorem gD(h:b=aw)(k:Wp σ m Q):Wp σ (M.cond b m n) Q:=by subst h;exact k
theorem d3(h:b=aS)(k:Wp σ n Q):Wp σ (M.cond b m n) Q:=by subst h;exact k
theorem JW{a b:Int}(h:Small a\/Small b):binop .Mult (.int a) (.int b) σ=.ok (.int (a*b)) σ:=by show(if Small a\/Small b then pure (V.int (a*b)) else M.bad:M V) σ=_;rw[aK h];rfl
theorem JV{a b:Int}(h:Small b):binop .Mult (.int a) (.int b) σ=.ok (.int (a*b)) σ:=JW (.inr h)
theorem S8{a b:Int}(h:Small a):binop .Mult (.int a) (.int b) σ=.ok (.int (a*b)) σ:=JW (.inl h)
def Hc(b:Int):Prop:=0<b/\b<18446744073709551616
noncomputable instance (b:Int):Decidable (Hc b):=inferInstanceAs (Decidable (_/\_))
theorem qL{a b:Int}(h:Hc b):binop .FloorDiv (.int a) (.int b) σ=.ok (.int (a / b)) σ:=by
 show(if b≠0/\Small b then pure (V.int (a.fdiv b)) else M.bad:M V) σ=_;have h1:=h.1;have h2:=h.2;rw[aK ⟨P1 h1,B8 (by decide) h1,h2⟩,Int.fdiv_eq_ediv_of_nonneg a (by exact vW ‹_›)];rfl
theorem mC{a b:Int}(h:Hc b):binop .Mod (.int a) (.int b) σ=.ok (.int (a % b)) σ:=by
 show(if b≠0/\Small b then pure (V.int (a.fmod b)) else M.bad:M V) σ=_;have h1:=h.1;have h2:=h.2;rw[aK ⟨P1 h1,B8 (by decide) h1,h2⟩,Int.fmod_eq_emod_of_nonneg a (by exact vW ‹_›)];rfl
variable {k:Nat}{l:List V}{v x:V}{i:Int}
theorem lA(h:σ[k]? =I o):jc k σ=.ok o σ:=by rw[pZ,h]
theorem jn(h:σ[k]? =I (.list l)):fb k σ=.ok l σ:=by rw[kh,h]
theorem DJ{m:Nat}(aE:0<=i)(h1:i<m):place i m=I i.toNat:=by unfold place;rw[aK aE,aK h1]
theorem ZS(aE:0<=i)(ak:l[i.toNat]? =I x):i<l.length:=by have:=cE ak;exact Uv ‹_› ‹_›
theorem wJ(aE:0<=i)(ak:l[i.toNat]? =I x):item (.tup l) (.int i) σ=.ok x σ:=by
 refine(?_:bD ((place i l.length).bind λj=>l[j]?) σ=_);rw[DJ aE (ZS aE ak)];refine(?_:bD (l[i.toNat]?) σ=_);rw[ak];rfl
theorem ir(h:σ[k]? =I (.list l))(aE:0<=i)(ak:l[i.toNat]? =I x):item (.ref k) (.int i) σ=.ok x σ:=
 (a4 (lA h)).trans (wJ (σ:=σ) aE ak)
theorem gI:item (.tup (x::r)) (.int 0) σ=.ok x σ:=wJ (by decide) aa
theorem qK:item (.tup (y::x::r)) (.int 1) σ=.ok x σ:=wJ (by decide) aa
theorem wK:item (.tup (z::y::x::r)) (.int 2) σ=.ok x σ:=wJ (by decide) aa
theorem oC(h:σ[k]? =I (.list l)):km (.ref k) σ=.ok (.int l.length) σ:=a4 (jn h)
theorem nw(h:σ[k]? =I (.list l)):eY (.ref k) σ=.ok (.lst k) σ:=a4 (lA h)
theorem qJ(h:-1000000<=i/\i<=1000000):nv (.int i) σ=.ok (.vals (i9 0 i)) σ:=by
 show(if -1000000<=i/\i<=1000000 then pure (Src.vals (i9 0 i)) else M.bad:M Src) σ=_;rw[aK h];rfl
theorem wG(h:σ[k]? =I (.list l)):oW (.ref k) σ=.ok (.tup l) σ:=a4 (jn h)
theorem ly(h:σ[k]? =I (.list l))(e:z1 t=I g):c3 (d9 C (.ref k) t) σ=.ok g σ:=by
 rw[hP];have hl:lJ σ k=aw:=by unfold lJ;rw[h]
 have:d9 C (.ref k) t σ=I g:=by
  show(if lJ σ k=aw then _ else _)=_;rw[aK hl];exact e
 rw[this]
theorem oD(h:σ[k]? =I (.list l))(ar:0<k)(hl:l.length<sizeLine):runM C nm .append (.ref k) [v] σ=.ok .none (σ.set k (.list (l++[v]))):=by
 refine(a4 (jn h)).trans ?_;show(if l.length+1<=sizeLine then (oA k (.list (l++[v]))>>=λaf=>pure V.none) else M.bad) σ=_;rw[aK (show l.length+1<=sizeLine from hl),a4 (rX ar (cE h))];rfl
theorem DA{j:Nat}{m:List V}(h:σ[k]? =I (.list l))(h':σ[j]? =I (.list m))(hl:l.length+m.length<=sizeLine):binop .Add (.ref k) (.ref j) σ=.ok (.ref σ.length) (σ++[.list (l++m)]):=by
 refine(a4 (jn h)).trans ((a4 (jn h')).trans ?_);show(if l.length+m.length<=sizeLine then cH (.list (l++m)) else M.bad) σ=_;rw[aK hl];rfl
theorem wI(h:σ[k]? =I (.list l)):j7 lo aI (.ref k) σ=.ok (.ref σ.length) (σ++[.list (cut l lo aI)]):=a4 (jn h)
theorem Dx(h:σ[k]? =I (.list l))(aM:j5 σ x l=I b):cmp .NotIn x (.ref k) σ=.ok (.bool (!b)) σ:=by
 show(among x k>>=λb=>pure (V.bool (!b))) σ=_;unfold among;rw[M.assoc];refine(a4 (lA h)).trans (a4 (a:=b) (ag:=σ) (by rw[hP,aM]))
theorem r6(h:ej σ x y=I b):cmp .Eq x y σ=.ok (.bool b) σ:=by show c3 (λσ=>((ej σ x y).or (s3 σ x y)).map V.bool) σ=_;rw[hP,h];rfl
theorem Dy(h:ej σ x y=I b):cmp .NotEq x y σ=.ok (.bool (!b)) σ:=by show c3 (λσ=>(ej σ x y).map λe=>V.bool (!e)) σ=_;rw[hP,h];rfl
theorem Tc(h:σ[k]? =I (.list l))(aM:j5 σ x l=I aw)(bh:qC σ x l 0=I j):runM C nm .index (.ref k) [x] σ=.ok (.int j) σ:=by
 refine(a4 (jn h)).trans ?_;rw[hP,aM,bh];rfl
theorem wH(h:σ[k]? =I (.list l))(WM:l.length<64)(az:zi l=I o):mT (.ref k) σ=.ok (.ref σ.length) (σ++[.list o]):=by
 refine(a4 (jn h)).trans ?_;rw[aK WM];exact a4 (a:=o) (ag:=σ) (by rw[az];rfl)
variable {d:Nat}{t:Tab}{key:Key}
theorem lz(h:σ[k]? =I (.dict d t))(au:keyOf v=I key)(ak:dF t key=I x):item (.ref k) v σ=.ok x σ:=by
 have e:item (.ref k) v=(jc k>>=λo=>match o with|.list l=>z6 l v|.dict _ l=>bD ((keyOf v).bind (dF l))|.eC _ l=>bD ((ll v).bind (j6 l))|_=>M.bad):=by cases v <;> rfl
 rw[e];refine(a4 (lA h)).trans ?_;refine(?_:bD ((keyOf v).bind (dF t)) σ=_);rw[au];refine(?_:bD (dF t key) σ=_);rw[ak];rfl
theorem Dv(h:σ[k]? =I (.dict d t))(ar:0<k)(au:keyOf v=I key)(hl:t.length<sizeLine):setItem (.ref k) v x σ=.ok () (σ.set k (.dict (d+1) (kY t key x))):=by
 refine(a4 (lA h)).trans ?_;refine(?_:rZ k t v x σ=_);unfold rZ;rw[au];refine(?_:(if t.length+1<=sizeLine then putD k (kY t key x) else M.bad) σ=_);rw[aK (show t.length+1<=sizeLine from hl),zB ar h]
theorem Td(h:σ[k]? =I (.dict d t))(au:keyOf v=I key):cmp .In v (.ref k) σ=.ok (.bool (dF t key).isSome) σ:=by
 refine(?_:(among v k>>=λb=>pure (V.bool b)) σ=_);unfold among;rw[M.assoc];refine(a4 (lA h)).trans ?_;refine(?_:(bD ((keyOf v).map λk=>(dF t k).isSome)>>=λb=>(pure (V.bool b):M V)) σ=_);rw[au];rfl
theorem Dw(h:σ[k]? =I (.dict d t))(au:keyOf v=I key):cmp .NotIn v (.ref k) σ=.ok (.bool (!(dF t key).isSome)) σ:=by
 refine(?_:(among v k>>=λb=>pure (V.bool (!b))) σ=_);unfold among;rw[M.assoc];refine(a4 (lA h)).trans ?_;refine(?_:(bD ((keyOf v).map λk=>(dF t k).isSome)>>=λb=>(pure (V.bool (!b)):M V)) σ=_);rw[au];rfl
theorem zx(h:σ[k]? =I (.dict d t)):n3 (.ref k) σ=.ok (.ref σ.length) (σ++[.list (t.map λp=>h7 p.1)]):=a4 (lA h)
theorem Du(h:σ[k]? =I (.dict d t)):eY (.ref k) σ=.ok (.keys k d (t.map λp=>h7 p.1)) σ:=a4 (lA h)
theorem JS(h:σ[k]? =I (.dict d t)):c3 (d9 C (.ref k) "setdefault") σ=.ok .setdefault σ:=by
 rw[hP];have hl:¬lJ σ k=aw:=by unfold lJ;rw[h];exact qw
 have hd:oJ σ k=aw:=by unfold oJ;rw[h]
 have:d9 C (.ref k) "setdefault" σ=I .setdefault:=by
  show(if lJ σ k=aw then _ else if oJ σ k=aw then _ else _)=_;rw[aR hl,aK hd];rfl
 rw[this]
theorem JY(h:σ[k]? =I (.dict d t)):MI k σ=.ok t σ:=by
 have e:dictAt σ k=I t:=by unfold dictAt;rw[h]
 refine(?_:c3 _ σ=_);rw[hP,e]
theorem J2(h:σ[k]? =I (.dict d t))(au:keyOf v=I key)(ak:dF t key=I y):runM C nm .setdefault (.ref k) [v,x] σ=.ok y σ:=by
 refine(a4 (JY h)).trans ?_;rw[au];dsimp only;rw[ak];rfl
theorem J1(h:σ[k]? =I (.dict d t))(ar:0<k)(au:keyOf v=I key)(ak:dF t key=U)(hl:t.length<sizeLine):runM C nm .setdefault (.ref k) [v,x] σ=.ok x (σ.set k (.dict (d+1) (kY t key x))):=by
 refine(a4 (JY h)).trans ?_;rw[au];dsimp only;rw[ak];dsimp only;rw[aK (show t.length+1<=sizeLine from hl),a4 (zB ar h)];rfl
theorem Tb(h:σ[k]? =I (.eC d w))(au:ll v=I q)(ak:j6 w q=I x):item (.ref k) v σ=.ok x σ:=by
 have e:item (.ref k) v=(jc k>>=λo=>match o with|.list l=>z6 l v|.dict _ l=>bD ((keyOf v).bind (dF l))|.eC _ l=>bD ((ll v).bind (j6 l))|_=>M.bad):=by cases v <;> rfl
 rw[e];refine(a4 (lA h)).trans ?_;refine(?_:bD ((ll v).bind (j6 w)) σ=_);rw[au];refine(?_:bD (j6 w q) σ=_);rw[ak];rfl
theorem Jt(h:σ[k]? =I o)(aM:nh o=I d)(ar:0<k)(au:ll v=I q)(hl:w.length<sizeLine):pC k w v x σ=.ok () (σ.set k (.eC (d+1) (mz w q x))):=by
 unfold pC;rw[au];refine(?_:(if w.length+1<=sizeLine then zA k (mz w q x) else M.bad) σ=_);rw[aK (show w.length+1<=sizeLine from hl)];refine(?_:(match σ[k]?.bind nh with|some v=>if 0<k then Res.ok () (σ.set k (.eC (v+1) (mz w q x))) else .bad|none=>.bad)=_);rw[h];refine(?_:(match nh o with|some v=>if 0<k then Res.ok () (σ.set k (.eC (v+1) (mz w q x))) else .bad|none=>.bad)=_);rw[aM];exact aK ar
theorem S4(h:σ[k]? =I (.eC d w))(ar:0<k)(au:ll v=I q)(hl:w.length<sizeLine):setItem (.ref k) v x σ=.ok () (σ.set k (.eC (d+1) (mz w q x))):=
 (a4 (lA h)).trans (Jt h aa ar au hl)
theorem S3(h:σ[k]? =I (.dict d []))(ar:0<k)(au:ll (.tup l)=I q):setItem (.ref k) (.tup l) x σ=.ok () (σ.set k (.eC (d+1) [(q,x)])):=
 (a4 (lA h)).trans (Jt (w:=[]) h aa ar au (by decide))
theorem S5(h:σ[k]? =I (.list (l++[v])))(ar:0<k):runM C nm .pop (.ref k) [] σ=.ok v (σ.set k (.list l)):=by
 refine(a4 (jn h)).trans ?_;rw[List.getLast?_concat];show(oA k (.list (l++[v]).dropLast)>>=λaf=>pure v) σ=_;rw[a4 (rX ar (cE h)),List.dropLast_concat];rfl
theorem Te{C:Cfg}{nm:Str}{j:Nat}{m:List V}(h:σ[k]? =I (.list l))(h':σ[j]? =I (.list m))(ar:0<k)(cv:k≠j)(hl:l.length+m.length<=sizeLine):runM C nm .extend (.ref k) [.ref j] σ=.ok .none (σ.set k (.list (l++m))):=by
 refine(a4 (jn h)).trans ((a4 (jn h')).trans ?_);rw[aK ⟨cv,hl⟩,a4 (rX ar (cE h))];rfl
theorem J0(h:σ[k]? =I (.list l)):xX (.ref k) σ=.ok (.enum k) σ:=a4 (jn h)
theorem JT(h:σ[k]? =I (.list l)):r3 (.ref k) σ=.ok (.rev k l.length) σ:=a4 (jn h)
theorem S6:cmp .IsNot x .none σ=.ok (.bool (!isNone x)) σ:=rfl
theorem fm{a b:Str}:cmp .Eq (.str a) (.str b) σ=.ok (.bool (a==b)) σ:=rfl
theorem S7{a b:Str}:cmp .NotEq (.str a) (.str b) σ=.ok (.bool (!(a==b))) σ:=rfl
theorem zy{a b:Int}:cmp .Eq (.int a) (.int b) σ=.ok (.bool (a==b)) σ:=rfl
theorem v9{a b:Nat}{c fG:Str}{j xa:Nat}(aV:σ[a]? =I (.inst c j))(au:σ[b]? =I (.inst fG xa)):ej σ (.ref a) (.ref b)=I (a==b):=by
 have av:gW σ a=I c:=by unfold gW;rw[aV]
 have ay:gW σ b=I fG:=by unfold gW;rw[au]
 have dB:toPy σ (.ref a)=U:=by refine(?_:ip σ 4 a=U);rw[IS,aV]
 unfold ej;rw[dB];refine(?_:xW σ a (.ref b)=_);unfold xW;dsimp only;rw[av,ay]
variable {C:Cfg}{c nm:Str}{j:Nat}{aD:List (Str×V)}{ms:List Str×List Str}
theorem lB(h:σ[k]? =I (.inst c j))(h':σ[j]? =I (.bT aD))(aA:C.cls c=I ms)(hm:ms.2.contains nm=aw)(aM:aD.lookup nm=I v):cL C nm (.ref k) σ=.ok v σ:=by
 show c3 (λσ=>(gW σ k).bind λc=>(C.cls c).bind λms=>if ms.2.contains nm then (p0 σ k).bind λl=>l.lookup nm else U) σ=_;have av:gW σ k=I c:=by unfold gW;rw[h]
 have ay:p0 σ k=I aD:=by unfold p0;rw[h];dsimp only;rw[h']
 rw[hP,av,ay];dsimp only [Option.bind];rw[aA];dsimp only;rw[aK hm,aM]
theorem zw(h:σ[k]? =I (.inst c j))(h':σ[j]? =I (.bT aD))(bh:0<j)(aA:C.cls c=I ms)(hm:ms.2.contains nm=aw)(hl:aD.length<sizeLine):dT C nm v (.ref k) σ=.ok () (σ.set j (.bT (hK aD nm v))):=by
 have av:gW σ k=I c:=by unfold gW;rw[h]
 refine(a4 (a:=()) (ag:=σ) ?_).trans ?_
 ·rw[hP,av];dsimp only [Option.bind];rw[aA];dsimp only;rw[aK hm]
 ·refine(?_:(match σ[k]? with|some (.inst _ j)=>(match σ[j]? with|some (.bT l)=>if 0<j/\l.length+1<=sizeLine then Res.ok () (σ.set j (.bT (hK l nm v))) else .bad|_=>.bad)|_=>.bad)=_);rw[h];refine(?_:(match σ[j]? with|some (.bT l)=>if 0<j/\l.length+1<=sizeLine then Res.ok () (σ.set j (.bT (hK l nm v))) else .bad|_=>.bad)=_);rw[h'];exact aK ⟨bh,hl⟩
theorem JR(h:σ[k]? =I (.inst c j))(h':σ[j]? =I (.bT aD))(aA:C.cls c=I ms)(hm:(ms.1.contains nm&&(aD.lookup nm).isNone)=aw):c3 (d9 C (.ref k) nm) σ=.ok (.own c) σ:=by
 have av:gW σ k=I c:=by unfold gW;rw[h]
 have ay:p0 σ k=I aD:=by unfold p0;rw[h];dsimp only;rw[h']
 have dB:¬lJ σ k=aw:=by unfold lJ;rw[h];exact qw
 have eM:ue C nm σ k=I c:=by
  unfold ue;rw[av,ay];dsimp only [Option.bind];rw[aA];dsimp only;rw[aK hm]
 have:d9 C (.ref k) nm σ=I (.own c):=by
  show(if lJ σ k=aw then _ else if oJ σ k=aw then _ else (ue C nm σ k).map qe.own)=_;have mS:¬oJ σ k=aw:=by unfold oJ;rw[h];exact qw
  rw[aR dB,aR mS,eM];rfl
 rw[hP,this]
end
section
variable {C:Cfg}{target elt:Expr}{body:List Stmt}{ifs:List Expr}{scope:Scope}{ns:cC}{σ:aN}
def Walks(b7:Src)(l:List V)(J:aN->Prop):Prop:=∀σ,J σ->(∀i,b7.at σ i=I l[i]?)/\b7.size σ=I l.length
theorem mx:Walks (.vals l) l J:=λσ af=>⟨λaf=>aa,aa⟩
theorem nf(h:∀σ,J σ->σ[n]? =I (.list l)):Walks (.lst n) l J:=λσ bh=>by
 have e:listAt σ n=I l:=by unfold listAt;rw[h σ bh]
 exact⟨λi=>by refine(?_:(listAt σ n).map _=_);rw[e];rfl,by refine(?_:(listAt σ n).map _=_);rw[e];rfl⟩
theorem Cn(h:∀σ,J σ->my σ n=I v):Walks (.keys n v l) l J:=λσ bh=>by
 exact⟨λi=>by refine(?_:(if my σ n=I v then _ else _)=_);rw[aK (h σ bh)],by refine(?_:(if my σ n=I v then _ else _)=_);rw[aK (h σ bh)]⟩
theorem Ic(h:∀σ,J σ->σ[n]? =I (.list l)):Walks (.enum n) (l.mapIdx λ(i:Nat) x=>V.tup [.int i,x]) J:=λσ bh=>by
 have e:listAt σ n=I l:=by unfold listAt;rw[h σ bh]
 exact⟨λi=>by refine(?_:(listAt σ n).map _=_);rw[e,HM];rfl,by refine(?_:(listAt σ n).map _=_);rw[e,HI];rfl⟩
theorem Qx(h:∀σ,J σ->σ[n]? =I (.list l))(ar:l.length=k):Walks (.rev n k) l.reverse J:=λσ bh=>by
 have e:listAt σ n=I l:=by unfold listAt;rw[h σ bh]
 refine⟨λi=>?_,?_⟩
 ·refine(?_:(listAt σ n).bind (λl=>if l.length=k then I l.reverse[i]? else U)=_);rw[e];exact aK ar
 ·refine(?_:(listAt σ n).bind (λl=>if l.length=k then I k else U)=_);rw[e,qr,ar];exact aK ar
def Bh(J:aN->Prop)(z:k2)(l:List V):Prop:=∀σ,J σ->z.all σ=I l
theorem Qf:Bh J (.tup l) l:=λaf aJ=>aa
theorem Cd(h:∀σ,J σ->σ[n]? =I (.list l)):Bh J (.lst n) l:=λσ bh=>by
 refine(?_:listAt σ n=_);unfold listAt;rw[h σ bh]
theorem Ib(aV:Bh J a l)(au:Bh J b m):Walks (.zip a b c) ((l.zip m).map λp=>V.tup [p.1,p.2]) J:=λσ bh=>by
 refine⟨λi=>?_,?_⟩
 ·refine(?_:(a.all σ).bind (λl=>(b.all σ).map λm=>pairUp l[i]? m[i]?)=_);rw[aV σ bh,au σ bh,e6,B4,B6];refine(?_:I (pairUp l[i]? m[i]?)=_)
  induction l[i]? with
  |none=>rfl
  |some x=>cases m[i]? <;> rfl
 ·refine(?_:(a.all σ).bind (λl=>(b.all σ).map λm=>min l.length m.length)=_);rw[aV σ bh,au σ bh,bC,yJ];rfl
def Turn(P:Nat->Loc->aN->Prop)(Q:bE×Loc->aN->Prop)(i:Nat)(r:bE×Loc)(σ:aN):Prop:=match r.1 with
 |.next=>P (i+1) r.2 σ
 |.ret _=>Q r σ
 |_=>False
theorem Xg{b7:Src}{l:List V}{bt:V->Loc->M Loc}{bd:Loc->M (bE×Loc)}{J:aN->Prop}(hw:Walks b7 l J)(P:Nat->Loc->aN->Prop)(pY:∀i loc σ,P i loc σ->J σ){Q:bE×Loc->aN->Prop}
  (step:∀i v loc σ,l[i]? =I v->P i loc σ->Wp σ (bt v loc>>=bd) (Turn P Q i))
  (fin:∀loc σ,P l.length loc σ->Q (.next,loc) σ):∀(k i:Nat) (loc:Loc) (σ:aN),l.length+1<=i+k->i<=l.length->P i loc σ->Wp σ (forLoop b7 bt bd k i loc) Q:=by
 intro k
 induction k with
 |zero=>
  intro i loc σ h1 h2 _;exact er (bF 0x42108085084012802120021 aa h1 h2)
 |succ k aj=>
  intro i loc σ h1 h2 p;obtain⟨df,_⟩:=hw σ (pY i loc σ p);have ay:=MN (bt:=bt) (body:=bd) (k:=k) (loc:=loc) (df i);rcases i4 i l.length with hl|hl
  ·have aM:l[i]? =I l[i]:=cD hl;rw[aM]at ay;refine aB λae=>?_;obtain⟨⟨fl,bP⟩,ag,e,aX⟩:=step i l[i] loc σ aM p;replace ay:=ay.trans (a4 (m:=bt l[i] loc>>=bd) e);refine ae ?_
   induction fl with
   |next=>
    refine aB λae=>?_;obtain⟨a,τ,dB,q⟩:=aj (i+1) bP ag (by exact cb 0x304250002120020084C02802120021 aa h1) (by exact hl) aX;exact ae ⟨a,τ,ay.trans dB,q⟩
   |ret u=>exact⟨_,ag,ay,aX⟩
   |brk=>exact aX.elim
   |cont=>exact aX.elim
  ·have:i=l.length:=by exact iF (bF 0x2902029021 aa h2) (bF 0x2902029021 aa hl)
   subst this;rw[hW (bx _)]at ay;exact⟨_,σ,ay,fin loc σ p⟩
theorem FR{α:Type}{K:bE×Loc->M α}{oH:Loc->M α}{loc:Loc}:fO K oH (.next,loc)=oH loc:=rfl
theorem jz{α:Type}{b7:Src}{l:List V}{J:aN->Prop}{K:bE×Loc->M α}{oH:Loc->M α}(hr:jm b7 target=aw)(hw:Walks b7 l J)(P:Nat->Loc->aN->Prop)(pY:∀i loc σ,P i loc σ->J σ){Q:α->aN->Prop}{loc:Loc}(aE:P 0 loc σ)
  (step:∀i v loc σ,l[i]? =I v->P i loc σ->Wp σ (bindTo (stLoc ns) target v loc>>=dw C body ns) (Turn P (λr ag=>Wp ag (K r) Q) i))
  (fin:∀loc σ,P l.length loc σ->Wp σ (oH loc) Q):Wp σ (iV C target body b7 ns loc>>=fO K oH) Q:=by
 obtain⟨_,cV⟩:=hw σ (pY 0 loc σ aE);refine Wp.step (P:=λr ag=>Wp ag (fO K oH r) Q) ?_ λaf aJ q=>q;unfold iV;rw[aK hr];refine al (a:=l.length) (ag:=σ) (by unfold Src.count;rw[hP,cV]) (Xg hw P pY (λi v loc σ aM hp=>(step i v loc σ aM hp).mono λr ag aP=>?_) (λloc σ hp=>by rw[FR];exact fin loc σ hp) (l.length+1) 0 loc σ (by exact cp 0x1090000802120020 aa) (by exact cp 0x400420 aa) aE);obtain⟨fl,bP⟩:=r
 induction fl with
 |next=>exact aP
 |ret u=>exact aP
 |brk=>exact aP
 |cont=>exact aP
def GU(P:Nat->Loc->aN->Prop)(Q:bE×Loc->aN->Prop)(k:Nat)(r:bE×Loc)(σ:aN):Prop:=match r.1 with
 |.next=>∃j,j<k/\P j r.2 σ
 |.ret _=>Q r σ
 |_=>False
theorem Ia:∀(k j:Nat) (loc:Loc) (σ:aN),k<=j->iJ tt bd k loc σ≠.bad->iJ tt bd j loc σ=iJ tt bd k loc σ:=by
 intro k
 induction k with
 |zero=>intro j loc σ _ h;exact absurd aa h
 |succ k aj=>
  intro j loc σ bh h;refine aB λae=>?_;obtain⟨j,rfl⟩:∃i,j=i+1:=⟨j-1,by exact rS (b0 (qp _ _) ‹_›)⟩;obtain⟨c,bl,av,ay⟩:=ya h;refine ae ((a4 (f:=λc=>M.cond c _ _) av).trans (.trans ?_ ay.symm));replace h:=λau=>h (ay.trans au)
  induction c with
  |false=>rfl
  |true=>
   refine aB λae=>?_;obtain⟨r,dt,dB,eM⟩:=ya (show(bd loc>>=λr=>_) bl≠.bad from h);refine ae ((a4 (m:=bd loc) dB).trans (.trans ?_ eM.symm));replace h:=λau=>h (eM.trans au);obtain⟨fl,bP⟩:=r
   induction fl with
   |next=>exact aj j bP dt (by exact PE bh) h
   |cont=>exact aj j bP dt (by exact PE bh) h
   |brk=>rfl
   |ret v=>rfl
theorem Cm(h:iJ tt bd k loc σ=.ok r ag):tT tt bd loc σ=.ok r ag:=by
 have au:iJ tt bd k loc σ≠.bad:=by rw[h];exact nofun
 have e:tT tt bd loc σ=ot tt bd loc σ:=by
  show(ot tt bd loc σ).bind Res.ok=_;cases ot tt bd loc σ <;> rfl
 have hex:∃n,iJ tt bd n loc σ≠.bad:=⟨k,au⟩;rw[e];unfold ot;rw[dif_pos hex,<-h];rcases PD k (Classical.choose hex) with hl|hl
 ·exact Ia _ _ _ _ hl au
 ·exact(Ia _ _ _ _ hl (HX hex)).symm
theorem Of{α:Type}{t:Expr}{K:bE×Loc->M α}{oH:Loc->M α}(P:Nat->Loc->aN->Prop){Q:α->aN->Prop}{loc:Loc}{k:Nat}(aE:P k loc σ)
  (step:∀k loc σ,P k loc σ->Wp σ (ep C t ns loc (ev C t ns loc)) λb bl=>if b=aw then Wp bl (dw C body ns loc) (GU P (λr ag=>Wp ag (K r) Q) k) else Wp bl (oH loc) Q) :
  Wp σ (qA C t body ns loc>>=fO K oH) Q:=by
 have key:∀(k:Nat) (loc:Loc) (σ:aN),P k loc σ->∃n,Wp σ (iJ (λl=>ep C t ns l (ev C t ns l)) (dw C body ns) n loc) λr ag=>Wp ag (fO K oH r) Q:=by
  intro k
  induction k using Nat.strongRecOn with
  |_ k aj=>
   intro loc σ hp;refine aB λae=>?_;obtain⟨b,bl,av,au⟩:=step k loc σ hp;refine ae ?_
   induction b with
   |false=>exact⟨1,al (a:=aS) av ⟨_,_,aa,au⟩⟩
   |true=>
    refine aB λae=>?_;obtain⟨⟨fl,bP⟩,dt,ay,aX⟩:=(au:Wp _ _ _);refine ae ?_
    induction fl with
    |next=>
     refine aB λae=>?_;obtain⟨j,bh,mM⟩:=aX;obtain⟨n,ao⟩:=aj j bh bP dt mM;exact ae ⟨n+1,al (a:=aw) av (al (m:=dw C body ns loc) ay ao)⟩
    |ret u=>exact⟨1,al (a:=aw) av (al (m:=dw C body ns loc) ay ⟨_,_,aa,aX⟩)⟩
    |brk=>exact aX.elim
    |cont=>exact aX.elim
 refine aB λae=>?_;obtain⟨n,r,ag,e,q⟩:=key k loc σ aE;exact ae (al (m:=qA C t body ns loc) (Cm e) q)
theorem Y8(hw:Walks b7 l J)(P:Nat->List V->Loc->aN->Prop)(pY:∀i acc loc σ,P i acc loc σ->J σ)
  (step:∀i v acc loc σ,l[i]? =I v->P i acc loc σ->Wp σ (bt v loc) λbP bl=>Wp bl (tt bP) λb dt=>if b=aw then Wp dt (eF bP) (λy jh=>P (i+1) (acc++[y]) bP jh) else P (i+1) acc bP dt) :
  ∀(k i:Nat) (acc:List V) (loc:Loc) (σ:aN),l.length+1<=i+k->i<=l.length->P i acc loc σ->Wp σ (compLoop b7 bt tt eF k i loc) (λout ag=>∃bP,P l.length (acc++out) bP ag):=by
 intro k
 induction k with
 |zero=>
  intro i acc loc σ h1 h2 _;exact er (bF 0x42108085084012802120021 aa h1 h2)
 |succ k aj=>
  intro i acc loc σ h1 h2 p;obtain⟨df,_⟩:=hw σ (pY i acc loc σ p);rcases i4 i l.length with hl|hl
  ·have aM:l[i]? =I l[i]:=cD hl;have av:compLoop b7 bt tt eF (k+1) i loc σ=(bt l[i] loc>>=λbP=>tt bP>>=λc=>if c=aw then (eF bP>>=λx=>compLoop b7 bt tt eF k (i+1) bP>>=λr=>pure (x::r)) else compLoop b7 bt tt eF k (i+1) bP) σ:=by
    rw[A3 (df i),aM]
   refine aB λae=>?_;obtain⟨bP,bl,ay,b,dt,dB,au⟩:=step i l[i] acc loc σ aM p;rw[a4 ay,a4 dB]at av;refine ae ?_
   induction b with
   |false=>
    refine aB λae=>?_;obtain⟨a,τ,eM,q⟩:=aj (i+1) acc bP dt (by exact cb 0x304250002120020084C02802120021 aa h1) (by exact hl) au;exact ae ⟨a,τ,av.trans eM,q⟩
   |true=>
    have av:compLoop b7 bt tt eF (k+1) i loc σ=(eF bP>>=λx=>compLoop b7 bt tt eF k (i+1) bP>>=λr=>pure (x::r)) dt:=av;refine aB λae=>?_;obtain⟨y,jh,eM,e8⟩:=au;rw[a4 eM]at av;obtain⟨a,τ,mS,UC,q⟩:=aj (i+1) (acc++[y]) bP jh (by exact cb 0x304250002120020084C02802120021 aa h1) (by exact hl) e8;refine ae ?_;exact⟨y::a,τ,by rw[av,a4 mS];rfl,UC,by rw[pg]at q;exact q⟩
  ·have:i=l.length:=by exact iF (bF 0x2902029021 aa h2) (bF 0x2902029021 aa hl)
   subst this;exact⟨[],σ,by rw[A3 (df l.length),(hW (bx _):l[l.length]? =U)];rfl,loc,by rw[vU];exact p⟩
theorem ru(hr:jm b7 target=aw)(hw:Walks b7 l J)(nP:hs scope.kind scope.names=aw)(g4:fL ns loc scope.names=pure ur)(hl:l.length<=sizeLine)(P:Nat->List V->Loc->aN->Prop)
  (pY:∀i acc loc σ,P i acc loc σ->J σ) (aE:P 0 [] ur σ)
  (step:∀i v acc loc σ,l[i]? =I v->P i acc loc σ->Wp σ (bindTo (fJ (cx ns scope.names)) target v loc) λbP bl=>Wp bl (tests C ifs (cx ns scope.names) bP) λb dt=>if b=aw then Wp dt (ev C elt (cx ns scope.names) bP) λy jh=>P (i+1) (acc++[y]) bP jh else P (i+1) acc bP dt)
  {α:Type}{K:V->M α}{Q:α->aN->Prop}(fin:∀out loc ag,P l.length out loc ag->Wp (ag++[.list out]) (K (.ref ag.length)) Q):Wp σ (iW C elt target ifs scope b7 ns loc>>=K) Q:=by
 obtain⟨_,cV⟩:=hw σ (pY 0 [] _ σ aE);refine Wp.step (P:=λr ag=>Wp ag (K r) Q) ?_ λaf aJ q=>q;unfold iW;rw[aK (by rw[hr,nP];rfl)];refine al (ag:=σ) (a:=l.length) (by unfold Src.count;rw[hP,cV]) ?_;rw[aK hl,g4];refine al aa ((Y8 hw P pY step (l.length+1) 0 [] ur σ (by exact cp 0x1090000802120020 aa) (by exact cp 0x400420 aa) aE).step λout ag a8=>?_);obtain⟨bP,p⟩:=a8;rw[List.nil_append]at p;exact jR aa (fin out bP ag p)
theorem th(hr:jm b7 target=aw)(hw:Walks b7 l λτ=>τ=σ)(nP:hs scope.kind scope.names=aw)(g4:fL ns loc scope.names=pure ur)(hl:l.length<=sizeLine)(S:Loc->Prop)(lR:S ur)(g:V->Option V)
  (step:∀v loc,v∈l->S loc->∃bP,bindTo (fJ (cx ns scope.names)) target v loc σ=.ok bP σ/\S bP/\∃b,tests C ifs (cx ns scope.names) bP σ=.ok b σ/\(if b=aw then ∃y,ev C elt (cx ns scope.names) bP σ=.ok y σ/\g v=I y else g v=U))
  {α:Type}{K:V->M α}{Q:α->aN->Prop}(fin:Wp (σ++[.list (l.filterMap g)]) (K (.ref σ.length)) Q):Wp σ (iW C elt target ifs scope b7 ns loc>>=K) Q:=by
 refine ru hr hw nP g4 hl (λi acc loc τ=>τ=σ/\S loc/\acc=(l.take i).filterMap g) (λaf aJ b3 eW h=>h.1) ⟨aa,lR,aa⟩ (λi v acc loc τ aM hp=>?_) λout loc τ hp=>?_
 ·refine aB λae=>?_;obtain⟨rfl,az,rfl⟩:=hp;have Vw:l.take (i+1)=l.take i++[v]:=by rw[jg,aM];rfl
  obtain⟨bP,av,e0,b,ay,h⟩:=step v loc (ee aM) az;refine ae (jR av (jR ay ?_));rw[Vw,List.filterMap_append]
  induction b with
  |false=>
   have h:g v=U:=h;exact⟨aa,e0,by simp [h]⟩
  |true=>
   refine aB λae=>?_;obtain⟨y,dB,h⟩:=h;exact ae (jR dB ⟨aa,e0,by simp [h]⟩)
 ·refine aB λae=>?_;obtain⟨rfl,_,rfl⟩:=hp;refine ae ?_;rw[iG];exact fin
end
def ct(X:List Nat)(σ ag:aN):Prop:=∀(n:Nat) (o:O),n∉X->σ[n]? =I o->ag[n]? =I o
noncomputable abbrev gQ(σ ag:aN):Prop:=ct [] σ ag
section
variable {X Y:List Nat}{σ ag i7 τ:aN}
theorem ct.refl:ct X σ σ:=λaf aJ b3 h=>h
theorem ct.trans(h:ct X σ ag)(h':ct X ag i7):ct X σ i7:=λn o ao e=>h' n o ao (h n o ao e)
theorem ct.mono(h:ct X σ ag)(az:∀n∈X,n∈Y):ct Y σ ag:=λn o ao e=>h n o (λhm=>ao (az n hm)) e
theorem ct.ex(h:gQ σ ag):ct X σ ag:=h.mono λaf hm=>nomatch hm
theorem ct.at(h:gQ σ ag){n:Nat}{o:O}(e:σ[n]? =I o):ag[n]? =I o:=h n o List.not_mem_nil e
theorem ct.push:ct X σ (σ++[o]):=λn o' af e=>by rw[pf (cE e)];exact e
theorem ct.new(h:ct X σ τ):ct X σ (τ++[o]):=h.trans .push
theorem ct.set(ar:k∈X)(h:ct X σ τ):ct X σ (τ.set k o):=λn o' ao e=>by
 rw[oo (λeq:k=n=>ao (by rw[<-eq];exact ar))];exact h n o' ao e
theorem ct.jJ(h:ct X σ τ)(ar:σ.length<=k):ct X σ (τ.set k o):=λn o' ao e=>by
 rw[oo (λeq=>by have:=cE e;exact er (cb 0x842101021300213142229021 aa ar eq this))];exact h n o' ao e
theorem cP:(σ++[o])[σ.length]? =I o:=by rw[j0 (bx _),ky];rfl
theorem fV(h:σ[n]? =I o):(σ.set n o')[n]? =I o':=yK (cE h)
theorem ef(ar:k≠n)(h:σ[n]? =I o):(σ.set k o')[n]? =I o:=by rw[oo ar];exact h
theorem cB{n:Nat}{o o':O}(h:σ[n]? =I o):(σ++[o'])[n]? =I o:=by rw[pf (cE h)];exact h
theorem lF:(σ.set k o).length=σ.length:=List.length_set ..
def Len(σ ag:aN):Prop:=σ.length<=ag.length
end
theorem r4{n:Int}{i:Nat}{v:V}(h:(i9 0 n)[i]? =I v):v=.int i/\(i:Int)<n:=by
 replace h:=(JP ..) ▸ h
 split at h
 ·cases h;exact⟨by rw[PZ],by exact SK ‹_›⟩
 ·exact a5 h
theorem oB:(i9 0 n).length=n.toNat:=by unfold i9;simp
theorem L6(F:Nat->Loc->aN->Prop){G:Prop}(h:∀ba:Nat->Loc->aN->Prop,(∀{i l s},ba i l s->F i l s)->(∀{i l s},F i l s->ba i l s)->G):G:=h F id id
theorem L7(F:Nat->List V->Loc->aN->Prop){G:Prop}(h:∀ba:Nat->List V->Loc->aN->Prop,(∀{i a l s},ba i a l s->F i a l s)->(∀{i a l s},F i a l s->ba i a l s)->G):G:=h F id id
end Mine.Internal

set_option backward.match.sparseCases false
namespace Mine.Internal
open PySem PyProof.Rows
def tab07:List (Str×dn):=Nq PySem.Challenge.pw_uf010004_07
def mt07:List (Str×dn):=Ut PySem.Challenge.pw_uf010004_07 []
noncomputable def gs07:List (Str×V):=[(Str.ofString "MOST_KNOTS",(V.int 200)),(Str.ofString "MOST_DEEP",(V.int 12))]
noncomputable def cs07:List (Str×List Str×List Str):=[("Spot",["__init__"],["word", "use", "rest", "became"]),("Tail",["__init__"],["word", "use", "rest", "label", "kind", "became"]),("Found",["__init__", "result", "go", "taken", "asked", "called"],["known", "body", "order", "inputs", "at"]),("Teller",["__init__", "number", "told"],["met", "knots"])]
def tx07:ih:=CQ tab07 mt07 gs07 cs07
def bc(d:Nat)(f:Str)(as:List V):M V:=ro tx07 d f as
def aC(d:Nat):Cfg:=A5 tx07 d
theorem eN{f:Str}{fn:dn}(h:tx07.at f=I fn)(d:Nat)(as:List V):bc (d+1) f as=x8 (aC d) fn as:=by
 show ro _ (d+1) f as=_;rw[NP,h];rfl
noncomputable def tk:dn:=(tx07.at "parts_of").getD ⟨[],[],[]⟩
theorem aaG:tx07.at "parts_of" = I tk:=by kernel_rfl
def aaz(d:Nat)(ai aq:V):M V:=(cH (.list [])>>=λt0=>(pure t0:M V))
def Bl(d:Nat)(ai aq:V):M V:=(cmp .Eq aq (V.str "call")>>=λt0=>truth t0>>=λeO=>M.cond eO (item ai (V.int 2)>>=λbp=>n3 bp>>=λt3=>(pure t3:M V)) (aaz d ai aq))
def yl(d:Nat)(ai aq:V):M V:=((cmp .Eq aq (V.str "sum")>>=λt0=>truth t0>>=λeO=>M.cond eO (pure aw:M Bool) (cmp .Eq aq (V.str "if")>>=λbp=>truth bp>>=λf5=>M.cond f5 (pure aw:M Bool) (pure aS:M Bool)))>>=λht=>M.cond ht (bound (V.int 1)>>=λxf=>bound V.none>>=λsx=>j7 xf sx ai>>=λfk=>n3 fk>>=λeb=>(pure eb:M V)) (Bl d ai aq))
def vx(d:Nat)(ai aq:V):M V:=(cmp .Eq aq (V.str "put")>>=λt0=>truth t0>>=λeO=>M.cond eO (item ai (V.int 1)>>=λbp=>item ai (V.int 3)>>=λt3=>cH (.list [bp,t3])>>=λcA=>(pure cA:M V)) (yl d ai aq))
def tj(d:Nat)(ai aq:V):M V:=(cmp .Eq aq (V.str "get")>>=λt0=>truth t0>>=λeO=>M.cond eO (item ai (V.int 1)>>=λbp=>cH (.list [bp])>>=λt3=>(pure t3:M V)) (vx d ai aq))
def lZ:Expr:=(fz (dg (cY (dg tk.body 1)) 0))
theorem aaD(ai aq:V):fL tk.names [I ai,I aq,U] (bQ lZ).names=pure [U,U,U]:=by kernel_rfl
theorem aaF(fX b2:Option V)(ax aO:V):bindTo (fJ (cx tk.names (bQ lZ).names)) (fP lZ) (.tup [ax,aO]) [U,fX,b2]=pure [U,I ax,I aO]:=by kernel_rfl
theorem aaE(d:Nat)(ai aq:V):ev (aC d) (fR lZ) (cx tk.names (bQ lZ).names) [U,I ai,I aq]=(pure aq:M V):=by kernel_rfl
theorem aaB(d:Nat)(loc:Loc):tests (aC d) (fQ lZ) (cx tk.names (bQ lZ).names) loc=(pure aw:M Bool):=by kernel_rfl
theorem aaC:hs (bQ lZ).kind (bQ lZ).names=aw:=by kernel_rfl
theorem aaA(d:Nat)(ai:V):bc (d+1) "parts_of" [ai]=(item ai (V.int 0)>>=λt0=>cmp .Eq t0 (V.str "make")>>=λt1=>truth t1>>=λes=>M.cond es (item ai (V.int 1)>>=λt3=>eY t3>>=λlx=>iW (aC d) (fR lZ) (fP lZ) (fQ lZ) (bQ lZ) lx tk.names [I ai,I t0,U]>>=λcQ=>(pure cQ:M V)) (tj d ai t0)):=
 (eN aaG d _).trans (by kernel_rfl)
noncomputable def mY:dn:=(tx07.at "places_of").getD ⟨[],[],[]⟩
theorem aay:tx07.at "places_of" = I mY:=by kernel_rfl
def vw:Stmt:=(dg mY.body 1)
def lY:Expr:=(jO (fz (dg (cY vw) 0)) 1)
theorem aau(ai aq ax aO:V):fL mY.names [I ai,I aq,I ax,I aO,U,U,U] (bQ lY).names=pure [U,U,I ax]:=by kernel_rfl
theorem aaw(ai:V)(b2:Option V)(ax:V):bindTo (fJ (cx mY.names (bQ lY).names)) (fP lY) ax [U,b2,I ai]=pure [U,I ax,I ai]:=by kernel_rfl
theorem aav(d:Nat)(ai aq:V):ev (aC d) (fR lY) (cx mY.names (bQ lY).names) [U,I aq,I ai]=(binop .Add (V.tup [ai]) aq>>=λt0=>(pure t0:M V)):=by kernel_rfl
theorem aas(d:Nat)(loc:Loc):tests (aC d) (fQ lY) (cx mY.names (bQ lY).names) loc=(pure aw:M Bool):=by kernel_rfl
theorem aat:hs (bQ lY).kind (bQ lY).names=aw:=by kernel_rfl
theorem aar(d:Nat)(ai aq ax aO:V)(b1 of:Option V):(bindTo (stLoc mY.names) (dM vw) (.tup [ai,aq]) [I ax,I aO,b1,of,U,U,U]>>=dw (aC d) (cY vw) mY.names)=(bc d "places_of" [aq]>>=λt0=>eY t0>>=λs1=>iW (aC d) (fR lY) (fP lY) (fQ lY) (bQ lY) s1 mY.names [I ax,I aO,I ai,I aq,U,U,U]>>=λbp=>binop .Add aO bp>>=λt3=>(pure (bE.next,[I ax,I t3,I ai,I aq,U,U,U]):M (bE×Loc))):=by kernel_rfl
def Ox(d:Nat)(loc:Loc):M V:=fZ (aC d) (List.drop 2 mY.body) mY.names loc dN
theorem aax(d:Nat)(ai aq:V)(h6 da:Option V):Ox d [I ai,I aq,h6,da,U,U,U]=(cH (.list [(V.tup [])])>>=λt0=>binop .Add aq t0>>=λt1=>(pure t1:M V)):=by kernel_rfl
theorem aaq(d:Nat)(ai:V):bc (d+1) "places_of" [ai]=(cH (.list [])>>=λt0=>bc d "parts_of" [ai]>>=λt1=>xX t1>>=λs2=>iV (aC d) (dM vw) (cY vw) s2 mY.names [I ai,I t0,U,U,U,U,U]>>=fO dN (Ox d)):=
 (eN aay d _).trans (by kernel_rfl)
noncomputable def tq:dn:=(tx07.at "at_place").getD ⟨[],[],[]⟩
theorem abW:tx07.at "at_place" = I tq:=by kernel_rfl
def Bu:Stmt:=(dg tq.body 0)
theorem abU(d:Nat)(ai aq ax:V)(da:Option V):(bindTo (stLoc tq.names) (dM Bu) ai [I aq,I ax,da,U]>>=dw (aC d) (cY Bu) tq.names)=(bc d "parts_of" [aq]>>=λt0=>item t0 ai>>=λt1=>(pure (bE.next,[I t1,I ax,I ai,U]):M (bE×Loc))):=by kernel_rfl
def ON(d:Nat)(loc:Loc):M V:=fZ (aC d) (List.drop 1 tq.body) tq.names loc dN
theorem abV(d:Nat)(ai aq:V)(h6:Option V):ON d [I ai,I aq,h6,U]=(pure ai:M V):=by kernel_rfl
theorem abT(d:Nat)(ai aq:V):bc (d+1) "at_place" [ai,aq]=(eY aq>>=λnt=>iV (aC d) (dM Bu) (cY Bu) nt tq.names [I ai,I aq,U,U]>>=fO dN (ON d)):=
 (eN abW d _).trans (by kernel_rfl)
noncomputable def aag:dn:=(tx07.at "unknown_kind").getD ⟨[],[],[]⟩
theorem aaf:tx07.at "unknown_kind" = I aag:=by kernel_rfl
theorem aae(d:Nat):bc (d+1) "unknown_kind" []=(el (aC d) "Spot" [(V.str "unknown"),(V.int 0),V.none]>>=λt0=>(pure t0:M V)):=
 (eN aaf d _).trans (by kernel_rfl)
noncomputable def aad:dn:=(tx07.at "unknown_rest").getD ⟨[],[],[]⟩
theorem aac:tx07.at "unknown_rest" = I aad:=by kernel_rfl
theorem aab(d:Nat):bc (d+1) "unknown_rest" []=(el (aC d) "Tail" [(V.str "unknown"),(V.int 0),V.none]>>=λt0=>(pure t0:M V)):=
 (eN aac d _).trans (by kernel_rfl)
noncomputable def abI:dn:=(tx07.at "field").getD ⟨[],[],[]⟩
theorem abH:tx07.at "field" = I abI:=by kernel_rfl
theorem abG(d:Nat)(ai aq ax aO:V):bc (d+1) "field" [ai,aq,ax,aO]=(el (aC d) "Tail" [(V.str "label"),ax,aO]>>=λt0=>dT (aC d) "label" ai t0>>=λaf=>dT (aC d) "kind" aq t0>>=λaf=>(pure t0:M V)):=
 (eN abH d _).trans (by kernel_rfl)
noncomputable def n9:dn:=(tx07.at "top").getD ⟨[],[],[]⟩
theorem aak:tx07.at "top" = I n9:=by kernel_rfl
def rC:Stmt:=(dg n9.body 0)
theorem Ot(d:Nat)(ai:V):ep (aC d) (fz rC) n9.names [I ai] (ev (aC d) (fz rC) n9.names [I ai])=(cL (aC d) "became" ai>>=λt0=>cmp .IsNot t0 V.none>>=λt1=>truth t1>>=λes=>(pure es:M Bool)):=by kernel_rfl
theorem aah(d:Nat)(ai:V):dw (aC d) (cY rC) n9.names [I ai]=(cL (aC d) "became" ai>>=λt0=>(pure (bE.next,[I t0]):M (bE×Loc))):=by kernel_rfl
def Ou(d:Nat)(loc:Loc):M V:=fZ (aC d) (List.drop 1 n9.body) n9.names loc dN
theorem aaj(d:Nat)(ai:V):Ou d [I ai]=(pure ai:M V):=by kernel_rfl
theorem aai(d:Nat)(ai:V):bc (d+1) "top" [ai]=(qA (aC d) (fz rC) (cY rC) n9.names [I ai]>>=fO dN (Ou d)):=
 (eN aak d _).trans (by kernel_rfl)
noncomputable def oa:dn:=(tx07.at "row_of").getD ⟨[],[],[]⟩
theorem aao:tx07.at "row_of" = I oa:=by kernel_rfl
def rD:Stmt:=(dg oa.body 2)
theorem Ov(d:Nat)(ai aq ax:V):ep (aC d) (fz rD) oa.names [I ai,I aq,I ax,U] (ev (aC d) (fz rD) oa.names [I ai,I aq,I ax,U])=(cL (aC d) "word" ax>>=λt0=>cmp .Eq t0 (V.str "label")>>=λt1=>truth t1>>=λes=>(pure es:M Bool)):=by kernel_rfl
theorem aal(d:Nat)(ai aq ax:V):dw (aC d) (cY rD) oa.names [I ai,I aq,I ax,U]=(cL (aC d) "label" ax>>=λt0=>setItem aq t0 ax>>=λaf=>cL (aC d) "rest" ax>>=λt1=>bc d "top" [t1]>>=λbp=>(pure (bE.next,[I ai,I aq,I bp,U]):M (bE×Loc))):=by kernel_rfl
def Ow(d:Nat)(loc:Loc):M V:=fZ (aC d) (List.drop 3 oa.body) oa.names loc dN
theorem aan(d:Nat)(ai aq ax:V):Ow d [I ai,I aq,I ax,U]=(pure (V.tup [aq,ax]):M V):=by kernel_rfl
theorem aam(d:Nat)(ai:V):bc (d+1) "row_of" [ai]=(cH (.dict 0 [])>>=λt0=>bc d "top" [ai]>>=λt1=>cL (aC d) "rest" t1>>=λbp=>bc d "top" [bp]>>=λt3=>qA (aC d) (fz rD) (cY rD) oa.names [I ai,I t0,I t3,U]>>=fO dN (Ow d)):=
 (eN aao d _).trans (by kernel_rfl)
noncomputable def je:dn:=(tx07.at "holds").getD ⟨[],[],[]⟩
theorem abB:tx07.at "holds" = I je:=by kernel_rfl
def ob:Stmt:=(dg je.body 2)
theorem abp(d:Nat)(ai aq ax aO:V)(b1 of bW:Option V):ep (aC d) (fz ob) je.names [I ai,I aq,I ax,I aO,b1,of,bW,U,U] (ev (aC d) (fz ob) je.names [I ai,I aq,I ax,I aO,b1,of,bW,U,U])=(cH (.list [])>>=λt0=>cmp .NotEq ax t0>>=λt1=>truth t1>>=λes=>(pure es:M Bool)):=by kernel_rfl
def G3(d:Nat)(loc:Loc):M (bE×Loc):=fZ (aC d) (List.drop 2 (cY (dg (cY ob) 2))) je.names loc (fO (λx=>pure x) (λbP=>fZ (aC d) (List.drop 3 (cY ob)) je.names bP (λx=>pure x)))
def l5:Expr:=(jO (fz (dg (cY (dg (cY ob) 2)) 3)) 1)
theorem abv(ai aq ax aO bA:V)(of bW:Option V):fL je.names [I ai,I aq,I ax,I aO,I bA,of,bW,U,U] (bQ l5).names=pure [U,U,of]:=by kernel_rfl
theorem abx(fX b2:Option V)(ax:V):bindTo (fJ (cx je.names (bQ l5).names)) (fP l5) ax [U,b2,fX]=pure [U,I ax,fX]:=by kernel_rfl
theorem abw(d:Nat)(fX:Option V)(aq:V):ev (aC d) (fR l5) (cx je.names (bQ l5).names) [U,I aq,fX]=(bD fX>>=λt0=>item t0 aq>>=λt1=>cL (aC d) "kind" t1>>=λbp=>(pure bp:M V)):=by kernel_rfl
theorem abt(d:Nat)(loc:Loc):tests (aC d) (fQ l5) (cx je.names (bQ l5).names) loc=(pure aw:M Bool):=by kernel_rfl
theorem abu:hs (bQ l5).kind (bQ l5).names=aw:=by kernel_rfl
def OH(d:Nat)(ai aq ax aO bA:V)(of bW:Option V):M (bE×Loc):=(c3 (d9 (aC d) ax "extend")>>=λlT=>bD of>>=λt1=>eY t1>>=λs2=>iW (aC d) (fR l5) (fP l5) (fQ l5) (bQ l5) s2 je.names [I ai,I aq,I ax,I aO,I bA,of,bW,U,U]>>=λt3=>runM (aC d) "extend" lT ax [t3]>>=λcA=>(pure (bE.next,[I ai,I aq,I ax,I aO,I bA,of,bW,U,U]):M (bE×Loc)))
theorem abA(d:Nat)(ai aq ax aO bA:V)(of bW:Option V):G3 d [I ai,I aq,I ax,I aO,I bA,of,bW,U,U]=(bD bW>>=λt0=>cmp .Eq t0 aq>>=λt1=>truth t1>>=λes=>M.cond es (pure (bE.ret (V.bool aw),[I ai,I aq,I ax,I aO,I bA,of,bW,U,U]):M (bE×Loc)) (OH d ai aq ax aO bA of bW)):=by kernel_rfl
def OI(d:Nat)(ai aq ax aO bA:V)(of bW:Option V):M (bE×Loc):=((cL (aC d) "word" bA>>=λt0=>cmp .Eq t0 (V.str "record")>>=λt1=>truth t1>>=λes=>M.cond es (cmp .NotIn bA aO>>=λt3=>truth t3>>=λht=>M.cond ht (pure aw:M Bool) (pure aS:M Bool)) (pure aS:M Bool))>>=λkn=>M.cond kn (c3 (d9 (aC d) aO "append")>>=λmQ=>runM (aC d) "append" mQ aO [bA]>>=λfk=>bc d "row_of" [bA]>>=λeb=>bindTo (stLoc je.names) (dM (dg (cY (dg (cY ob) 2)) 1)) eb [I ai,I aq,I ax,I aO,I bA,of,bW,U,U]>>=G3 d) (pure (bE.next,[I ai,I aq,I ax,I aO,I bA,of,bW,U,U]):M (bE×Loc)))
theorem abq(d:Nat)(ai aq ax aO:V)(b1 of bW:Option V):dw (aC d) (cY ob) je.names [I ai,I aq,I ax,I aO,b1,of,bW,U,U]=(c3 (d9 (aC d) ax "pop")>>=λlT=>runM (aC d) "pop" lT ax []>>=λt1=>bc d "top" [t1]>>=λbp=>cmp .Eq bp aq>>=λt3=>truth t3>>=λht=>M.cond ht (pure (bE.ret (V.bool aw),[I ai,I aq,I ax,I aO,I bp,of,bW,U,U]):M (bE×Loc)) (OI d ai aq ax aO bp of bW)):=by kernel_rfl
def G2(d:Nat)(loc:Loc):M V:=fZ (aC d) (List.drop 3 je.body) je.names loc dN
theorem abz(d:Nat)(ai aq ax aO:V)(b1 of bW:Option V):G2 d [I ai,I aq,I ax,I aO,b1,of,bW,U,U]=(pure (V.bool aS):M V):=by kernel_rfl
theorem abr(d:Nat)(ai aq:V):bc (d+1) "holds" [ai,aq]=(cH (.list [ai])>>=λt0=>cH (.list [])>>=λt1=>qA (aC d) (fz ob) (cY ob) je.names [I ai,I aq,I t0,I t1,U,U,U,U,U]>>=fO dN (G2 d)):=
 (eN abB d _).trans (by kernel_rfl)
noncomputable def abS:dn:=(tx07.at "become").getD ⟨[],[],[]⟩
theorem abR:tx07.at "become" = I abS:=by kernel_rfl
def abJ(d:Nat)(ai aq ax:V):M V:=(dT (aC d) "became" aq ai>>=λaf=>(pure V.none:M V))
theorem abK(d:Nat)(ai aq ax:V):bc (d+1) "become" [ai,aq,ax]=((cL (aC d) "word" aq>>=λt0=>cmp .Eq t0 (V.str "record")>>=λt1=>truth t1>>=λes=>M.cond es (bc d "holds" [aq,ai]>>=λt3=>truth t3>>=λht=>M.cond ht (pure aw:M Bool) (pure aS:M Bool)) (pure aS:M Bool))>>=λkn=>M.cond kn M.bad (abJ d ai aq ax)):=
 (eN abR d _).trans (by kernel_rfl)
noncomputable def l6:dn:=(tx07.at "become_row").getD ⟨[],[],[]⟩
theorem abQ:tx07.at "become_row" = I l6:=by kernel_rfl
def Bt:Stmt:=(dg l6.body 0)
theorem abN(d:Nat)(ai aq ax aO bA cy:V)(bW:Option V):(bindTo (stLoc l6.names) (dM Bt) ai [I aq,I ax,I aO,I bA,I cy,bW,U,U,U,U,U]>>=dw (aC d) (cY Bt) l6.names)=(item ax ai>>=λt0=>cL (aC d) "kind" t0>>=λt1=>bc d "holds" [t1,aq]>>=λbp=>truth bp>>=λf5=>M.cond f5 M.bad (pure (bE.next,[I aq,I ax,I aO,I bA,I cy,I ai,U,U,U,U,U]):M (bE×Loc))):=by kernel_rfl
def OM(d:Nat)(loc:Loc):M V:=fZ (aC d) (List.drop 1 l6.body) l6.names loc dN
def Bs:Stmt:=(dg l6.body 2)
theorem abM(d:Nat)(ai aq ax aO bA cy:V)(bW:Option V)(fj:V):(bindTo (stLoc l6.names) (dM Bs) ai [I aq,I ax,I aO,I bA,I cy,bW,I fj,U,U,U,U]>>=dw (aC d) (cY Bs) l6.names)=(item ax ai>>=λt0=>cL (aC d) "kind" t0>>=λt1=>item ax ai>>=λbp=>cL (aC d) "use" bp>>=λt3=>bc d "field" [ai,t1,t3,fj]>>=λcA=>(pure (bE.next,[I aq,I ax,I aO,I bA,I cy,I ai,I cA,U,U,U,U]):M (bE×Loc))):=by kernel_rfl
def OL(d:Nat)(loc:Loc):M V:=fZ (aC d) (List.drop 3 l6.body) l6.names loc dN
theorem abO(d:Nat)(ai aq ax aO bA:V)(of:Option V)(fI:V):OL d [I ai,I aq,I ax,I aO,I bA,of,I fI,U,U,U,U]=(dT (aC d) "became" fI ai>>=λaf=>(pure V.none:M V)):=by kernel_rfl
theorem abP(d:Nat)(ai aq ax aO bA:V)(of:Option V):OM d [I ai,I aq,I ax,I aO,I bA,of,U,U,U,U,U]=(r3 ax>>=λnt=>iV (aC d) (dM Bs) (cY Bs) nt l6.names [I ai,I aq,I ax,I aO,I bA,of,I aO,U,U,U,U]>>=fO dN (OL d)):=by kernel_rfl
theorem abL(d:Nat)(ai aq ax aO bA:V):bc (d+1) "become_row" [ai,aq,ax,aO,bA]=(eY ax>>=λnt=>iV (aC d) (dM Bt) (cY Bt) nt l6.names (I ai::I aq::I ax::I aO::I bA::n_6)>>=fO dN (OM d)):=
 (eN abQ d _).trans (by kernel_rfl)
noncomputable def l2:dn:=(tx07.at "join_shared").getD ⟨[],[],[]⟩
theorem aa5:tx07.at "join_shared" = I l2:=by kernel_rfl
def vy:Stmt:=(dg l2.body 1)
theorem aaW(d:Nat)(ai aq ax aO:V)(b1 of bW eP gJ:Option V):ep (aC d) (fz vy) l2.names [I ai,I aq,I ax,I aO,gJ,bW,eP,b1,of,U,U,U,U] (ev (aC d) (fz vy) l2.names [I ai,I aq,I ax,I aO,gJ,bW,eP,b1,of,U,U,U,U])=(truth (V.bool aw)>>=λGL=>(pure GL:M Bool)):=by kernel_rfl
def l1:Expr:=(jO (fz (dg (cY vy) 2)) 1)
theorem aa1(ai aq ax aO bA cy:V)(bW eP gJ:Option V):fL l2.names [I ai,I aq,I ax,I aO,I bA,I cy,bW,eP,gJ,U,U,U,U] (bQ l1).names=pure [U,U,I aO,I cy]:=by kernel_rfl
theorem aa3(ai aq:V)(h6:Option V)(aO:V):bindTo (fJ (cx l2.names (bQ l1).names)) (fP l1) aO [U,h6,I ai,I aq]=pure [U,I aO,I ai,I aq]:=by kernel_rfl
theorem aa2(d:Nat)(ai aq ax:V):ev (aC d) (fR l1) (cx l2.names (bQ l1).names) [U,I ax,I ai,I aq]=(pure ax:M V):=by kernel_rfl
theorem aaZ(d:Nat)(ai aq ax:V):tests (aC d) (fQ l1) (cx l2.names (bQ l1).names) [U,I ax,I ai,I aq]=(cmp .In ax aq>>=λt0=>truth t0>>=λeO=>M.cond eO (cmp .NotIn ax ai>>=λbp=>truth bp>>=λf5=>M.cond f5 (pure aw:M Bool) (pure aS:M Bool)) (pure aS:M Bool)):=by kernel_rfl
theorem aa0:hs (bQ l1).kind (bQ l1).names=aw:=by kernel_rfl
def OC(d:Nat)(ai aq ax aO bA cy:V)(bW:Option V)(fj:V)(gJ:Option V):M (bE×Loc):=(item fj (V.int 0)>>=λt0=>c3 (d9 (aC d) aO "append")>>=λg1=>runM (aC d) "append" g1 aO [t0]>>=λbp=>item bA t0>>=λt3=>cL (aC d) "kind" t3>>=λcA=>item cy t0>>=λcQ=>cL (aC d) "kind" cQ>>=λek=>bc d "join" [cA,ek,ax]>>=λfk=>item bA t0>>=λeb=>cL (aC d) "use" eb>>=λhh=>item cy t0>>=λgy=>cL (aC d) "use" gy>>=λrR=>oX hh rR>>=λiq=>item bA t0>>=λnk=>dT (aC d) "use" iq nk>>=λaf=>item cy t0>>=λt4=>dT (aC d) "use" iq t4>>=λaf=>(pure (bE.next,[I ai,I aq,I ax,I aO,I bA,I cy,I t0,I fj,I iq,U,U,U,U]):M (bE×Loc)))
theorem aaX(d:Nat)(ai aq ax aO:V)(b1 of bW eP gJ:Option V):dw (aC d) (cY vy) l2.names [I ai,I aq,I ax,I aO,gJ,bW,eP,b1,of,U,U,U,U]=(bc d "row_of" [ai]>>=λt0=>item t0 (V.int 0)>>=λt1=>bc d "row_of" [aq]>>=λbp=>item bp (V.int 0)>>=λt3=>eY t1>>=λlx=>iW (aC d) (fR l1) (fP l1) (fQ l1) (bQ l1) lx l2.names [I ai,I aq,I ax,I aO,I t1,I t3,eP,b1,of,U,U,U,U]>>=λcQ=>mT cQ>>=λek=>cH (.list [])>>=λfk=>cmp .Eq ek fk>>=λeb=>truth eb>>=λlV=>M.cond lV (pure (bE.ret V.none,[I ai,I aq,I ax,I aO,I t1,I t3,eP,I ek,of,U,U,U,U]):M (bE×Loc)) (OC d ai aq ax aO t1 t3 eP ek of)):=by kernel_rfl
def aa4(d:Nat)(loc:Loc):M V:=fZ (aC d) (List.drop 2 l2.body) l2.names loc dN
theorem aaY(d:Nat)(ai aq ax:V):bc (d+1) "join_shared" [ai,aq,ax]=(cH (.list [])>>=λt0=>qA (aC d) (fz vy) (cY vy) l2.names (I ai::I aq::I ax::I t0::n_9)>>=fO dN (aa4 d)):=
 (eN aa5 d _).trans (by kernel_rfl)
noncomputable def tl:dn:=(tx07.at "need_room").getD ⟨[],[],[]⟩
theorem aaK:tx07.at "need_room" = I tl:=by kernel_rfl
def Bm:Stmt:=(dg tl.body 0)
def Oy(d:Nat)(ai aq ax aO bA:V):M (bE×Loc):=((cmp .NotIn bA ai>>=λt0=>truth t0>>=λeO=>M.cond eO (cL (aC d) "word" aq>>=λbp=>cmp .Eq bp (V.str "end")>>=λt3=>truth t3>>=λht=>M.cond ht (pure aw:M Bool) (pure aS:M Bool)) (pure aS:M Bool))>>=λkn=>M.cond kn M.bad (pure (bE.next,[I ai,I aq,I ax,I aO,I bA,U,U,U]):M (bE×Loc)))
theorem aaI(d:Nat)(ai aq ax aO bA:V)(of:Option V):(bindTo (stLoc tl.names) (dM Bm) ai [I aq,I ax,I aO,I bA,of,U,U,U]>>=dw (aC d) (cY Bm) tl.names)=((cmp .NotIn ai aO>>=λt0=>truth t0>>=λeO=>M.cond eO (cL (aC d) "word" bA>>=λbp=>cmp .Eq bp (V.str "end")>>=λt3=>truth t3>>=λht=>M.cond ht (pure aw:M Bool) (pure aS:M Bool)) (pure aS:M Bool))>>=λkn=>M.cond kn M.bad (Oy d aq ax aO bA ai)):=by kernel_rfl
def Oz(d:Nat)(loc:Loc):M V:=fZ (aC d) (List.drop 1 tl.body) tl.names loc dN
theorem aaJ(d:Nat)(ai aq ax aO:V)(b1:Option V):Oz d [I ai,I aq,I ax,I aO,b1,U,U,U]=(pure V.none:M V):=by kernel_rfl
theorem aaH(d:Nat)(ai aq ax aO:V):bc (d+1) "need_room" [ai,aq,ax,aO]=(n3 ai>>=λt0=>n3 ax>>=λt1=>binop .Add t0 t1>>=λbp=>mT bp>>=λt3=>eY t3>>=λlx=>iV (aC d) (dM Bm) (cY Bm) lx tl.names [I ai,I aq,I ax,I aO,U,U,U,U]>>=fO dN (Oz d)):=
 (eN aaK d _).trans (by kernel_rfl)
noncomputable def gO:dn:=(tx07.at "join_rests").getD ⟨[],[],[]⟩
theorem abm:tx07.at "join_rests" = I gO:=by kernel_rfl
def OG(d:Nat)(loc:Loc):M V:=fZ (aC d) (List.drop 1 gO.body) gO.names loc dN
def OE(d:Nat)(loc:Loc):M V:=fZ (aC d) (List.drop 2 gO.body) gO.names loc dN
def l4:Expr:=(jO (jO (fz (dg (cY (dg gO.body 9)) 0)) 3) 1)
theorem abf(ai aq ax:V)(da b1 of bW:Option V)(fj:V):fL gO.names (I ai::I aq::I ax::da::b1::of::bW::I fj::n_6) (bQ l4).names=pure [U,U,da]:=by kernel_rfl
theorem abh(fX b2:Option V)(ax:V):bindTo (fJ (cx gO.names (bQ l4).names)) (fP l4) ax [U,b2,fX]=pure [U,I ax,fX]:=by kernel_rfl
theorem abg(d:Nat)(fX:Option V)(aq:V):ev (aC d) (fR l4) (cx gO.names (bQ l4).names) [U,I aq,fX]=(pure aq:M V):=by kernel_rfl
theorem abd(d:Nat)(fX:Option V)(aq:V):tests (aC d) (fQ l4) (cx gO.names (bQ l4).names) [U,I aq,fX]=(bD fX>>=λt0=>cmp .NotIn aq t0>>=λt1=>truth t1>>=λes=>(pure es:M Bool)):=by kernel_rfl
theorem abe:hs (bQ l4).kind (bQ l4).names=aw:=by kernel_rfl
def vz(d:Nat)(ai aq ax:V)(da b1 of bW:Option V)(fj:V):M V:=(bD b1>>=λt0=>cL (aC d) "word" t0>>=λt1=>cmp .Eq t1 (V.str "unknown")>>=λbp=>truth bp>>=λf5=>M.cond f5 (bD b1>>=λcA=>bD of>>=λcQ=>bD of>>=λek=>eY ek>>=λwx=>iW (aC d) (fR l4) (fP l4) (fQ l4) (bQ l4) wx gO.names (I ai::I aq::I ax::da::b1::of::bW::I fj::n_6)>>=λeb=>mT eb>>=λhh=>bc d "become_row" [cA,cQ,hh,fj,ax]>>=λgy=>(pure V.none:M V)) (pure V.none:M V))
def l3:Expr:=(jO (jO (fz (dg (cY (dg gO.body 8)) 0)) 3) 1)
theorem aba(ai aq ax:V)(da b1 of bW:Option V)(fj:V):fL gO.names (I ai::I aq::I ax::da::b1::of::bW::I fj::n_6) (bQ l3).names=pure [U,U,of]:=by kernel_rfl
theorem abc(fX b2:Option V)(ax:V):bindTo (fJ (cx gO.names (bQ l3).names)) (fP l3) ax [U,b2,fX]=pure [U,I ax,fX]:=by kernel_rfl
theorem abb(d:Nat)(fX:Option V)(aq:V):ev (aC d) (fR l3) (cx gO.names (bQ l3).names) [U,I aq,fX]=(pure aq:M V):=by kernel_rfl
theorem aa8(d:Nat)(fX:Option V)(aq:V):tests (aC d) (fQ l3) (cx gO.names (bQ l3).names) [U,I aq,fX]=(bD fX>>=λt0=>cmp .NotIn aq t0>>=λt1=>truth t1>>=λes=>(pure es:M Bool)):=by kernel_rfl
theorem aa9:hs (bQ l3).kind (bQ l3).names=aw:=by kernel_rfl
def ym(d:Nat)(ai aq ax:V)(da b1 of bW:Option V)(fj:V):M V:=(bD bW>>=λt0=>cL (aC d) "word" t0>>=λt1=>cmp .Eq t1 (V.str "unknown")>>=λbp=>truth bp>>=λf5=>M.cond f5 (bD bW>>=λcA=>bD da>>=λcQ=>bD da>>=λek=>eY ek>>=λwx=>iW (aC d) (fR l3) (fP l3) (fQ l3) (bQ l3) wx gO.names (I ai::I aq::I ax::da::b1::of::bW::I fj::n_6)>>=λeb=>mT eb>>=λhh=>bc d "become_row" [cA,cQ,hh,fj,ax]>>=λgy=>vz d ai aq ax da b1 of bW fj) (vz d ai aq ax da b1 of bW fj))
def yn(d:Nat)(ai aq ax:V)(da b1 of bW:Option V)(fj:V):M V:=(bD bW>>=λt0=>cL (aC d) "word" t0>>=λt1=>cmp .Eq t1 (V.str "end")>>=λbp=>truth bp>>=λf5=>M.cond f5 (bD bW>>=λcA=>ym d ai aq ax da b1 of bW cA) (ym d ai aq ax da b1 of bW fj))
def Bp(d:Nat)(ai aq ax:V)(da b1 of bW:Option V):M V:=(bc d "unknown_rest" []>>=λt0=>bD b1>>=λt1=>cL (aC d) "word" t1>>=λbp=>cmp .Eq bp (V.str "end")>>=λt3=>truth t3>>=λht=>M.cond ht (bD b1>>=λcQ=>yn d ai aq ax da b1 of bW cQ) (yn d ai aq ax da b1 of bW t0))
def OD(d:Nat)(ai aq ax:V)(da b1 of bW:Option V):M V:=((bD b1>>=λt0=>cL (aC d) "word" t0>>=λt1=>cmp .Eq t1 (V.str "end")>>=λbp=>truth bp>>=λf5=>M.cond f5 (bD bW>>=λcA=>cL (aC d) "word" cA>>=λcQ=>cmp .Eq cQ (V.str "end")>>=λek=>truth ek>>=λGI=>M.cond GI (pure aw:M Bool) (pure aS:M Bool)) (pure aS:M Bool))>>=λGH=>M.cond GH (bD b1>>=λhh=>cL (aC d) "use" hh>>=λgy=>bD bW>>=λrR=>cL (aC d) "use" rR>>=λiq=>oX gy iq>>=λnk=>bD b1>>=λt4=>dT (aC d) "use" nk t4>>=λaf=>bD b1>>=λCV=>bD bW>>=λI7=>dT (aC d) "became" CV I7>>=λaf=>(pure V.none:M V)) (Bp d ai aq ax da b1 of bW))
theorem abk(d:Nat)(ai aq ax:V)(da b1 of bW:Option V):OE d (I ai::I aq::I ax::da::b1::of::bW::n_7)=(bD da>>=λt0=>bD b1>>=λt1=>bD of>>=λbp=>bD bW>>=λt3=>bc d "need_room" [t0,t1,bp,t3]>>=λcA=>bD b1>>=λcQ=>bD bW>>=λek=>cmp .Eq cQ ek>>=λfk=>truth fk>>=λGH=>M.cond GH (pure V.none:M V) (OD d ai aq ax da b1 of bW)):=by kernel_rfl
theorem abl(d:Nat)(ai aq ax:V)(da b1:Option V):OG d (I ai::I aq::I ax::da::b1::n_9)=(bc d "row_of" [aq]>>=λt0=>bindTo (stLoc gO.names) (dM (dg gO.body 1)) t0 (I ai::I aq::I ax::da::b1::n_9)>>=OE d):=by kernel_rfl
theorem aa7(d:Nat)(ai aq ax:V):bc (d+1) "join_rests" [ai,aq,ax]=(bc d "row_of" [ai]>>=λt0=>bindTo (stLoc gO.names) (dM (dg gO.body 0)) t0 (I ai::I aq::I ax::n_11)>>=OG d):=
 (eN abm d _).trans (by kernel_rfl)
noncomputable def abo:dn:=(tx07.at "join").getD ⟨[],[],[]⟩
theorem abn:tx07.at "join" = I abo:=by kernel_rfl
def Bo(d:Nat)(ai aq ax:V):M V:=(bc d "top" [ai]>>=λt0=>bc d "top" [aq]>>=λt1=>cmp .NotEq t0 t1>>=λbp=>truth bp>>=λf5=>M.cond f5 (cL (aC d) "use" t0>>=λcA=>cL (aC d) "use" t1>>=λcQ=>oX cA cQ>>=λek=>dT (aC d) "use" ek t0>>=λaf=>dT (aC d) "became" t0 t1>>=λaf=>(pure V.none:M V)) (pure V.none:M V))
def OB(d:Nat)(ai aq ax:V):M V:=(cL (aC d) "word" ai>>=λt0=>cmp .Eq t0 (V.str "unknown")>>=λt1=>truth t1>>=λes=>M.cond es (bc d "become" [ai,aq,ax]>>=λt3=>(pure V.none:M V)) (cL (aC d) "word" aq>>=λcA=>cmp .Eq cA (V.str "unknown")>>=λcQ=>truth cQ>>=λs9=>M.cond s9 (bc d "become" [aq,ai,ax]>>=λfk=>(pure V.none:M V)) (cL (aC d) "word" ai>>=λeb=>cL (aC d) "word" aq>>=λhh=>cmp .NotEq eb hh>>=λgy=>truth gy>>=λn4=>M.cond n4 M.bad (cL (aC d) "word" ai>>=λiq=>cmp .Eq iq (V.str "record")>>=λnk=>truth nk>>=λZQ=>M.cond ZQ (bc d "join_shared" [ai,aq,ax]>>=λCV=>bc d "join_rests" [ai,aq,ax]>>=λI7=>Bo d ai aq ax) (Bo d ai aq ax)))))
theorem aa6(d:Nat)(ai aq ax:V):bc (d+1) "join" [ai,aq,ax]=(bc d "top" [ai]>>=λt0=>bc d "top" [aq]>>=λt1=>cmp .Eq t0 t1>>=λbp=>truth bp>>=λf5=>M.cond f5 (pure V.none:M V) (OB d t0 t1 ax)):=
 (eN abn d _).trans (by kernel_rfl)
noncomputable def tp:dn:=(tx07.at "fresh").getD ⟨[],[],[]⟩
theorem abF:tx07.at "fresh" = I tp:=by kernel_rfl
def Br:Stmt:=(dg tp.body 4)
theorem abD(d:Nat)(ai aq ax aO bA cy:V)(bW eP:Option V):(bindTo (stLoc tp.names) (dM Br) (.tup [ai,aq]) (I ax::I aO::I bA::I cy::eP::bW::n_7)>>=dw (aC d) (cY Br) tp.names)=(bc d "fresh" [aq,aO,bA]>>=λt0=>bc d "field" [ai,t0,bA,cy]>>=λt1=>(pure (bE.next,(I ax::I aO::I bA::I t1::I ai::I aq::n_7)):M (bE×Loc))):=by kernel_rfl
def OK(d:Nat)(loc:Loc):M V:=fZ (aC d) (List.drop 5 tp.body) tp.names loc dN
theorem abE(d:Nat)(ai aq ax aO:V)(b1 of:Option V):OK d (I ai::I aq::I ax::I aO::of::b1::n_7)=(el (aC d) "Spot" [(V.str "record"),ax,aO]>>=λt0=>(pure t0:M V)):=by kernel_rfl
def Bq(d:Nat)(ai aq ax aO:V):M V:=(item ai (V.int 1)>>=λt0=>r3 t0>>=λs1=>iV (aC d) (dM Br) (cY Br) s1 tp.names (I ai::I aq::I ax::I aO::n_9)>>=fO dN (OK d))
def OJ(d:Nat)(ai aq ax:V):M V:=(el (aC d) "Tail" [(V.str "end"),ax,V.none]>>=λt0=>item ai (V.int 2)>>=λt1=>cmp .IsNot t1 V.none>>=λbp=>truth bp>>=λf5=>M.cond f5 (c3 (d9 (aC d) aq "setdefault")>>=λdk=>item ai (V.int 2)>>=λcQ=>bc d "unknown_rest" []>>=λek=>runM (aC d) "setdefault" dk aq [cQ,ek]>>=λfk=>Bq d ai aq ax fk) (Bq d ai aq ax t0))
def G4(d:Nat)(ai aq ax:V):M V:=(item ai (V.int 0)>>=λt0=>cmp .Eq t0 (V.str "blank")>>=λt1=>truth t1>>=λes=>M.cond es (c3 (d9 (aC d) aq "setdefault")>>=λg3=>item ai (V.int 1)>>=λcA=>bc d "unknown_kind" []>>=λcQ=>runM (aC d) "setdefault" g3 aq [cA,cQ]>>=λek=>(pure ek:M V)) (OJ d ai aq ax))
theorem abC(d:Nat)(ai aq ax:V):bc (d+1) "fresh" [ai,aq,ax]=(item ai (V.int 0)>>=λt0=>cmp .Eq t0 (V.str "number")>>=λt1=>truth t1>>=λes=>M.cond es (el (aC d) "Spot" [(V.str "number"),ax,V.none]>>=λt3=>(pure t3:M V)) (G4 d ai aq ax)):=
 (eN abF d _).trans (by kernel_rfl)
noncomputable def tm:dn:=(tx07.at "kind_of").getD ⟨[],[],[]⟩
theorem aaR:tx07.at "kind_of" = I tm:=by kernel_rfl
def l0:Expr:=(jO (fz (dg tm.body 0)) 1)
theorem aaO(ai aq:V):fL tm.names [I ai,I aq,U,U] (bQ l0).names=pure [U,U,I aq]:=by kernel_rfl
theorem aaQ(ai:V)(b2:Option V)(ax:V):bindTo (fJ (cx tm.names (bQ l0).names)) (fP l0) ax [U,b2,I ai]=pure [U,I ax,I ai]:=by kernel_rfl
theorem aaP(d:Nat)(ai aq:V):ev (aC d) (fR l0) (cx tm.names (bQ l0).names) [U,I aq,I ai]=(c3 (d9 (aC d) ai "told")>>=λlT=>runM (aC d) "told" lT ai [aq,(V.int 1)]>>=λt1=>(pure t1:M V)):=by kernel_rfl
theorem aaM(d:Nat)(loc:Loc):tests (aC d) (fQ l0) (cx tm.names (bQ l0).names) loc=(pure aw:M Bool):=by kernel_rfl
theorem aaN:hs (bQ l0).kind (bQ l0).names=aw:=by kernel_rfl
theorem aaL(d:Nat)(ai aq:V):bc (d+1) "kind_of" [ai,aq]=(cL (aC d) "inputs" ai>>=λt0=>eY t0>>=λs1=>iW (aC d) (fR l0) (fP l0) (fQ l0) (bQ l0) s1 tm.names [I ai,I aq,U,U]>>=λbp=>oW bp>>=λt3=>c3 (d9 (aC d) aq "told")>>=λdk=>c3 (d9 (aC d) ai "result")>>=λfc=>runM (aC d) "result" fc ai []>>=λek=>runM (aC d) "told" dk aq [ek,(V.int 1)]>>=λfk=>(pure (V.tup [t3,fk]):M V)):=
 (eN aaR d _).trans (by kernel_rfl)
noncomputable def tn:dn:=(tx07.at "judged").getD ⟨[],[],[]⟩
theorem aaV:tx07.at "judged" = I tn:=by kernel_rfl
def Bn:Stmt:=(dg tn.body 2)
theorem aaT(d:Nat)(ai aq ax aO bA cy:V)(bW eP gJ nz:Option V):(bindTo (stLoc tn.names) (dM Bn) (.tup [ai,aq,ax]) [I aO,I bA,I cy,eP,bW,gJ,nz,U,U,U,U,U]>>=dw (aC d) (cY Bn) tn.names)=(el (aC d) "Found" [bA,aq,ax]>>=λt0=>c3 (d9 (aC d) t0 "go")>>=λg1=>runM (aC d) "go" g1 t0 []>>=λbp=>el (aC d) "Teller" []>>=λt3=>bc d "kind_of" [t0,t3]>>=λcA=>setItem bA ai cA>>=λaf=>c3 (d9 (aC d) cy "append")>>=λfc=>item bA ai>>=λek=>runM (aC d) "append" fc cy [ek]>>=λfk=>(pure (bE.next,[I aO,I bA,I cy,I ai,I aq,I ax,I t0,U,U,U,U,U]):M (bE×Loc))):=by kernel_rfl
def OA(d:Nat)(loc:Loc):M V:=fZ (aC d) (List.drop 3 tn.body) tn.names loc dN
theorem aaU(d:Nat)(ai aq ax:V)(da b1 of bW:Option V):OA d [I ai,I aq,I ax,b1,da,of,bW,U,U,U,U,U]=(pure (V.tup [(V.str "good"),ax]):M V):=by kernel_rfl
theorem aaS(d:Nat)(ai:V):bc (d+1) "judged" [ai]=(cH (.dict 0 [])>>=λt0=>cH (.list [])>>=λt1=>eY ai>>=λs2=>iV (aC d) (dM Bn) (cY Bn) s2 tn.names (I ai::I t0::I t1::n_9)>>=fO dN (OA d)):=
 (eN aaV d _).trans (by kernel_rfl)
noncomputable def adZ:dn:=(tx07.at "_law_cell").getD ⟨[],[],[]⟩
theorem adY:tx07.at "_law_cell" = I adZ:=by kernel_rfl
def adW(d:Nat)(ai aq:V):M V:=(pure (V.int 0):M V)
theorem adX(d:Nat)(ai aq:V):bc (d+1) "_law_cell" [ai,aq]=(km ai>>=λt0=>cmp .Lt aq t0>>=λt1=>truth t1>>=λes=>M.cond es (item ai aq>>=λt3=>binop .Mult t3 (V.int 48271)>>=λcA=>binop .Mod cA (V.int 2147483647)>>=λcQ=>(pure cQ:M V)) (adW d ai aq)):=
 (eN adY d _).trans (by kernel_rfl)
noncomputable def ag0:dn:=(tx07.at "_law_next").getD ⟨[],[],[]⟩
noncomputable def mi:dn:=(tx07.at "_law_labels").getD ⟨[],[],[]⟩
theorem adK:tx07.at "_law_labels" = I mi:=by kernel_rfl
def mh:Expr:=(jO (fz (dg mi.body 4)) 1)
theorem adG(ai aq ax aO bA cy:V):fL mi.names [I ai,I aq,I ax,I aO,I bA,I cy,U,U,U,U,U] (bQ mh).names=pure [U,U,I ai,I ax,I cy]:=by kernel_rfl
theorem adI(ai aq ax:V)(da:Option V)(bA:V):bindTo (fJ (cx mi.names (bQ mh).names)) (fP mh) bA [U,da,I ai,I aq,I ax]=pure [U,I bA,I ai,I aq,I ax]:=by kernel_rfl
theorem adH(d:Nat)(ai aq ax aO:V):ev (aC d) (fR mh) (cx mi.names (bQ mh).names) [U,I aO,I ai,I aq,I ax]=(binop .FloorDiv ai (V.int 1274)>>=λt0=>binop .Mult t0 aO>>=λt1=>binop .Add ax t1>>=λbp=>binop .Mod bp (V.int 26)>>=λt3=>item aq t3>>=λcA=>(pure cA:M V)):=by kernel_rfl
theorem adE(d:Nat)(loc:Loc):tests (aC d) (fQ mh) (cx mi.names (bQ mh).names) loc=(pure aw:M Bool):=by kernel_rfl
theorem adF:hs (bQ mh).kind (bQ mh).names=aw:=by kernel_rfl
def BD:Stmt:=(dg mi.body 6)
theorem adD(d:Nat)(ai aq ax aO bA cy fI fj ov:V)(nz ok:Option V):(bindTo (stLoc mi.names) (dM BD) ai [I aq,I ax,I aO,I bA,I cy,I fI,nz,I fj,I ov,ok,U]>>=dw (aC d) (cY BD) mi.names)=(binop .FloorDiv aq (V.int 49)>>=λt0=>binop .Mult (V.int 3) ai>>=λt1=>binop .Add t0 t1>>=λbp=>binop .Mod bp (V.int 26)>>=λt3=>item aO t3>>=λcA=>c3 (d9 (aC d) ov "append")>>=λfc=>bound V.none>>=λsx=>bound cy>>=λEF=>j7 sx EF fj>>=λeb=>binop .Add eb cA>>=λhh=>bound cy>>=λVd=>bound V.none>>=λVc=>j7 Vd Vc fj>>=λiq=>binop .Add hh iq>>=λnk=>runM (aC d) "append" fc ov [nk]>>=λt4=>(pure (bE.next,[I aq,I ax,I aO,I bA,I cy,I fI,I ai,I fj,I ov,I cA,U]):M (bE×Loc))):=by kernel_rfl
def O6(d:Nat)(loc:Loc):M V:=fZ (aC d) (List.drop 7 mi.body) mi.names loc dN
theorem adJ(d:Nat)(ai aq ax aO bA cy fI fj:V)(gJ nz:Option V):O6 d [I ai,I aq,I ax,I aO,I bA,I cy,gJ,I fI,I fj,nz,U]=(pure fj:M V):=by kernel_rfl
theorem adC(d:Nat)(ai aq:V):bc (d+1) "_law_labels" [ai,aq]=(binop .Mod ai (V.int 7)>>=λt0=>binop .FloorDiv ai (V.int 7)>>=λt1=>binop .Add t0 (V.int 1)>>=λbp=>binop .Mod t1 bp>>=λt3=>binop .FloorDiv ai (V.int 49)>>=λcA=>binop .Mod cA (V.int 26)>>=λcQ=>c3 (d9 (aC d) (V.str "") "join")>>=λmQ=>nv t0>>=λwx=>iW (aC d) (fR mh) (fP mh) (fQ mh) (bQ mh) wx mi.names [I ai,I aq,I (V.str "abcdefghijklmnopqrstuvwxyz"),I t0,I t3,I cQ,U,U,U,U,U]>>=λeb=>runM (aC d) "join" mQ (V.str "") [eb]>>=λhh=>cH (.list [])>>=λgy=>nv aq>>=λDl=>iV (aC d) (dM BD) (cY BD) Dl mi.names [I ai,I aq,I (V.str "abcdefghijklmnopqrstuvwxyz"),I t0,I t3,I cQ,U,I hh,I gy,U,U]>>=fO dN (O6 d)):=
 (eN adK d _).trans (by kernel_rfl)
noncomputable def tA:dn:=(tx07.at "_law_path").getD ⟨[],[],[]⟩
theorem ads:tx07.at "_law_path" = I tA:=by kernel_rfl
def Bz:Stmt:=(dg tA.body 1)
theorem adq(d:Nat)(ai aq ax aO bA:V)(of:Option V):(bindTo (stLoc tA.names) (dM Bz) ai [I aq,I ax,I aO,I bA,of,U]>>=dw (aC d) (cY Bz) tA.names)=(c3 (d9 (aC d) bA "append")>>=λlT=>binop .Mod aq (V.int 4)>>=λt1=>item aO t1>>=λbp=>runM (aC d) "append" lT bA [bp]>>=λt3=>binop .FloorDiv aq (V.int 4)>>=λcA=>(pure (bE.next,[I cA,I ax,I aO,I bA,I ai,U]):M (bE×Loc))):=by kernel_rfl
def O5(d:Nat)(loc:Loc):M V:=fZ (aC d) (List.drop 2 tA.body) tA.names loc dN
theorem adr(d:Nat)(ai aq ax aO:V)(b1:Option V):O5 d [I ai,I aq,I ax,I aO,b1,U]=(pure aO:M V):=by kernel_rfl
theorem adp(d:Nat)(ai aq ax:V):bc (d+1) "_law_path" [ai,aq,ax]=(cH (.list [])>>=λt0=>nv aq>>=λs1=>iV (aC d) (dM Bz) (cY Bz) s1 tA.names [I ai,I aq,I ax,I t0,U,U]>>=fO dN (O5 d)):=
 (eN ads d _).trans (by kernel_rfl)
noncomputable def m1:dn:=(tx07.at "_law_paths").getD ⟨[],[],[]⟩
theorem ado:tx07.at "_law_paths" = I m1:=by kernel_rfl
def yr:Stmt:=(dg m1.body 1)
def md:Expr:=(jO (fz (dg (cY yr) 2)) 0)
theorem adk(ai aq ax aO bA cy:V):fL m1.names [I ai,I aq,I ax,I aO,I bA,I cy,U,U,U] (bQ md).names=pure [U,U,U,I cy]:=by kernel_rfl
theorem adm(ai:V)(b2:Option V)(ax:V):bindTo (fJ (cx m1.names (bQ md).names)) (fP md) ax [U,b2,U,I ai]=pure [U,I ax,U,I ai]:=by kernel_rfl
theorem adl(d:Nat)(ai aq:V):ev (aC d) (fR md) (cx m1.names (bQ md).names) [U,I aq,U,I ai]=(pure aq:M V):=by kernel_rfl
theorem adi(d:Nat)(ai aq:V):tests (aC d) (fQ md) (cx m1.names (bQ md).names) [U,I aq,U,I ai]=(km ai>>=λt0=>bound V.none>>=λcS=>bound t0>>=λcZ=>j7 cS cZ aq>>=λt3=>cmp .Eq t3 ai>>=λcA=>truth cA>>=λkn=>M.cond kn (pure aw:M Bool) (km aq>>=λek=>bound V.none>>=λEF=>bound ek>>=λVb=>j7 EF Vb ai>>=λhh=>cmp .Eq hh aq>>=λgy=>truth gy>>=λn4=>M.cond n4 (pure aw:M Bool) (pure aS:M Bool))):=by kernel_rfl
theorem adj:hs (bQ md).kind (bQ md).names=aw:=by kernel_rfl
theorem adh(d:Nat)(ai aq ax aO:V)(b1 of bW:Option V):(bindTo (stLoc m1.names) (dM yr) ai [I aq,I ax,I aO,b1,bW,of,U,U,U]>>=dw (aC d) (cY yr) m1.names)=(binop .Add (V.int 3) ai>>=λt0=>bc d "_law_cell" [aq,t0]>>=λt1=>binop .FloorDiv t1 (V.int 5)>>=λbp=>binop .Mod t1 (V.int 5)>>=λt3=>binop .Add (V.int 1) t3>>=λcA=>bc d "_law_path" [bp,cA,ax]>>=λcQ=>eY aO>>=λDk=>iW (aC d) (fR md) (fP md) (fQ md) (bQ md) Dk m1.names [I aq,I ax,I aO,I ai,I t1,I cQ,U,U,U]>>=λfk=>cH (.list [])>>=λeb=>cmp .Eq fk eb>>=λhh=>truth hh>>=λGK=>M.cond GK (c3 (d9 (aC d) aO "append")>>=λFK=>runM (aC d) "append" FK aO [cQ]>>=λiq=>(pure (bE.next,[I aq,I ax,I aO,I ai,I t1,I cQ,U,U,U]):M (bE×Loc))) (pure (bE.next,[I aq,I ax,I aO,I ai,I t1,I cQ,U,U,U]):M (bE×Loc))):=by kernel_rfl
def O4(d:Nat)(loc:Loc):M V:=fZ (aC d) (List.drop 2 m1.body) m1.names loc dN
theorem adn(d:Nat)(ai aq ax:V)(da b1 of:Option V):O4 d [I ai,I aq,I ax,da,of,b1,U,U,U]=(pure ax:M V):=by kernel_rfl
theorem adg(d:Nat)(ai aq:V):bc (d+1) "_law_paths" [ai,aq]=(cH (.list [])>>=λt0=>bc d "_law_cell" [ai,(V.int 0)]>>=λt1=>binop .Mod t1 (V.int 6)>>=λbp=>binop .Add (V.int 1) bp>>=λt3=>nv t3>>=λlx=>iV (aC d) (dM yr) (cY yr) lx m1.names (I ai::I aq::I t0::n_6)>>=fO dN (O4 d)):=
 (eN ado d _).trans (by kernel_rfl)
noncomputable def od:dn:=(tx07.at "_law_tree").getD ⟨[],[],[]⟩
theorem ada:tx07.at "_law_tree" = I od:=by kernel_rfl
def vB:Stmt:=(dg od.body 1)
def By:Stmt:=(dg (cY vB) 1)
theorem ac6(d:Nat)(ai aq ax aO bA cy:V)(bW:Option V):(bindTo (stLoc od.names) (dM By) ai [I aq,I ax,I aO,I bA,I cy,bW,U,U]>>=dw (aC d) (cY By) od.names)=(c3 (d9 (aC d) cy "setdefault")>>=λlT=>cH (.dict 0 [])>>=λt1=>runM (aC d) "setdefault" lT cy [ai,t1]>>=λbp=>(pure (bE.next,[I aq,I ax,I aO,I bA,I bp,I ai,U,U]):M (bE×Loc))):=by kernel_rfl
def O2(d:Nat)(loc:Loc):M (bE×Loc):=fZ (aC d) (List.drop 2 (cY vB)) od.names loc (λx=>pure x)
theorem ac9(d:Nat)(ai aq ax aO bA:V)(of:Option V):O2 d [I ai,I aq,I ax,I aO,I bA,of,U,U]=(((truth aq>>=λGL=>M.cond GL (cmp .Eq aO (V.int 0)>>=λt1=>truth t1>>=λes=>M.cond es (pure aw:M Bool) (pure aS:M Bool)) (pure aS:M Bool))>>=λf5=>M.cond f5 (pure (V.str "any"):M V) (pure (V.str "number"):M V))>>=λcA=>item ai aO>>=λcQ=>item cQ (V.int (-1))>>=λek=>setItem bA ek cA>>=λaf=>(pure (bE.next,[I ai,I aq,I ax,I aO,I bA,of,U,U]):M (bE×Loc))):=by kernel_rfl
theorem ac7(d:Nat)(ai aq ax aO:V)(b1 of bW:Option V):(bindTo (stLoc od.names) (dM vB) ai [I aq,I ax,I aO,b1,bW,of,U,U]>>=dw (aC d) (cY vB) od.names)=(item aq ai>>=λt0=>bound V.none>>=λcS=>bound (V.int (-1))>>=λcZ=>j7 cS cZ t0>>=λt3=>eY t3>>=λlx=>iV (aC d) (dM By) (cY By) lx od.names [I aq,I ax,I aO,I ai,I aO,of,U,U]>>=fO (λx=>pure x) (O2 d)):=by kernel_rfl
def O1(d:Nat)(loc:Loc):M V:=fZ (aC d) (List.drop 2 od.body) od.names loc dN
theorem ac8(d:Nat)(ai aq ax:V)(da b1 of:Option V):O1 d [I ai,I aq,I ax,da,of,b1,U,U]=(pure ax:M V):=by kernel_rfl
theorem ac5(d:Nat)(ai aq:V):bc (d+1) "_law_tree" [ai,aq]=(cH (.dict 0 [])>>=λt0=>km ai>>=λt1=>nv t1>>=λs2=>iV (aC d) (dM vB) (cY vB) s2 od.names [I ai,I aq,I t0,U,U,U,U,U]>>=fO dN (O1 d)):=
 (eN ada d _).trans (by kernel_rfl)
noncomputable def tB:dn:=(tx07.at "_law_kind").getD ⟨[],[],[]⟩
theorem adR:tx07.at "_law_kind" = I tB:=by kernel_rfl
def mj:Expr:=(fz (dg tB.body 2))
theorem adO(ai aq:V):fL tB.names [I ai,I aq,U,U,U,U,U] (bQ mj).names=pure [U,U,U,I aq,I ai]:=by kernel_rfl
theorem adQ(ai aq:V)(h6:Option V)(aO:V):bindTo (fJ (cx tB.names (bQ mj).names)) (fP mj) aO [U,h6,U,I aq,I ai]=pure [U,I aO,U,I aq,I ai]:=by kernel_rfl
theorem adP(d:Nat)(ai aq ax:V):ev (aC d) (fR mj) (cx tB.names (bQ mj).names) [U,I ax,U,I aq,I ai]=(item ai ax>>=λt0=>bc d "_law_kind" [t0,aq]>>=λt1=>(pure (V.tup [ax,t1]):M V)):=by kernel_rfl
theorem adM(d:Nat)(loc:Loc):tests (aC d) (fQ mj) (cx tB.names (bQ mj).names) loc=(pure aw:M Bool):=by kernel_rfl
theorem adN:hs (bQ mj).kind (bQ mj).names=aw:=by kernel_rfl
def O7(d:Nat)(ai aq:V):M V:=(n3 ai>>=λt0=>mT t0>>=λt1=>eY t1>>=λs2=>iW (aC d) (fR mj) (fP mj) (fQ mj) (bQ mj) s2 tB.names [I ai,I aq,U,U,U,U,U]>>=λt3=>c3 (d9 (aC d) aq "append")>>=λdk=>runM (aC d) "append" dk aq [(V.int 0)]>>=λcQ=>oW t3>>=λek=>km aq>>=λfk=>binop .Sub fk (V.int 1)>>=λeb=>(pure (V.tup [(V.str "record"),ek,eb]):M V))
def Hg(d:Nat)(ai aq:V):M V:=(cmp .Eq ai (V.str "any")>>=λt0=>truth t0>>=λeO=>M.cond eO (c3 (d9 (aC d) aq "append")>>=λg2=>runM (aC d) "append" g2 aq [(V.int 0)]>>=λt3=>km aq>>=λcA=>binop .Sub cA (V.int 1)>>=λcQ=>(pure (V.tup [(V.str "blank"),cQ]):M V)) (O7 d ai aq))
theorem adL(d:Nat)(ai aq:V):bc (d+1) "_law_kind" [ai,aq]=(cmp .Eq ai (V.str "number")>>=λt0=>truth t0>>=λeO=>M.cond eO (pure (V.tup [(V.str "number")]):M V) (Hg d ai aq)):=
 (eN adR d _).trans (by kernel_rfl)
noncomputable def tC:dn:=(tx07.at "_law_got").getD ⟨[],[],[]⟩
theorem adV:tx07.at "_law_got" = I tC:=by kernel_rfl
def BE:Stmt:=(dg tC.body 0)
theorem adT(d:Nat)(ai aq ax:V)(da:Option V):(bindTo (stLoc tC.names) (dM BE) ai [I aq,I ax,da]>>=dw (aC d) (cY BE) tC.names)=(pure (bE.next,[I (V.tup [(V.str "get"),aq,ai]),I ax,I ai]):M (bE×Loc)):=by kernel_rfl
def O8(d:Nat)(loc:Loc):M V:=fZ (aC d) (List.drop 1 tC.body) tC.names loc dN
theorem adU(d:Nat)(ai aq:V)(h6:Option V):O8 d [I ai,I aq,h6]=(pure ai:M V):=by kernel_rfl
theorem adS(d:Nat)(ai aq:V):bc (d+1) "_law_got" [ai,aq]=(eY aq>>=λnt=>iV (aC d) (dM BE) (cY BE) nt tC.names [I ai,I aq,U]>>=fO dN (O8 d)):=
 (eN adV d _).trans (by kernel_rfl)
noncomputable def adf:dn:=(tx07.at "_law_put").getD ⟨[],[],[]⟩
theorem ade:tx07.at "_law_put" = I adf:=by kernel_rfl
def O3(d:Nat)(ai aq:V):M V:=(item aq (V.int 0)>>=λt0=>item aq (V.int 0)>>=λt1=>bound (V.int 1)>>=λcZ=>bound V.none>>=λq3=>j7 cZ q3 aq>>=λcA=>bc d "_law_put" [(V.tup [(V.str "get"),ai,t1]),cA]>>=λcQ=>(pure (V.tup [(V.str "put"),ai,t0,cQ]):M V))
theorem adb(d:Nat)(ai aq:V):bc (d+1) "_law_put" [ai,aq]=(km aq>>=λt0=>cmp .Eq t0 (V.int 1)>>=λt1=>truth t1>>=λes=>M.cond es (item aq (V.int 0)>>=λt3=>(pure (V.tup [(V.str "put"),ai,t3,(V.tup [(V.str "number"),(V.int 7)])]):M V)) (O3 d ai aq)):=
 (eN ade d _).trans (by kernel_rfl)
noncomputable def mf:dn:=(tx07.at "law").getD ⟨[],[],[]⟩
theorem adB:tx07.at "law" = I mf:=by kernel_rfl
def BC:Stmt:=(dg mf.body 6)
theorem adu(d:Nat)(ai aq ax aO bA cy fI:V)(eP gJ nz:Option V):(bindTo (stLoc mf.names) (dM BC) ai (I aq::I ax::I aO::I bA::I cy::I fI::eP::gJ::nz::n_17)>>=dw (aC d) (cY BC) mf.names)=((cmp .Eq ai (V.int 0)>>=λt0=>truth t0>>=λeO=>M.cond eO (pure cy:M V) (pure (V.tup [(V.str "input"),(V.int 0)]):M V))>>=λbp=>item aO ai>>=λt3=>bc d "_law_got" [bp,t3]>>=λcA=>cH (.list [(V.tup [cA,(V.tup [(V.str "number"),(V.int 0)])]),(V.tup [(V.tup [(V.str "number"),(V.int 0)]),cA])])>>=λcQ=>binop .Add (V.int 3) ai>>=λek=>bc d "_law_cell" [aq,ek]>>=λfk=>binop .FloorDiv fk (V.int 5)>>=λeb=>binop .Mod eb (V.int 2)>>=λhh=>item cQ hh>>=λgy=>c3 (d9 (aC d) fI "append")>>=λFK=>item (V.str "abcdef") ai>>=λiq=>binop .Add (V.str "r") iq>>=λnk=>binop .Add (V.tup [(V.str "sum")]) gy>>=λt4=>runM (aC d) "append" FK fI [(V.tup [nk,t4])]>>=λCV=>(pure (bE.next,(I aq::I ax::I aO::I bA::I cy::I fI::I ai::I cA::I gy::n_17)):M (bE×Loc))):=by kernel_rfl
def Hf(d:Nat)(loc:Loc):M V:=fZ (aC d) (List.drop 7 mf.body) mf.names loc dN
def me:Expr:=(jO (jO (fz (dg mf.body 7)) 1) 1)
theorem adx(ai aq ax aO bA cy:V)(bW eP gJ:Option V):fL mf.names (I ai::I aq::I ax::I aO::I bA::I cy::bW::eP::gJ::n_17) (bQ me).names=pure [U,U]:=by kernel_rfl
theorem adz(fX:Option V)(aq:V):bindTo (fJ (cx mf.names (bQ me).names)) (fP me) aq [U,fX]=pure [U,I aq]:=by kernel_rfl
theorem ady(d:Nat)(ai:V):ev (aC d) (fR me) (cx mf.names (bQ me).names) [U,I ai]=(item ai (V.int 0)>>=λt0=>(pure (V.tup [t0,(V.tup [(V.str "number")])]):M V)):=by kernel_rfl
theorem adv(d:Nat)(loc:Loc):tests (aC d) (fQ me) (cx mf.names (bQ me).names) loc=(pure aw:M Bool):=by kernel_rfl
theorem adw:hs (bQ me).kind (bQ me).names=aw:=by kernel_rfl
def He(d:Nat)(ai aq ax aO bA cy:V)(bW eP gJ:Option V)(v8 ou kC QQ:V):M V:=(item QQ (V.int 1)>>=λt0=>c3 (d9 (aC d) t0 "append")>>=λg1=>runM (aC d) "append" g1 t0 [(V.str "more")]>>=λbp=>bound V.none>>=λq3=>bound (V.int 1)>>=λAa=>j7 q3 Aa kC>>=λcQ=>bc d "judged" [cQ]>>=λek=>cH (.list [ou])>>=λfk=>cmp .Eq ek (V.tup [(V.str "good"),fk])>>=λeb=>truth eb>>=λlV=>M.cond lV (bc d "judged" [kC]>>=λgy=>cH (.list [ou,ou])>>=λrR=>cmp .Eq gy (V.tup [(V.str "good"),rR])>>=λiq=>(pure iq:M V)) (pure eb:M V))
def BA(d:Nat)(ai aq ax aO bA cy:V)(bW eP gJ:Option V)(v8 ou:V):M V:=(oW cy>>=λt0=>cH (.list [(V.tup [(V.str "f"),(V.int 1),(V.tup [(V.str "make"),t0])]),(V.tup [(V.str "g"),(V.int 1),(V.tup [(V.str "call"),(V.str "f"),(V.tup [(V.tup [(V.str "input"),(V.int 0)])])])])])>>=λt1=>bc d "judged" [t1]>>=λbp=>cH (.list [ou,ou])>>=λt3=>cmp .NotEq bp (V.tup [(V.str "good"),t3])>>=λcA=>truth cA>>=λkn=>M.cond kn (pure (V.bool aS):M V) (He d ai aq ax aO bA cy bW eP gJ v8 ou t1 bp))
theorem adA(d:Nat)(ai aq ax aO bA cy:V)(bW eP gJ:Option V):Hf d (I ai::I aq::I ax::I aO::I bA::I cy::bW::eP::gJ::n_17)=(eY cy>>=λnt=>iW (aC d) (fR me) (fP me) (fQ me) (bQ me) nt mf.names (I ai::I aq::I ax::I aO::I bA::I cy::bW::eP::gJ::n_17)>>=λt1=>oW t1>>=λbp=>bc d "_law_tree" [ax,aO]>>=λt3=>cH (.list [])>>=λcA=>bc d "_law_kind" [t3,cA]>>=λcQ=>bc d "_law_cell" [ai,(V.int 2)]>>=λek=>binop .FloorDiv ek (V.int 2)>>=λfk=>binop .Mod fk (V.int 2)>>=λeb=>cmp .Eq eb (V.int 1)>>=λhh=>truth hh>>=λGK=>M.cond GK (r3 cy>>=λDl=>uv Dl>>=λiq=>BA d ai aq ax aO bA iq bW eP gJ (V.tup [(V.str "record"),bp,V.none]) (V.tup [(V.tup [cQ]),(V.tup [(V.str "record"),bp,V.none])])) (BA d ai aq ax aO bA cy bW eP gJ (V.tup [(V.str "record"),bp,V.none]) (V.tup [(V.tup [cQ]),(V.tup [(V.str "record"),bp,V.none])]))):=by kernel_rfl
def BB(d:Nat)(ai aq ax aO bA:V):M V:=(cH (.list [])>>=λt0=>km ax>>=λt1=>nv t1>>=λs2=>iV (aC d) (dM BC) (cY BC) s2 mf.names (I ai::I aq::I ax::I aO::I bA::I t0::n_20)>>=fO dN (Hf d))
theorem adt(d:Nat)(ai:V):bc (d+1) "law" [ai]=(bc d "_law_cell" [ai,(V.int 1)]>>=λt0=>bc d "_law_labels" [t0,(V.int 4)]>>=λt1=>bc d "_law_paths" [ai,t1]>>=λbp=>((bc d "_law_cell" [ai,(V.int 2)]>>=λt3=>binop .Mod t3 (V.int 2)>>=λcA=>cmp .Eq cA (V.int 1)>>=λcQ=>truth cQ>>=λs9=>M.cond s9 (item bp (V.int 0)>>=λfk=>km fk>>=λeb=>cmp .Lt eb (V.int 3)>>=λhh=>(pure hh:M V)) (pure cQ:M V))>>=λgy=>truth gy>>=λn4=>M.cond n4 (item bp (V.int 0)>>=λiq=>bc d "_law_put" [(V.tup [(V.str "input"),(V.int 0)]),iq]>>=λnk=>BB d ai t1 bp gy nk) (BB d ai t1 bp gy (V.tup [(V.str "input"),(V.int 0)])))):=
 (eN adB d _).trans (by kernel_rfl)
noncomputable def aci:dn:=(tx07.at "Spot.__init__").getD ⟨[],[],[]⟩
theorem ach:tx07.at "Spot.__init__" = I aci:=by kernel_rfl
theorem acg(d:Nat)(ai aq ax aO:V):bc (d+1) "Spot.__init__" [ai,aq,ax,aO]=(dT (aC d) "word" aq ai>>=λaf=>dT (aC d) "use" ax ai>>=λaf=>dT (aC d) "rest" aO ai>>=λaf=>dT (aC d) "became" V.none ai>>=λaf=>(pure V.none:M V)):=
 (eN ach d _).trans (by kernel_rfl)
noncomputable def acf:dn:=(tx07.at "Tail.__init__").getD ⟨[],[],[]⟩
theorem ace:tx07.at "Tail.__init__" = I acf:=by kernel_rfl
theorem acd(d:Nat)(ai aq ax aO:V):bc (d+1) "Tail.__init__" [ai,aq,ax,aO]=(dT (aC d) "word" aq ai>>=λaf=>dT (aC d) "use" ax ai>>=λaf=>dT (aC d) "rest" aO ai>>=λaf=>dT (aC d) "label" (V.str "") ai>>=λaf=>dT (aC d) "kind" V.none ai>>=λaf=>dT (aC d) "became" V.none ai>>=λaf=>(pure V.none:M V)):=
 (eN ace d _).trans (by kernel_rfl)
noncomputable def tv:dn:=(tx07.at "Found.__init__").getD ⟨[],[],[]⟩
theorem acz:tx07.at "Found.__init__" = I tv:=by kernel_rfl
def l9:Expr:=(fz (dg tv.body 3))
theorem acw(ai aq ax aO:V):fL tv.names [I ai,I aq,I ax,I aO,U,U] (bQ l9).names=pure [U,U,U]:=by kernel_rfl
theorem acy(fX:Option V)(aq:V):bindTo (fJ (cx tv.names (bQ l9).names)) (fP l9) aq [U,fX,U]=pure [U,I aq,U]:=by kernel_rfl
theorem acx(d:Nat)(ai:V):ev (aC d) (fR l9) (cx tv.names (bQ l9).names) [U,I ai,U]=(bc d "unknown_kind" []>>=λt0=>(pure t0:M V)):=by kernel_rfl
theorem acu(d:Nat)(loc:Loc):tests (aC d) (fQ l9) (cx tv.names (bQ l9).names) loc=(pure aw:M Bool):=by kernel_rfl
theorem acv:hs (bQ l9).kind (bQ l9).names=aw:=by kernel_rfl
theorem acs(d:Nat)(ai aq ax aO:V):bc (d+1) "Found.__init__" [ai,aq,ax,aO]=(dT (aC d) "known" aq ai>>=λaf=>dT (aC d) "body" aO ai>>=λaf=>bc d "places_of" [aO]>>=λt0=>dT (aC d) "order" t0 ai>>=λaf=>nv ax>>=λs1=>iW (aC d) (fR l9) (fP l9) (fQ l9) (bQ l9) s1 tv.names [I ai,I aq,I ax,I aO,U,U]>>=λbp=>dT (aC d) "inputs" bp ai>>=λaf=>cH (.dict 0 [])>>=λt3=>dT (aC d) "at" t3 ai>>=λaf=>(pure V.none:M V)):=
 (eN acz d _).trans (by kernel_rfl)
noncomputable def acr:dn:=(tx07.at "Found.result").getD ⟨[],[],[]⟩
theorem acq:tx07.at "Found.result" = I acr:=by kernel_rfl
theorem acp(d:Nat)(ai:V):bc (d+1) "Found.result" [ai]=(cL (aC d) "at" ai>>=λt0=>item t0 (V.tup [])>>=λt1=>(pure t1:M V)):=
 (eN acq d _).trans (by kernel_rfl)
noncomputable def mZ:dn:=(tx07.at "Found.go").getD ⟨[],[],[]⟩
theorem acJ:tx07.at "Found.go" = I mZ:=by kernel_rfl
def vA:Stmt:=(dg mZ.body 0)
def ma:Expr:=(fz (dg (cY vA) 1))
theorem acF(ai aq ax aO:V)(b1:Option V):fL mZ.names [I ai,I aq,I ax,I aO,b1,U,U,U,U,U] (bQ ma).names=pure [U,U,I ax,I ai]:=by kernel_rfl
theorem acH(ai aq:V)(h6:Option V)(aO:V):bindTo (fJ (cx mZ.names (bQ ma).names)) (fP ma) aO [U,h6,I aq,I ai]=pure [U,I aO,I aq,I ai]:=by kernel_rfl
theorem acG(d:Nat)(ai aq ax:V):ev (aC d) (fR ma) (cx mZ.names (bQ ma).names) [U,I ax,I aq,I ai]=(cL (aC d) "at" ai>>=λt0=>binop .Add aq (V.tup [ax])>>=λt1=>item t0 t1>>=λbp=>(pure bp:M V)):=by kernel_rfl
theorem acD(d:Nat)(loc:Loc):tests (aC d) (fQ ma) (cx mZ.names (bQ ma).names) loc=(pure aw:M Bool):=by kernel_rfl
theorem acE:hs (bQ ma).kind (bQ ma).names=aw:=by kernel_rfl
theorem acC(d:Nat)(ai aq ax:V)(da b1 of bW:Option V):(bindTo (stLoc mZ.names) (dM vA) (.tup [ai,aq]) [I ax,bW,of,da,b1,U,U,U,U,U]>>=dw (aC d) (cY vA) mZ.names)=(cL (aC d) "body" ax>>=λt0=>bc d "at_place" [t0,aq]>>=λt1=>bc d "parts_of" [t1]>>=λbp=>km bp>>=λt3=>nv t3>>=λlx=>iW (aC d) (fR ma) (fP ma) (fQ ma) (bQ ma) lx mZ.names [I ax,I ai,I aq,I t1,b1,U,U,U,U,U]>>=λcQ=>c3 (d9 (aC d) ax "taken")>>=λmQ=>runM (aC d) "taken" mQ ax [t1,cQ,ai]>>=λfk=>cL (aC d) "at" ax>>=λeb=>setItem eb aq fk>>=λaf=>(pure (bE.next,[I ax,I ai,I aq,I t1,I cQ,U,U,U,U,U]):M (bE×Loc))):=by kernel_rfl
def OU(d:Nat)(loc:Loc):M V:=fZ (aC d) (List.drop 1 mZ.body) mZ.names loc dN
theorem acI(d:Nat)(ai:V)(b2 h6 da b1:Option V):OU d [I ai,b1,da,b2,h6,U,U,U,U,U]=(pure V.none:M V):=by kernel_rfl
theorem acB(d:Nat)(ai:V):bc (d+1) "Found.go" [ai]=(cL (aC d) "order" ai>>=λt0=>xX t0>>=λs1=>iV (aC d) (dM vA) (cY vA) s1 mZ.names (I ai::n_9)>>=fO dN (OU d)):=
 (eN acJ d _).trans (by kernel_rfl)
noncomputable def oc:dn:=(tx07.at "Found.taken").getD ⟨[],[],[]⟩
theorem aco:tx07.at "Found.taken" = I oc:=by kernel_rfl
def OS(d:Nat)(ai aq ax aO bA:V)(of bW eP:Option V):M V:=(item ax (V.int 1)>>=λt0=>el (aC d) "Spot" [(V.str "number"),aO,V.none]>>=λt1=>bc d "join" [t0,t1,aO]>>=λbp=>el (aC d) "Spot" [(V.str "number"),aO,V.none]>>=λt3=>(pure t3:M V))
def G6(d:Nat)(ai aq ax aO bA:V)(of bW eP:Option V):M V:=(item ax (V.int 0)>>=λt0=>el (aC d) "Spot" [(V.str "number"),aO,V.none]>>=λt1=>bc d "join" [t0,t1,aO]>>=λbp=>cmp .Eq bA (V.str "if")>>=λt3=>truth t3>>=λht=>M.cond ht (item ax (V.int 1)>>=λcQ=>item ax (V.int 2)>>=λek=>bc d "join" [cQ,ek,aO]>>=λfk=>item ax (V.int 1)>>=λeb=>(pure eb:M V)) (OS d ai aq ax aO bA of bW eP))
def G7(d:Nat)(ai aq ax aO bA:V)(of bW eP:Option V):M V:=(cmp .Eq bA (V.str "call")>>=λt0=>truth t0>>=λeO=>M.cond eO (c3 (d9 (aC d) ai "called")>>=λg2=>runM (aC d) "called" g2 ai [aq,ax,aO]>>=λt3=>(pure t3:M V)) (G6 d ai aq ax aO bA of bW eP))
def yo(d:Nat)(ai aq ax aO bA:V)(of bW eP:Option V):M V:=((cmp .Eq bA (V.str "get")>>=λt0=>truth t0>>=λeO=>M.cond eO (pure aw:M Bool) (cmp .Eq bA (V.str "put")>>=λbp=>truth bp>>=λf5=>M.cond f5 (pure aw:M Bool) (pure aS:M Bool)))>>=λht=>M.cond ht (c3 (d9 (aC d) ai "asked")>>=λfc=>runM (aC d) "asked" fc ai [aq,ax,aO]>>=λek=>(pure ek:M V)) (G7 d ai aq ax aO bA of bW eP))
def yp:Stmt:=(dg (cY (dg oc.body 3)) 1)
theorem acm(d:Nat)(ai aq ax aO bA cy fI fj:V)(gJ nz:Option V):(bindTo (stLoc oc.names) (dM yp) (.tup [ai,aq]) [I ax,I aO,I bA,I cy,I fI,I fj,gJ,nz,U,U,U,U,U]>>=dw (aC d) (cY yp) oc.names)=(item ai (V.int 0)>>=λt0=>bc d "field" [t0,aq,cy,fj]>>=λt1=>(pure (bE.next,[I ax,I aO,I bA,I cy,I fI,I t1,I ai,I aq,U,U,U,U,U]):M (bE×Loc))):=by kernel_rfl
def OT(d:Nat)(loc:Loc):M V:=fZ (aC d) (List.drop 2 (cY (dg oc.body 3))) oc.names loc (fO dN (λbP=>fZ (aC d) (List.drop 4 oc.body) oc.names bP dN))
theorem acn(d:Nat)(ai aq ax aO bA cy:V)(bW eP:Option V):OT d [I ai,I aq,I ax,I aO,I bA,I cy,bW,eP,U,U,U,U,U]=(el (aC d) "Spot" [(V.str "record"),aO,cy]>>=λt0=>(pure t0:M V)):=by kernel_rfl
def tr(d:Nat)(ai aq ax aO bA:V):M V:=(cmp .Eq bA (V.str "make")>>=λt0=>truth t0>>=λeO=>M.cond eO (el (aC d) "Tail" [(V.str "end"),aO,V.none]>>=λbp=>item aq (V.int 1)>>=λt3=>tS t3 ax>>=λlx=>iV (aC d) (dM yp) (cY yp) lx oc.names (I ai::I aq::I ax::I aO::I bA::I bp::n_7)>>=fO (fO dN (λbP=>fZ (aC d) (List.drop 4 oc.body) oc.names bP dN)) (OT d)) (yo d ai aq ax aO bA U U U))
def tu(d:Nat)(ai aq ax aO bA:V):M V:=(cmp .Eq bA (V.str "input")>>=λt0=>truth t0>>=λeO=>M.cond eO (cL (aC d) "inputs" ai>>=λbp=>item aq (V.int 1)>>=λt3=>item bp t3>>=λcA=>(pure cA:M V)) (tr d ai aq ax aO bA))
theorem ack(d:Nat)(ai aq ax aO:V):bc (d+1) "Found.taken" [ai,aq,ax,aO]=(item aq (V.int 0)>>=λt0=>cmp .Eq t0 (V.str "number")>>=λt1=>truth t1>>=λes=>M.cond es (el (aC d) "Spot" [(V.str "number"),aO,V.none]>>=λt3=>(pure t3:M V)) (tu d ai aq ax aO t0)):=
 (eN aco d _).trans (by kernel_rfl)
noncomputable def acX:dn:=(tx07.at "Found.asked").getD ⟨[],[],[]⟩
theorem acW:tx07.at "Found.asked" = I acX:=by kernel_rfl
def OX(d:Nat)(ai aq ax aO bA cy:V):M V:=(item aq (V.int 2)>>=λt0=>item ax (V.int 1)>>=λt1=>bc d "field" [t0,t1,aO,cy]>>=λbp=>el (aC d) "Spot" [(V.str "record"),aO,bp]>>=λt3=>(pure t3:M V))
theorem OY(d:Nat)(ai aq ax aO:V):bc (d+1) "Found.asked" [ai,aq,ax,aO]=(bc d "unknown_kind" []>>=λt0=>bc d "unknown_rest" []>>=λt1=>item ax (V.int 0)>>=λbp=>item aq (V.int 2)>>=λt3=>bc d "field" [t3,t0,aO,t1]>>=λcA=>el (aC d) "Spot" [(V.str "record"),aO,cA]>>=λcQ=>bc d "join" [bp,cQ,aO]>>=λek=>item aq (V.int 0)>>=λfk=>cmp .Eq fk (V.str "get")>>=λeb=>truth eb>>=λlV=>M.cond lV (pure t0:M V) (OX d ai aq ax aO t0 t1)):=
 (eN acW d _).trans (by kernel_rfl)
noncomputable def iZ:dn:=(tx07.at "Found.called").getD ⟨[],[],[]⟩
theorem acV:tx07.at "Found.called" = I iZ:=by kernel_rfl
def OW(d:Nat)(loc:Loc):M V:=fZ (aC d) (List.drop 1 iZ.body) iZ.names loc dN
def mc:Expr:=(fz (dg iZ.body 2))
theorem acP(ai aq ax aO:V)(b1 of:Option V)(fI:V):fL iZ.names (I ai::I aq::I ax::I aO::b1::of::I fI::n_7) (bQ mc).names=pure [U,U,U,I fI,I aO]:=by kernel_rfl
theorem acR(ai aq:V)(h6:Option V)(aO:V):bindTo (fJ (cx iZ.names (bQ mc).names)) (fP mc) aO [U,h6,U,I aq,I ai]=pure [U,I aO,U,I aq,I ai]:=by kernel_rfl
theorem acQ(d:Nat)(ai aq ax:V):ev (aC d) (fR mc) (cx iZ.names (bQ mc).names) [U,I ax,U,I aq,I ai]=(bc d "fresh" [ax,aq,ai]>>=λt0=>(pure t0:M V)):=by kernel_rfl
theorem acN(d:Nat)(loc:Loc):tests (aC d) (fQ mc) (cx iZ.names (bQ mc).names) loc=(pure aw:M Bool):=by kernel_rfl
theorem acO:hs (bQ mc).kind (bQ mc).names=aw:=by kernel_rfl
def yq:Stmt:=(dg iZ.body 4)
theorem acM(d:Nat)(ai aq ax aO bA cy:V)(bW eP:Option V)(ov v8 ou:V)(ol TJ:Option V):(bindTo (stLoc iZ.names) (dM yq) (.tup [ai,aq]) [I ax,I aO,I bA,I cy,bW,eP,I ov,TJ,I v8,I ou,ol,U,U,U]>>=dw (aC d) (cY yq) iZ.names)=(bc d "join" [ai,aq,cy]>>=λt0=>(pure (bE.next,[I ax,I aO,I bA,I cy,bW,eP,I ov,I ai,I v8,I ou,I aq,U,U,U]):M (bE×Loc))):=by kernel_rfl
def OV(d:Nat)(loc:Loc):M V:=fZ (aC d) (List.drop 5 iZ.body) iZ.names loc dN
theorem acT(d:Nat)(ai aq ax aO:V)(b1 of:Option V)(fI fj ov:V)(nz ok:Option V):OV d [I ai,I aq,I ax,I aO,b1,of,I fI,ok,I fj,I ov,nz,U,U,U]=(pure ov:M V):=by kernel_rfl
theorem acU(d:Nat)(ai aq ax aO:V)(b1 of:Option V):OW d (I ai::I aq::I ax::I aO::b1::of::n_8)=(cH (.dict 0 [])>>=λt0=>bD b1>>=λt1=>eY t1>>=λs2=>iW (aC d) (fR mc) (fP mc) (fQ mc) (bQ mc) s2 iZ.names (I ai::I aq::I ax::I aO::b1::of::I t0::n_7)>>=λt3=>bD of>>=λcA=>bc d "fresh" [cA,t0,aO]>>=λcQ=>tS ax t3>>=λDk=>iV (aC d) (dM yq) (cY yq) Dk iZ.names [I ai,I aq,I ax,I aO,b1,of,I t0,U,I t3,I cQ,U,U,U,U]>>=fO dN (OV d)):=by kernel_rfl
theorem acL(d:Nat)(ai aq ax aO:V):bc (d+1) "Found.called" [ai,aq,ax,aO]=(cL (aC d) "known" ai>>=λt0=>item aq (V.int 1)>>=λt1=>item t0 t1>>=λbp=>bindTo (stLoc iZ.names) (dM (dg iZ.body 0)) bp (I ai::I aq::I ax::I aO::n_10)>>=OW d):=
 (eN acV d _).trans (by kernel_rfl)
noncomputable def acb:dn:=(tx07.at "Teller.__init__").getD ⟨[],[],[]⟩
theorem aca:tx07.at "Teller.__init__" = I acb:=by kernel_rfl
theorem ab9(d:Nat)(ai:V):bc (d+1) "Teller.__init__" [ai]=(cH (.list [])>>=λt0=>dT (aC d) "met" t0 ai>>=λaf=>dT (aC d) "knots" (V.int 0) ai>>=λaf=>(pure V.none:M V)):=
 (eN aca d _).trans (by kernel_rfl)
noncomputable def ab8:dn:=(tx07.at "Teller.number").getD ⟨[],[],[]⟩
theorem ab7:tx07.at "Teller.number" = I ab8:=by kernel_rfl
def Bv(d:Nat)(ai aq:V):M V:=(cL (aC d) "met" ai>>=λt0=>c3 (d9 (aC d) t0 "index")>>=λg1=>runM (aC d) "index" g1 t0 [aq]>>=λbp=>(pure bp:M V))
theorem ab6(d:Nat)(ai aq:V):bc (d+1) "Teller.number" [ai,aq]=(cL (aC d) "met" ai>>=λt0=>cmp .NotIn aq t0>>=λt1=>truth t1>>=λes=>M.cond es (cL (aC d) "met" ai>>=λt3=>c3 (d9 (aC d) t3 "append")>>=λdk=>runM (aC d) "append" dk t3 [aq]>>=λcQ=>Bv d ai aq) (Bv d ai aq)):=
 (eN ab7 d _).trans (by kernel_rfl)
noncomputable def l8:dn:=(tx07.at "Teller.told").getD ⟨[],[],[]⟩
theorem ab5:tx07.at "Teller.told" = I l8:=by kernel_rfl
def OR(d:Nat)(loc:Loc):M V:=fZ (aC d) (List.drop 6 l8.body) l8.names loc dN
def l7:Expr:=(jO (fz (dg l8.body 6)) 1)
theorem ab0(ai aq ax:V)(da b1:Option V):fL l8.names (I ai::I aq::I ax::da::b1::n_10) (bQ l7).names=pure [U,U,I ax,da,I ai]:=by kernel_rfl
theorem ab2(ai aq:V)(h6 da:Option V)(bA:V):bindTo (fJ (cx l8.names (bQ l7).names)) (fP l7) bA [U,da,I aq,h6,I ai]=pure [U,I bA,I aq,h6,I ai]:=by kernel_rfl
theorem ab1(d:Nat)(ai aq:V)(h6:Option V)(aO:V):ev (aC d) (fR l7) (cx l8.names (bQ l7).names) [U,I aO,I aq,h6,I ai]=(c3 (d9 (aC d) ai "told")>>=λlT=>bD h6>>=λt1=>item t1 aO>>=λbp=>cL (aC d) "kind" bp>>=λt3=>binop .Add aq (V.int 1)>>=λcA=>runM (aC d) "told" lT ai [t3,cA]>>=λcQ=>(pure (V.tup [aO,cQ]):M V)):=by kernel_rfl
theorem abY(d:Nat)(loc:Loc):tests (aC d) (fQ l7) (cx l8.names (bQ l7).names) loc=(pure aw:M Bool):=by kernel_rfl
theorem abZ:hs (bQ l7).kind (bQ l7).names=aw:=by kernel_rfl
def OO(d:Nat)(ai aq ax:V)(da b1:Option V)(cy fI:V):M V:=(pure (V.tup [(V.str "record"),cy,fI]):M V)
theorem ab4(d:Nat)(ai aq ax:V)(da b1:Option V):OR d (I ai::I aq::I ax::da::b1::n_10)=(bD da>>=λt0=>n3 t0>>=λt1=>mT t1>>=λbp=>eY bp>>=λpD=>iW (aC d) (fR l7) (fP l7) (fQ l7) (bQ l7) pD l8.names (I ai::I aq::I ax::da::b1::n_10)>>=λcA=>oW cA>>=λcQ=>bD b1>>=λek=>cL (aC d) "word" ek>>=λfk=>cmp .Eq fk (V.str "unknown")>>=λeb=>truth eb>>=λlV=>M.cond lV (c3 (d9 (aC d) ai "number")>>=λW9=>bD b1>>=λrR=>runM (aC d) "number" W9 ai [rR]>>=λiq=>OO d ai aq ax da b1 cQ iq) (OO d ai aq ax da b1 cQ V.none)):=by kernel_rfl
def OP(d:Nat)(ai aq ax:V):M V:=(bc d "row_of" [aq]>>=λt0=>bindTo (stLoc l8.names) (dM (dg l8.body 5)) t0 (I ai::I aq::I ax::n_12)>>=OR d)
def G5(d:Nat)(ai aq ax:V):M V:=(cL (aC d) "word" aq>>=λt0=>cmp .Eq t0 (V.str "unknown")>>=λt1=>truth t1>>=λes=>M.cond es (c3 (d9 (aC d) ai "number")>>=λg3=>runM (aC d) "number" g3 ai [aq]>>=λcA=>(pure (V.tup [(V.str "blank"),cA]):M V)) (OP d ai aq ax))
def OQ(d:Nat)(ai aq ax:V):M V:=(bc d "top" [aq]>>=λt0=>cL (aC d) "word" t0>>=λt1=>cmp .Eq t1 (V.str "number")>>=λbp=>truth bp>>=λf5=>M.cond f5 (pure (V.tup [(V.str "number")]):M V) (G5 d ai t0 ax))
theorem abX(d:Nat)(ai aq ax:V):bc (d+1) "Teller.told" [ai,aq,ax]=(cL (aC d) "knots" ai>>=λt0=>binop .Add t0 (V.int 1)>>=λt1=>dT (aC d) "knots" t1 ai>>=λaf=>((cL (aC d) "knots" ai>>=λbp=>cmp .Gt bp (V.int 200)>>=λt3=>truth t3>>=λht=>M.cond ht (pure aw:M Bool) (cmp .Gt ax (V.int 12)>>=λcQ=>truth cQ>>=λs9=>M.cond s9 (pure aw:M Bool) (pure aS:M Bool)))>>=λGI=>M.cond GI M.bad (OQ d ai aq ax))):=
 (eN ab5 d _).trans (by kernel_rfl)
end Mine.Internal

set_option backward.match.sparseCases false
namespace Mine.Internal
open PySem
theorem aby(a b:V)(ai aq ax aO bA:V)(bS cn:Option V):bindTo (stLoc je.names) (dM (dg (cY (dg (cY ob) 2)) 1)) (.tup [a,b]) [I ai,I aq,I ax,I aO,I bA,bS,cn,U,U]=pure [I ai,I aq,I ax,I aO,I bA,I a,I b,U,U]:=by kernel_rfl
theorem abj(a b:V)(ai aq ax:V):bindTo (stLoc gO.names) (dM (dg gO.body 0)) (.tup [a,b]) (I ai::I aq::I ax::n_11)=pure (I ai::I aq::I ax::I a::I b::n_9):=by kernel_rfl
theorem abi(a b:V)(ai aq ax x y:V):bindTo (stLoc gO.names) (dM (dg gO.body 1)) (.tup [a,b]) (I ai::I aq::I ax::I x::I y::n_9)=pure (I ai::I aq::I ax::I x::I y::I a::I b::n_7):=by kernel_rfl
theorem aap{n:Nat}:jm (.enum n) (dM vw)=aw:=by kernel_rfl
theorem acA{n:Nat}:jm (.enum n) (dM vA)=aw:=by kernel_rfl
theorem acj{a b:k2}{n:Nat}:jm (.zip a b n) (dM yp)=aw:=by kernel_rfl
theorem acK{a b:k2}{n:Nat}:jm (.zip a b n) (dM yq)=aw:=by kernel_rfl
theorem acS(a b:V)(ai aq ax aO:V):bindTo (stLoc iZ.names) (dM (dg iZ.body 0)) (.tup [a,b]) (I ai::I aq::I ax::I aO::n_10)=pure (I ai::I aq::I ax::I aO::I a::I b::n_8):=by kernel_rfl
theorem ab3(a b:V)(ai aq ax:V):bindTo (stLoc l8.names) (dM (dg l8.body 5)) (.tup [a,b]) (I ai::I aq::I ax::n_12)=pure (I ai::I aq::I ax::I a::I b::n_10):=by kernel_rfl
mutual
inductive T where
 |num
 |var(n:Nat)
 |aQ(r:R)
inductive R where
 |nil
 |b5(n:Nat)
 |fld(l:Str)(t:T)(r:R)
end
theorem R.ind{P:R->Prop}(aE:P .nil)(h1:∀n,P (.b5 n))(h2:∀l t r,P r->P (.fld l t r))(r:R):P r:=
 R.rec (motive_1:=λaf=>True) (motive_2:=P) aL (λaf=>aL) (λaf aJ=>aL) aE h1 (λl t r af aj=>h2 l t r aj) r
theorem T.both{P:T->Prop}{Q:R->Prop}(h1:P .num)(h2:∀n,P (.var n))(h3:∀r,Q r->P (.aQ r))(bY:Q .nil)(c0:∀n,Q (.b5 n))(dH:∀l t r,P t->Q r->Q (.fld l t r)):(∀t,P t)/\∀r,Q r:=
 ⟨λt=>T.rec (motive_1:=P) (motive_2:=Q) h1 h2 h3 bY c0 dH t,λr=>R.rec (motive_1:=P) (motive_2:=Q) h1 h2 h3 bY c0 dH r⟩
theorem T.zv(h:T.aQ r=.aQ s):r=s:=by cases h;rfl
theorem T.Q0(h:T.var n=.var m):n=m:=by cases h;rfl
theorem R.TF(h:R.b5 n=.b5 m):n=m:=by cases h;rfl
noncomputable def R.look(m:Str):R->Option T
 |.nil=>U
 |.b5 _=>U
 |.fld l t r=>if l=m then I t else r.look m
theorem R.sf:(R.fld l t r).look m=if l=m then I t else r.look m:=rfl
noncomputable def R.fin:R->Option Nat
 |.nil=>U
 |.b5 n=>I n
 |.fld _ _ r=>r.fin
def R.ins(l:Str)(t:T):R->R
 |.nil=>.fld l t .nil
 |.b5 n=>.fld l t (.b5 n)
 |.fld m u r=>if strLt m l=aw then .fld m u (r.ins l t) else .fld l t (.fld m u r)
theorem R.uF:(R.fld m u r).ins l t=if strLt m l=aw then .fld m u (r.ins l t) else .fld l t (.fld m u r):=rfl
def R.over(l:Str):R->Prop
 |.nil=>True
 |.b5 _=>True
 |.fld m _ _=>strLt l m=aw
def R.up:R->Prop
 |.nil=>True
 |.b5 _=>True
 |.fld l _ r=>r.over l/\r.up
mutual
noncomputable def T.size:T->Nat
 |.num=>1
 |.var _=>1
 |.aQ r=>1+r.size
noncomputable def R.size:R->Nat
 |.nil=>0
 |.b5 _=>0
 |.fld _ t r=>1+t.size+r.size
end
noncomputable def R.len:R->Nat
 |.nil=>0
 |.b5 _=>0
 |.fld _ _ r=>1+r.len
theorem R.kP:(R.fld m u r).ins l t=if strLt m l=aw then .fld m u (r.ins l t) else .fld l t (.fld m u r):=rfl
theorem C4(a:Str):strLt a a=aS:=by
 unfold strLt;rw[decide_eq_false_iff_not];exact List.lt_irrefl _
theorem R4(h1:strLt a b=aw)(h2:strLt b c=aw):strLt a c=aw:=by
 unfold strLt at *;exact m6 (List.lt_trans (vL h1) (vL h2))
theorem C3(h:strLt a b=aS)(cv:a≠b):strLt b a=aw:=by
 induction e:strLt b a with
 |true=>rfl
 |false=>exact absurd (zc e h) cv
theorem R.ug{l m:Str}{r:R}(aY:r.up)(ho:r.over l)(hm:r.look m≠U):strLt l m=aw:=by
 induction r using R.ind generalizing l with
 |aE=>exact absurd aa hm
 |h1 _=>exact absurd aa hm
 |h2 n t r aj=>
  rw[R.sf]at hm;by_cases e:n=m
  ·rw[<-e];exact ho
  ·rw[aR e]at hm;exact R4 ho (aj aY.2 aY.1 hm)
theorem R.ext{r s:R}(aX:r.up)(az:s.up)(hl:∀l,r.look l=s.look l)(aZ:r.fin=s.fin):r=s:=by
 have fp:∀{l:Str}{t:T}{q:R},(R.fld l t q).look l=I t:=by
  intro l t q;show(if l=l then I t else q.look l)=I t;rw[aK aa]at ⊢
 induction r using R.ind generalizing s with
 |aE=>
  cases s with
  |nil=>rfl
  |b5 _=>exact a5 aZ
  |fld l t q=>have:=hl l;rw[fp]at this;exact a5 this
 |h1 n=>
  cases s with
  |nil=>exact fU aZ
  |b5 m=>cases aZ;rfl
  |fld l t q=>have:=hl l;rw[fp]at this;exact a5 this
 |h2 l t r aj=>
  cases s with
  |nil=>have:=hl l;rw[fp]at this;exact fU this
  |b5 _=>have:=hl l;rw[fp]at this;exact fU this
  |fld m u q=>
   have ju:l=m:=by
    induction e:strLt l m with
    |true=>
     have h1:=hl l;rw[fp]at h1;have cv:¬m=l:=λeq=>by rw[eq,C4]at e;exact fw e
     have h1:I t=(if m=l then I u else q.look l):=h1;rw[aR cv]at h1;have:=R.ug (m:=l) az.2 az.1 (by rw[<-h1]at ⊢;exact nofun);rw[C2 e]at this;exact fw this
    |false=>
     by_cases cv:l=m
     ·exact cv
     ·have aG:=C3 e cv;have h1:=hl m;rw[fp]at h1;have h1:(if l=m then I t else r.look m)=I u:=h1;rw[aR cv]at h1;have:=R.ug (m:=m) aX.2 aX.1 (by rw[h1]at ⊢;exact nofun);rw[e]at this;exact fw this
   subst ju;have Vs:t=u:=by have:=hl l;rw[fp,fp]at this;exact gm this
   subst Vs;rw[aj aX.2 az.2 (λm=>?_) aZ]at ⊢;by_cases e:l=m
   ·subst e;have z:∀{q:R},q.up->q.over l->q.look l=U:=λ{q} aY ho=>by
     induction h:q.look l with
     |none=>rfl
     |some _=>have:=R.ug aY ho (m:=l) (by rw[h]at ⊢;exact nofun);rw[C4]at this;exact fw this
    rw[z aX.2 aX.1,z az.2 az.1]at ⊢
   ·have:=hl m;have this:(if l=m then I t else r.look m)=(if l=m then I t else q.look m):=this;rw[aR e,aR e]at this;exact this
theorem R.iv{l m:Str}{t:T}{r:R}(ao:r.look l=U):(r.ins l t).look m=if l=m then I t else r.look m:=by
 induction r using R.ind with
 |aE=>rfl
 |h1 _=>rfl
 |h2 k u r aj=>
  rw[R.sf]at ao;by_cases ar:k=l
  ·rw[aK ar]at ao;exact fU ao
  rw[aR ar]at ao;rw[R.uF];by_cases e:strLt k l=aw
  ·rw[aK e];show(if k=m then I u else (r.ins l t).look m)=if l=m then I t else if k=m then I u else r.look m;rw[aj ao];by_cases h1:k=m
   ·rw[aK h1,aK h1,aR (λh2:l=m=>ar (h1.trans h2.symm))]
   ·rw[aR h1,aR h1]
  ·rw[aR e];rfl
theorem R.sY{l:Str}{t:T}{r:R}:(r.ins l t).fin=r.fin:=by
 induction r using R.ind with
 |aE=>rfl
 |h1 _=>rfl
 |h2 k u r aj=>
  rw[R.uF];by_cases e:strLt k l=aw
  ·rw[aK e];exact aj
  ·rw[aR e];rfl
theorem R.Kb{l m:Str}{t:T}{r:R}(aX:r.over m)(h:strLt m l=aw):(r.ins l t).over m:=by
 cases r with
 |nil=>exact h
 |b5 _=>exact h
 |fld k u r=>
  rw[R.uF];by_cases e:strLt k l=aw
  ·rw[aK e];exact aX
  ·rw[aR e];exact h
theorem R.lh{l:Str}{t:T}{r:R}(aY:r.up)(ao:r.look l=U):(r.ins l t).up:=by
 induction r using R.ind with
 |aE=>exact⟨aL,aL⟩
 |h1 _=>exact⟨aL,aL⟩
 |h2 k u r aj=>
  rw[R.sf]at ao;by_cases ar:k=l
  ·rw[aK ar]at ao;exact fU ao
  rw[aR ar]at ao;rw[R.uF];by_cases e:strLt k l=aw
  ·rw[aK e];exact⟨R.Kb aY.1 e,aj aY.2 ao⟩
  ·rw[aR e];exact⟨C3 (by simpa using e) ar,aY⟩
theorem R.rW{l:Str}{t:T}{r:R}:(r.ins l t).size=1+t.size+r.size:=by
 induction r using R.ind with
 |aE=>rfl
 |h1 _=>rfl
 |h2 k u r aj=>
  rw[R.uF];by_cases e:strLt k l=aw
  ·rw[aK e];show 1+u.size+(r.ins l t).size=1+t.size+(1+u.size+r.size);rw[aj];exact iF (cb 0x31021000A108006284200102100020 aa) (cb 0x31021000A108006284200102100020 aa)
  ·rw[aR e];rfl
theorem R.Ea{l:Str}{t:T}{r:R}:(r.ins l t).len=1+r.len:=by
 induction r using R.ind with
 |aE=>rfl
 |h1 _=>rfl
 |h2 k u r aj=>
  rw[R.uF];by_cases e:strLt k l=aw
  ·rw[aK e];show 1+(r.ins l t).len=1+(1+r.len);rw[aj]
  ·rw[aR e];rfl
theorem R.U8{l m:Str}{t u:T}{r:R}(aY:r.up)(ju:l≠m)(h1:r.look l=U)(h2:r.look m=U):(r.ins l t).ins m u=(r.ins m u).ins l t:=by
 have eZ:(r.ins l t).look m=U:=by rw[R.iv h1,aR ju];exact h2
 have n2:(r.ins m u).look l=U:=by rw[R.iv h2,aR (kv ju)];exact h1
 refine R.ext (R.lh (R.lh aY h1) eZ) (R.lh (R.lh aY h2) n2) (λk=>?_) (by rw[R.sY,R.sY,R.sY,R.sY]);rw[R.iv eZ,R.iv n2,R.iv h1,R.iv h2];by_cases av:m=k
 ·rw[aK av,aR (λay:l=k=>ju (ay.trans av.symm)),aK av]
 ·rw[aR av,aR av]
mutual
noncomputable def T.sub(f:Nat->T)(g:Nat->R):T->T
 |.num=>.num
 |.var n=>f n
 |.aQ r=>.aQ (r.sub f g)
noncomputable def R.sub(f:Nat->T)(g:Nat->R):R->R
 |.nil=>.nil
 |.b5 n=>g n
 |.fld l t r=>(r.sub f g).ins l (t.sub f g)
end
mutual
noncomputable def T.c5(f:Nat->T)(g:Nat->R):T->Prop
 |.num=>True
 |.var _=>True
 |.aQ r=>r.c5 f g
noncomputable def R.c5(f:Nat->T)(g:Nat->R):R->Prop
 |.nil=>True
 |.b5 n=>(g n).up
 |.fld l t r=>t.c5 f g/\r.c5 f g/\(r.sub f g).look l=U
end
section
variable {f:Nat->T}{g:Nat->R}
theorem R.IC{r:R}(h:r.c5 f g):(r.sub f g).up:=by
 induction r using R.ind with
 |aE=>trivial
 |h1 n=>exact h
 |h2 l t r aj=>exact R.lh (aj h.2.1) h.2.2
theorem KV(h:((R.fld m t r).sub f g).look l=U)(aV:(r.sub f g).look m=U):m≠l/\(r.sub f g).look l=U:=by
 have h:((r.sub f g).ins m (t.sub f g)).look l=U:=h;rw[R.iv aV]at h;by_cases e:m=l
 ·rw[aK e]at h;exact fU h
 ·rw[aR e]at h;exact⟨e,h⟩
theorem R.wi{l:Str}{t:T}{r:R}(h:r.c5 f g)(ao:(r.sub f g).look l=U):(r.ins l t).sub f g=(r.sub f g).ins l (t.sub f g):=by
 induction r using R.ind with
 |aE=>rfl
 |h1 n=>rfl
 |h2 m u r aj=>
  refine aB λae=>?_;obtain⟨h1,h2,h3⟩:=h;obtain⟨e,gg⟩:=KV ao h3;refine ae ?_;rw[R.kP];by_cases c:strLt m l=aw
  ·rw[aK c];show((r.ins l t).sub f g).ins m (u.sub f g)=((r.sub f g).ins m (u.sub f g)).ins l (t.sub f g);rw[aj h2 gg,R.U8 (R.IC h2) (kv e) gg h3]
  ·rw[aR c];rfl
theorem R.Od{l:Str}{t:T}{r:R}(aP:t.c5 f g)(h:r.c5 f g)(ao:(r.sub f g).look l=U):(r.ins l t).c5 f g:=by
 induction r using R.ind with
 |aE=>exact⟨aP,aL,aa⟩
 |h1 n=>exact⟨aP,h,ao⟩
 |h2 m u r aj=>
  obtain⟨h1,h2,h3⟩:=id h;obtain⟨e,gg⟩:=KV ao h3;rw[R.kP];by_cases c:strLt m l=aw
  ·rw[aK c];refine⟨h1,aj h2 gg,?_⟩;rw[R.wi h2 gg,R.iv gg,aR (kv e)];exact h3
  ·rw[aR c];exact⟨aP,h,ao⟩
theorem R.Uz{l:Str}{r:R}(h:r.c5 f g)(hl:r.look l≠U):(r.sub f g).look l≠U:=by
 induction r using R.ind with
 |aE=>exact absurd aa hl
 |h1 n=>exact absurd aa hl
 |h2 m u r aj=>
  obtain⟨h1,h2,h3⟩:=h;refine(?_:((r.sub f g).ins m (u.sub f g)).look l≠U);rw[R.iv h3];by_cases e:m=l
  ·rw[aK e];exact nofun
  ·rw[aR e];rw[R.sf]at hl;rw[aR e]at hl;exact aj h2 hl
end
inductive lX where
 |bo|num
 |aQ(r:Nat)
inductive TW where
 |bo|fin
 |cF(l:Str)(k r:Nat)
inductive gP where
 |bg(w:lX)(b:Option Nat)
 |tail(w:TW)(b:Option Nat)
noncomputable def gP.s8:gP->Option Nat
 |.bg _ b=>b
 |.tail _ b=>b
noncomputable abbrev dr:=Nat->Option gP
def cq(G:dr)(n:Nat):Prop:=(c8 λw b=>G n=I (.bg w b))
def dy(G:dr)(n:Nat):Prop:=(c8 λw b=>G n=I (.tail w b))
inductive Top(G:dr):Nat->Nat->Prop
 |here{n:Nat}{aF:gP}:G n=some aF->aF.s8=none->Top G n n
 |there{n m t:Nat}{aF:gP}:G n=some aF->aF.s8=some m->Top G m t->Top G n t
structure bV(G:dr):Prop where
 aQ:∀{n r b},G n=I (.bg (.aQ r) b)->dy G r
 cF:∀{n l k r b},G n=I (.tail (.cF l k r) b)->cq G k/\dy G r/\b=U
 sb:∀{n w m},G n=I (.bg w (I m))->cq G m
 dj:∀{n w m},G n=I (.tail w (I m))->dy G m
 cO:∀{n r m},G n=I (.bg (.aQ r) (I m))->(c8 λbI cT=>G m=I (.bg (.aQ bI) cT))
 top:∀{n aF},G n=I aF->(∃t,Top G n t)
def GY(ρ:Nat->T)(τ:Nat->R)(n:Nat):lX->Prop
 |.bo=>True
 |.num=>ρ n=.num
 |.aQ r=>ρ n=.aQ (τ r)
def yi(ρ:Nat->T)(τ:Nat->R)(n:Nat):TW->Prop
 |.bo=>True
 |.fin=>τ n=.nil
 |.cF l k r=>(τ r).look l=U/\τ n=(τ r).ins l (ρ k)
structure bb(ρ:Nat->T)(τ:Nat->R)(G:dr):Prop where
 bg:∀{n w b},G n=I (.bg w b)->GY ρ τ n w/\∀m,b=I m->ρ n=ρ m
 tail:∀{n w b},G n=I (.tail w b)->(τ n).up/\yi ρ τ n w/\∀m,b=I m->τ n=τ m
structure Gen(G:dr)(ρ:Nat->T)(τ:Nat->R):Prop where
 sol:bb ρ τ G
 vs:∀{n},G n=I (.bg .bo U)->ρ n=.var n
 hX:∀{n},G n=I (.tail .bo U)->τ n=.b5 n
section
variable {G:dr}{ρ bK:Nat->T}{τ bR:Nat->R}
theorem C7(h:cq G n)(h':dy G n):False:=by
 obtain⟨w,b,e⟩:=h;obtain⟨w',cT,aG⟩:=h';replace aG:=e ▸ aG;cases aG
theorem Top.uniq(h:Top G n t)(h':Top G n u):t=u:=by
 induction h with
 |here e b=>
  induction h' with
  |here _ _=>rfl
  |there aG cT _=>replace aG:=e ▸ aG;cases aG;replace cT:=b ▸ cT;exact a5 cT
 |there e b _ aj=>
  induction h' with
  |here aG cT=>replace aG:=e ▸ aG;cases aG;replace cT:=b ▸ cT;exact fU cT
  |there aG cT gi=>replace aG:=e ▸ aG;cases aG;replace cT:=b ▸ cT;cases cT;exact aj gi
theorem Top.bg(h:Top G n t)(O:bV G)(az:cq G n):(∃w,G t=I (.bg w U)):=by
 induction h with
 |here e b=>
  obtain⟨w,cT,aG⟩:=az;replace aG:=e ▸ aG;cases aG;cases b;exact⟨w,e⟩
 |there e b _ aj=>
  obtain⟨w,cT,aG⟩:=az;replace aG:=e ▸ aG;cases aG;cases b;exact aj (O.sb e)
theorem Top.tail(h:Top G n t)(O:bV G)(az:dy G n):(∃w,G t=I (.tail w U)):=by
 induction h with
 |here e b=>
  obtain⟨w,cT,aG⟩:=az;replace aG:=e ▸ aG;cases aG;cases b;exact⟨w,e⟩
 |there e b _ aj=>
  obtain⟨w,cT,aG⟩:=az;replace aG:=e ▸ aG;cases aG;cases b;exact aj (O.dj e)
theorem bb.jl(S:bb ρ τ G)(O:bV G)(h:Top G n t)(az:cq G n):ρ n=ρ t:=by
 induction h with
 |here _ _=>rfl
 |there e b _ aj=>
  obtain⟨w,cT,aG⟩:=az;replace aG:=e ▸ aG;cases aG;cases b;exact((S.bg e).2 _ aa).trans (aj (O.sb e))
theorem bb.lj(S:bb ρ τ G)(O:bV G)(h:Top G n t)(az:dy G n):τ n=τ t:=by
 induction h with
 |here _ _=>rfl
 |there e b _ aj=>
  obtain⟨w,cT,aG⟩:=az;replace aG:=e ▸ aG;cases aG;cases b;exact((S.tail e).2.2 _ aa).trans (aj (O.dj e))
theorem bb.ind(S:bb ρ τ G)(O:bV G){P Q:Nat->Prop}(nt:∀n t,cq G n->Top G n t->P t->P n)(t0:∀n t,dy G n->Top G n t->Q t->Q n)
  (s1:∀n,G n=I (.bg .bo U)->P n) (s2:∀n,G n=I (.bg .num U)->P n) (pD:∀n r,G n=I (.bg (.aQ r) U)->Q r->P n)
  (t1:∀n,G n=I (.tail .bo U)->Q n) (bp:∀n,G n=I (.tail .fin U)->Q n) (t3:∀n l k r,G n=I (.tail (.cF l k r) U)->P k->Q r->Q n) :
  (∀n,cq G n->P n)/\∀n,dy G n->Q n:=by
 have key:∀N:Nat,(∀n,cq G n->(ρ n).size<=N->P n)/\∀n,dy G n->(τ n).size<=N->Q n:=by
  intro N
  induction N with
  |zero=>
   refine⟨λn az h=>?_,λn aP h=>?_⟩
   ·have:1<=(ρ n).size:=by cases ρ n;exact bx 1;exact bx 1;exact ha 1 _
    exact er (cp 0x421080810842009021 aa h this)
   ·obtain⟨w,b,e⟩:=aP;obtain⟨t,bw⟩:=O.top e;obtain⟨w',aG⟩:=bw.tail O ⟨w,b,e⟩;refine t0 n t ⟨w,b,e⟩ bw ?_
    induction w' with
    |bo=>exact t1 t aG
    |fin=>exact bp t aG
    |cF l k r=>
     have:=(S.tail aG).2.1.2;rw[S.lj O bw ⟨w,b,e⟩,this,R.rW]at h;exact er (bF 0x421080012902100021 aa h)
  |succ N aj=>
   refine⟨λn az h=>?_,λn aP h=>?_⟩
   ·obtain⟨w,b,e⟩:=az;obtain⟨t,bw⟩:=O.top e;obtain⟨w',aG⟩:=bw.bg O ⟨w,b,e⟩;refine nt n t ⟨w,b,e⟩ bw ?_;rw[S.jl O bw ⟨w,b,e⟩]at h
    induction w' with
    |bo=>exact s1 t aG
    |num=>exact s2 t aG
    |aQ r=>
     rw[((S.bg aG).1:ρ t=.aQ (τ r))]at h;exact pD t r aG (aj.2 r (O.aQ aG) (by exact bF 0xA4080212808108021 aa (h:1+(τ r).size<=N+1)))
   ·obtain⟨w,b,e⟩:=aP;obtain⟨t,bw⟩:=O.top e;obtain⟨w',aG⟩:=bw.tail O ⟨w,b,e⟩;refine t0 n t ⟨w,b,e⟩ bw ?_;rw[S.lj O bw ⟨w,b,e⟩]at h
    induction w' with
    |bo=>exact t1 t aG
    |fin=>exact bp t aG
    |cF l k r=>
     rw[((S.tail aG).2.1.2),R.rW]at h;obtain⟨h1,h2,_⟩:=O.cF aG;exact t3 t l k r aG (aj.1 k h1 (by exact cb 0x31020084C02902100021 aa h)) (aj.2 r h2 (by exact cb 0x31420084C02902100021 aa h))
 exact⟨λn az=>(key _).1 n az (bx _),λn aP=>(key _).2 n aP (bx _)⟩
theorem Gen.inst(E:Gen G ρ τ)(O:bV G)(S:bb bK bR G):(∀n,cq G n->(ρ n).c5 bK bR/\bK n=(ρ n).sub bK bR)/\∀n,dy G n->(τ n).c5 bK bR/\bR n=(τ n).sub bK bR:=by
 refine E.sol.ind O (λn t az bw h=>?_) (λn t az bw h=>?_) (λn e=>?_) (λn e=>?_) (λn r e h=>?_) (λn e=>?_) (λn e=>?_) λn l k r e h1 h2=>?_
 ·rw[E.sol.jl O bw az,S.jl O bw az];exact h
 ·rw[E.sol.lj O bw az,S.lj O bw az];exact h
 ·rw[E.vs e];exact⟨aL,aa⟩
 ·have av:ρ n=.num:=(E.sol.bg e).1;rw[av,((S.bg e).1:bK n=.num)];exact⟨aL,aa⟩
 ·have av:ρ n=.aQ (τ r):=(E.sol.bg e).1;rw[av,((S.bg e).1:bK n=.aQ (bR r)),h.2];refine⟨?_,?_⟩
  ·have:=h.1;exact this
  ·show T.aQ ((τ r).sub bK bR)=.aQ ((τ r).sub bK bR);rfl
 ·rw[E.hX e];exact⟨(S.tail e).1,aa⟩
 ·have av:τ n=.nil:=(E.sol.tail e).2.1;rw[av,((S.tail e).2.1:bR n=.nil)];exact⟨aL,aa⟩
 ·obtain⟨eZ,av⟩:=(E.sol.tail e).2.1;obtain⟨n2,ay⟩:=(S.tail e).2.1;rw[av,ay];rw[h2.2]at n2;refine⟨R.Od h1.1 h2.1 n2,?_⟩;rw[R.wi h2.1 n2,<-h1.2,<-h2.2]
end
section
variable {G:dr}{ρ bK:Nat->T}{τ bR:Nat->R}
theorem Gen.sub(E:Gen G ρ τ)(O:bV G)(S:bb bK bR G)(hg:∀t,G t=I (.tail .bo U)->(g t).up/\∀l,(g t).look l≠U->(bR t).look l≠U) :
  ((∀n,cq G n->(ρ n).c5 f g)/\∀n,dy G n->(τ n).c5 f g/\∀l,((τ n).sub f g).look l≠U->(bR n).look l≠U)/\bb (λn=>(ρ n).sub f g) (λn=>(τ n).sub f g) G:=by
 have key:(∀n,cq G n->(ρ n).c5 f g)/\∀n,dy G n->(τ n).c5 f g/\∀l,((τ n).sub f g).look l≠U->(bR n).look l≠U:=by
  refine E.sol.ind O (λn t az bw h=>?_) (λn t az bw h=>?_) (λn e=>?_) (λn e=>?_) (λn r e h=>?_) (λn e=>?_) (λn e=>?_) λn l k r e h1 h2=>?_
  ·rw[E.sol.jl O bw az];exact h
  ·rw[E.sol.lj O bw az,S.lj O bw az];exact h
  ·rw[E.vs e];trivial
  ·have av:ρ n=.num:=(E.sol.bg e).1;rw[av];trivial
  ·have av:ρ n=.aQ (τ r):=(E.sol.bg e).1;rw[av];exact h.1
  ·rw[E.hX e];exact hg n e
  ·have av:τ n=.nil:=(E.sol.tail e).2.1;rw[av];exact⟨aL,λl h=>absurd aa h⟩
  ·obtain⟨eZ,av⟩:=(E.sol.tail e).2.1;obtain⟨n2,ay⟩:=(S.tail e).2.1;have ao:((τ r).sub f g).look l=U:=by
    induction h:((τ r).sub f g).look l with
    |none=>rfl
    |some _=>exact absurd n2 (h2.2 l (by rw[h];exact nofun))
   rw[av,ay];refine⟨R.Od h1 h2.1 ao,λm hm=>?_⟩;rw[R.wi h2.1 ao,R.iv ao]at hm;rw[R.iv n2];by_cases q:l=m
   ·rw[aK q];exact nofun
   ·rw[aR q]at hm ⊢;exact h2.2 m hm
 refine⟨key,λ{n w b} e=>?_,λ{n w b} e=>?_⟩
 ·refine⟨?_,λm au=>ff (T.sub f g) ((E.sol.bg e).2 m au)⟩;have h1:=(E.sol.bg e).1
  induction w with
  |bo=>trivial
  |num=>refine(?_:(ρ n).sub f g=.num);rw[show ρ n=.num from h1];rfl
  |aQ r=>refine(?_:(ρ n).sub f g=.aQ ((τ r).sub f g));rw[show ρ n=.aQ (τ r) from h1];rfl
 ·refine⟨R.IC (key.2 n ⟨w,b,e⟩).1,?_,λm au=>ff (R.sub f g) ((E.sol.tail e).2.2 m au)⟩;have h1:=(E.sol.tail e).2.1
  induction w with
  |bo=>trivial
  |fin=>refine(?_:(τ n).sub f g=.nil);rw[show τ n=.nil from h1];rfl
  |cF l k r=>
   obtain⟨n2,ay⟩:=(S.tail e).2.1;obtain⟨ar,aX,_⟩:=O.cF e;have ao:((τ r).sub f g).look l=U:=by
    induction h:((τ r).sub f g).look l with
    |none=>rfl
    |some _=>exact absurd n2 ((key.2 r aX).2 l (by rw[h];exact nofun))
   exact⟨ao,by refine(?_:(τ n).sub f g=_);rw[h1.2,R.wi (key.2 r aX).1 ao]⟩
theorem Gen.fix(E:Gen G ρ τ)(O:bV G)(S:bb bK bR G)(ak:∀n,Top G n x->(cq G n->(bK n).size=N)/\(dy G n->(bR n).size=N))
  (aZ:∀n,n≠x->f n=.var n) (hg:∀n,n≠x->g n=.b5 n) (aV:(∀n,cq G n->(ρ n).c5 f g)/\∀n,dy G n->(τ n).c5 f g) :
  (∀n,cq G n->(bK n).size<=N->¬Top G n x->(ρ n).sub f g=ρ n)/\∀n,dy G n->(bR n).size<=N->¬Top G n x->(τ n).sub f g=τ n:=by
 refine S.ind O (λn t az bw h=>?_) (λn t az bw h=>?_) (λn e=>?_) (λn e=>?_) (λn r e h=>?_) (λn e=>?_) (λn e=>?_) λn l k r e h1 h2=>?_
 ·intro cg gf;rw[E.sol.jl O bw az];obtain⟨w,e⟩:=bw.bg O az;exact h (by rw[<-S.jl O bw az];exact cg) λh'=>by
   have:t=x:=(Top.here e aa).uniq h';exact gf (this ▸ bw)
 ·intro cg gf;rw[E.sol.lj O bw az];obtain⟨w,e⟩:=bw.tail O az;exact h (by rw[<-S.lj O bw az];exact cg) λh'=>by
   have:t=x:=(Top.here e aa).uniq h';exact gf (this ▸ bw)
 ·intro _ gf;rw[E.vs e];exact aZ n λeq=>gf (eq ▸ .here e aa)
 ·intro _ _;rw[show ρ n=.num from(E.sol.bg e).1];rfl
 ·intro cg _;rw[show ρ n=.aQ (τ r) from(E.sol.bg e).1];rw[((S.bg e).1:bK n=.aQ (bR r))]at cg;have cg:1+(bR r).size<=N:=cg;refine(?_:T.aQ ((τ r).sub f g)=_);rw[h (by exact bF 0x14810148108021 aa cg) λaP=>by have:=(ak r aP).2 (O.aQ e);exact er (bF 0x8421014811948108021 aa cg this)]
 ·intro _ gf;rw[E.hX e];exact hg n λeq=>gf (eq ▸ .here e aa)
 ·intro _ _;rw[show τ n=.nil from(E.sol.tail e).2.1];rfl
 ·intro cg _;obtain⟨eZ,av⟩:=(E.sol.tail e).2.1;obtain⟨n2,ay⟩:=(S.tail e).2.1;obtain⟨ar,aX,_⟩:=O.cF e;replace cg:=R.rW ▸ ay ▸ cg;have h3:=h1 (by exact cb 0x6204062902100021 aa cg) λaP=>by have:=(ak k aP).1 ar;exact er (cb 0x2108406204662902100021 aa cg this)
  have bY:=h2 (by exact cb 0x6284062902100021 aa cg) λaP=>by have:=(ak r aP).2 aX;exact er (cb 0x2108406284662902100021 aa cg this)
  rw[av,R.wi (aV.2 r aX) (by rw[bY];exact eZ),h3,bY]
noncomputable def put(G:dr)(n:Nat)(aF:gP):dr:=λm=>if m=n then I aF else G m
theorem dK:put G n aF n=I aF:=aK aa
theorem d6(h:m≠n):put G n aF m=G m:=aR h
structure Bind(G:dr)(x y:Nat)(aF fB:gP):Prop where
 at_:G x=I aF
 no:aF.s8=U
 now:fB.s8=I y
 top:(∃t,Top G y t/\t≠x)
theorem Bind.other(B:Bind G x y aF fB)(h:Top G n u)(aY:u≠x):Top (put G x fB) n u:=by
 induction h with
 |here e b=>exact .here (by rw[d6 aY];exact e) b
 |@there n m t T3 e b h aj=>
  have ao:n≠x:=λeq=>by replace e:=B.at_ ▸ eq ▸ e;cases e;replace b:=B.no ▸ b;exact a5 b
  exact .there (by rw[d6 ao];exact e) b (aj aY)
theorem Bind.self(B:Bind G x y aF fB)(aP:Top G y t)(cv:t≠x)(h:Top G n x):Top (put G x fB) n t:=by
 generalize aY:x=u at h
 induction h with
 |here e b=>subst aY;exact .there dK B.now (B.other aP cv)
 |@there n m v T3 e b h aj=>
  subst aY;have ao:n≠x:=λeq=>by replace e:=B.at_ ▸ eq ▸ e;cases e;replace b:=B.no ▸ b;exact a5 b
  exact .there (by rw[d6 ao];exact e) b (aj aa)
theorem Bind.y5(B:Bind G x y aF fB)(h:Top G n u):(∃v,Top (put G x fB) n v):=by
 obtain⟨t,aP,cv⟩:=B.top;by_cases aY:u=x
 ·subst aY;exact⟨t,B.self aP cv h⟩
 ·exact⟨u,B.other h aY⟩
theorem Es(e:G x=I (.bg w b)):cq (put G x (.bg w cT)) n↔cq G n:=by
 by_cases h:n=x
 ·subst h;exact⟨λaf=>⟨_,_,e⟩,λaf=>⟨_,_,dK⟩⟩
 ·unfold cq;rw[d6 h]
theorem z7(e:G x=I (.bg w b)):dy (put G x (.bg w cT)) n↔dy G n:=by
 by_cases h:n=x
 ·subst h;exact⟨λa8=>by obtain⟨_,_,aG⟩:=a8;exact(by replace aG:=dK ▸ aG;cases aG),λa8=>by obtain⟨_,_,aG⟩:=a8;exact(by replace aG:=e ▸ aG;cases aG)⟩
 ·unfold dy;rw[d6 h]
theorem z8(e:G x=I (.tail w b)):dy (put G x (.tail w cT)) n↔dy G n:=by
 by_cases h:n=x
 ·subst h;exact⟨λaf=>⟨_,_,e⟩,λaf=>⟨_,_,dK⟩⟩
 ·unfold dy;rw[d6 h]
theorem Er(e:G x=I (.tail w b)):cq (put G x (.tail w cT)) n↔cq G n:=by
 by_cases h:n=x
 ·subst h;exact⟨λa8=>by obtain⟨_,_,aG⟩:=a8;exact(by replace aG:=dK ▸ aG;cases aG),λa8=>by obtain⟨_,_,aG⟩:=a8;exact(by replace aG:=e ▸ aG;cases aG)⟩
 ·unfold cq;rw[d6 h]
theorem dO(h:put G x aF n=I fB):(n=x/\fB=aF)\/(n≠x/\G n=I fB):=by
 by_cases e:n=x
 ·subst e;replace h:=dK ▸ h;cases h;exact .inl ⟨aa,aa⟩
 ·replace h:=d6 e ▸ h;exact .inr ⟨e,h⟩
theorem bV.kl(O:bV G)(B:Bind G x y (.bg w U) (.bg w (I y)))(a9:cq G y)(hw:∀r,w=.aQ r->(c8 λbI cT=>G y=I (.bg (.aQ bI) cT))):bV (put G x (.bg w (I y))) where
 cO:=λ{n r m} h=>by
  have k:∀{m bI cT},G m=I (.bg (.aQ bI) cT)->(c8 λTf ZR=>put G x (.bg w (I y)) m=I (.bg (.aQ Tf) ZR)):=λ{m bI cT} e=>by
   by_cases q:m=x
   ·subst q;have:=B.at_;replace this:=e ▸ this;cases this;exact⟨_,_,dK⟩
   ·exact⟨_,_,by rw[d6 q];exact e⟩
  rcases dO h with ⟨rfl,e⟩|⟨_,e⟩
  ·cases e;obtain⟨_,_,e⟩:=hw r aa;exact k e
  ·obtain⟨_,_,e⟩:=O.cO e;exact k e
 aQ:=λ{n r b} h=>(z7 B.at_).mpr (by
  rcases dO h with ⟨rfl,e⟩|⟨_,e⟩
  ·cases e;exact O.aQ B.at_
  ·exact O.aQ e)
 cF:=λ{n l k r b} h=>by
  rcases dO h with ⟨_,e⟩|⟨_,e⟩
  ·cases e
  ·obtain⟨h1,h2,h3⟩:=O.cF e;exact⟨(Es B.at_).mpr h1,(z7 B.at_).mpr h2,h3⟩
 sb:=λ{n w' m} h=>(Es B.at_).mpr (by
  rcases dO h with ⟨rfl,e⟩|⟨_,e⟩
  ·cases e;exact a9
  ·exact O.sb e)
 dj:=λ{n w' m} h=>(z7 B.at_).mpr (by
  rcases dO h with ⟨_,e⟩|⟨_,e⟩
  ·cases e
  ·exact O.dj e)
 top:=λ{n aF} h=>by
  rcases dO h with ⟨rfl,_⟩|⟨_,e⟩
  ·exact B.y5 (.here B.at_ aa)
  ·obtain⟨t,aP⟩:=O.top e;exact B.y5 aP
theorem bV.hO(O:bV G)(B:Bind G x y (.tail w U) (.tail w (I y)))(a9:dy G y)(hw:∀l k r,w≠.cF l k r):bV (put G x (.tail w (I y))) where
 cO:=λ{n r m} h=>by
  rcases dO h with ⟨_,e⟩|⟨_,e⟩
  ·cases e
  ·obtain⟨bI,cT,e⟩:=O.cO e;exact⟨bI,cT,by rw[d6 (λq=>by rw[q,B.at_]at e;cases e)];exact e⟩
 aQ:=λ{n r b} h=>(z8 B.at_).mpr (by
  rcases dO h with ⟨_,e⟩|⟨_,e⟩
  ·cases e
  ·exact O.aQ e)
 cF:=λ{n l k r b} h=>by
  rcases dO h with ⟨_,e⟩|⟨_,e⟩
  ·cases e;exact absurd aa (hw l k r)
  ·obtain⟨h1,h2,h3⟩:=O.cF e;exact⟨(Er B.at_).mpr h1,(z8 B.at_).mpr h2,h3⟩
 sb:=λ{n w' m} h=>(Er B.at_).mpr (by
  rcases dO h with ⟨_,e⟩|⟨_,e⟩
  ·cases e
  ·exact O.sb e)
 dj:=λ{n w' m} h=>(z8 B.at_).mpr (by
  rcases dO h with ⟨rfl,e⟩|⟨_,e⟩
  ·cases e;exact a9
  ·exact O.dj e)
 top:=λ{n aF} h=>by
  rcases dO h with ⟨rfl,_⟩|⟨_,e⟩
  ·exact B.y5 (.here B.at_ aa)
  ·obtain⟨t,aP⟩:=O.top e;exact B.y5 aP
theorem bb.kl(e:G x=I (.bg w U)):bb ρ τ (put G x (.bg w (I y)))↔bb ρ τ G/\ρ x=ρ y:=by
 refine⟨λS=>⟨⟨λ{n w' b} h=>?_,λ{n w' b} h=>?_⟩,(S.bg dK).2 y aa⟩,λ⟨S,fM⟩=>⟨λ{n w' b} h=>?_,λ{n w' b} h=>?_⟩⟩
 ·by_cases ao:n=x
  ·subst ao;replace h:=e ▸ h;cases h;exact⟨(S.bg dK).1,nofun⟩
  ·exact S.bg (by rw[d6 ao];exact h)
 ·by_cases ao:n=x
  ·subst ao;replace h:=e ▸ h;cases h
  ·exact S.tail (by rw[d6 ao];exact h)
 ·rcases dO h with ⟨rfl,q⟩|⟨_,q⟩
  ·cases q;exact⟨(S.bg e).1,λm hm=>by cases hm;exact fM⟩
  ·exact S.bg q
 ·rcases dO h with ⟨_,q⟩|⟨_,q⟩
  ·cases q
  ·exact S.tail q
theorem bb.hO(e:G x=I (.tail w U)):bb ρ τ (put G x (.tail w (I y)))↔bb ρ τ G/\τ x=τ y:=by
 refine⟨λS=>⟨⟨λ{n w' b} h=>?_,λ{n w' b} h=>?_⟩,(S.tail dK).2.2 y aa⟩,λ⟨S,fM⟩=>⟨λ{n w' b} h=>?_,λ{n w' b} h=>?_⟩⟩
 ·by_cases ao:n=x
  ·subst ao;replace h:=e ▸ h;cases h
  ·exact S.bg (by rw[d6 ao];exact h)
 ·by_cases ao:n=x
  ·subst ao;replace h:=e ▸ h;cases h;exact⟨(S.tail dK).1,(S.tail dK).2.1,nofun⟩
  ·exact S.tail (by rw[d6 ao];exact h)
 ·rcases dO h with ⟨_,q⟩|⟨_,q⟩
  ·cases q
  ·exact S.bg q
 ·rcases dO h with ⟨rfl,q⟩|⟨_,q⟩
  ·cases q;exact⟨(S.tail e).1,(S.tail e).2.1,λm hm=>by cases hm;exact fM⟩
  ·exact S.tail q
def c6(G:dr):Prop:=(c8 λρ τ=>Gen G ρ τ)
theorem c6.kl(O:bV G)(H:c6 G)(S:bb bK bR G)(B:Bind G x y (.bg .bo U) (.bg .bo (I y)))(a9:cq G y)(fM:bK x=bK y):c6 (put G x (.bg .bo (I y))):=by
 obtain⟨ρ,τ,E⟩:=H;obtain⟨t,aP,cv⟩:=B.top;obtain⟨aV,bG⟩:=E.sub O S (f:=λm=>if m=x then ρ y else .var m) (g:=.b5) λt af=>⟨aL,λl h=>absurd aa h⟩;have Fh:=(E.fix O S (x:=x) (N:=(bK x).size) (λn ao=>⟨λaz=>by rw[S.jl O ao az],λaz=>by
  obtain⟨w,e⟩:=ao.tail O az;have:=B.at_;replace this:=e ▸ this;cases this⟩) (λn ao=>by refine(?_:(if n=x then ρ y else T.var n)=_);rw[aR ao]) (λn af=>aa) ⟨aV.1,λn ao=>(aV.2 n ao).1⟩).1 y a9 (by rw[fM];exact bx _) λh=>cv (aP.uniq h)
 refine⟨_,_,(bb.kl B.at_).mpr ⟨bG,?_⟩,λ{n} e=>?_,λ{n} e=>?_⟩
 ·refine(?_:(ρ x).sub _ _=(ρ y).sub _ _);rw[Fh,E.vs B.at_];refine(?_:(if x=x then ρ y else T.var x)=_);rw[aK aa]
 ·rcases dO e with ⟨_,q⟩|⟨ao,q⟩
  ·cases q
  ·refine(?_:(ρ n).sub _ _=_);rw[E.vs q];refine(?_:(if n=x then ρ y else T.var n)=_);rw[aR ao]
 ·rcases dO e with ⟨_,q⟩|⟨ao,q⟩
  ·cases q
  ·refine(?_:(τ n).sub _ _=_);rw[E.hX q];rfl
theorem c6.hO(O:bV G)(H:c6 G)(S:bb bK bR G)(B:Bind G x y (.tail .bo U) (.tail .bo (I y)))(a9:dy G y)(fM:bR x=bR y):c6 (put G x (.tail .bo (I y))):=by
 refine aB λae=>?_;obtain⟨ρ,τ,E⟩:=H;obtain⟨t,aP,cv⟩:=B.top;obtain⟨af0,agU,nY⟩:=id a9;obtain⟨ZW,p4⟩:=(E.inst O S).2 y a9;obtain⟨aV,bG⟩:=E.sub O S (f:=.var) (g:=λm=>if m=x then τ y else .b5 m) λt af=>by
  refine(?_:R.up (if t=x then τ y else .b5 t)/\_);by_cases e:t=x
  ·refine⟨by rw[aK e];exact(E.sol.tail nY).1,λl hl=>?_⟩;have hl:R.look l (if t=x then τ y else .b5 t)≠U:=hl;replace hl:=aK e ▸ hl;rw[e,fM,p4];exact R.Uz ZW hl
  ·refine⟨by rw[aR e];trivial,λl hl=>?_⟩;have hl:R.look l (if t=x then τ y else .b5 t)≠U:=hl;replace hl:=aR e ▸ hl;exact absurd aa hl
 have Fh:=(E.fix O S (x:=x) (N:=(bR x).size) (λn ao=>⟨λaz=>(by
  obtain⟨w,e⟩:=ao.bg O az;have:=B.at_;replace this:=e ▸ this;cases this),λaz=>by rw[S.lj O ao az]⟩) (λn af=>aa) (λn ao=>by refine(?_:(if n=x then τ y else R.b5 n)=_);rw[aR ao]) ⟨aV.1,λn ao=>(aV.2 n ao).1⟩).2 y a9 (by rw[fM];exact bx _) λh=>cv (aP.uniq h)
 refine ae ⟨_,_,(bb.hO B.at_).mpr ⟨bG,?_⟩,λ{n} e=>?_,λ{n} e=>?_⟩
 ·refine(?_:(τ x).sub _ _=(τ y).sub _ _);rw[Fh,E.hX B.at_];refine(?_:(if x=x then τ y else R.b5 x)=_);rw[aK aa]
 ·rcases dO e with ⟨_,q⟩|⟨ao,q⟩
  ·cases q
  ·refine(?_:(ρ n).sub _ _=_);rw[E.vs q];rfl
 ·rcases dO e with ⟨_,q⟩|⟨ao,q⟩
  ·cases q
  ·refine(?_:(τ n).sub _ _=_);rw[E.hX q];refine(?_:(if n=x then τ y else R.b5 n)=_);rw[aR ao]
end
noncomputable def lk{gn α:Type}[DecidableEq gn]:List (gn×α)->gn->Option α
 |[],_=>U
 |p::r,m=>if p.1=m then I p.2 else lk r m
theorem zY{gn α:Type}[DecidableEq gn] {p:gn×α}{r:List (gn×α)}{m:gn}:lk (p::r) m=if p.1=m then I p.2 else lk r m:=rfl
noncomputable def de:List (Str×T)->R->R
 |[],r=>r
 |p::ps,r=>(de ps r).ins p.1 p.2
def Off(ls:List Str)(r:R):Prop:=∀l∈ls,r.look l=U
section
variable {gn α β:Type}[DecidableEq gn]
theorem kJ{ps:List (gn×α)}{m:gn}{a:α}(h:lk ps m=I a):(m,a)∈ps:=by
 induction ps with
 |nil=>exact a5 h
 |cons p ps aj=>
  rw[zY]at h;by_cases e:p.1=m
  ·replace h:=aK e ▸ h;cases h;rw[<-e];exact b9
  ·replace h:=aR e ▸ h;exact dz _ (aj h)
theorem nB{ps:List (gn×α)}{m:gn}:lk ps m=U↔m∉ps.map (·.1):=by
 induction ps with
 |nil=>exact⟨λaf=>List.not_mem_nil,λaf=>aa⟩
 |cons p ps aj=>
  rw[zY];rw[ea,List.mem_cons];by_cases e:p.1=m
  ·rw[aK e];exact⟨nofun,λh=>absurd (Or.inl e.symm) h⟩
  ·rw[aR e,aj];exact⟨λh hm=>hm.elim (λq=>e q.symm) h,λh hm=>h (.inr hm)⟩
theorem uu{ps:List (gn×α)}(h:(ps.map (·.1)).Nodup){m:gn}{a:α}(hm:(m,a)∈ps):lk ps m=I a:=by
 induction ps with
 |nil=>cases hm
 |cons p ps aj=>
  rw[ea,hV]at h;rw[zY];rcases List.mem_cons.mp hm with e|hm
  ·subst e;exact aK aa
  ·have:p.1≠m:=λe=>h.1 (by rw[e];exact ez.mpr ⟨_,hm,aa⟩);rw[aR this];exact aj h.2 hm
theorem D6{ps:List (gn×α)}{f:α->β}{m:gn}:lk (ps.map λp=>(p.1,f p.2)) m=(lk ps m).map f:=by
 induction ps with
 |nil=>rfl
 |cons p ps aj=>
  refine(?_:(if p.1=m then I (f p.2) else lk _ m)=Option.map f (if p.1=m then I p.2 else lk ps m));by_cases e:p.1=m
  ·rw[aK e,aK e];rfl
  ·rw[aR e,aR e];exact aj
end
theorem w1{ps:List (Str×T)}{r:R}(aF:(ps.map (·.1)).Nodup)(ho:Off (ps.map (·.1)) r){m:Str}:(de ps r).look m=(lk ps m).or (r.look m):=by
 induction ps generalizing m with
 |nil=>rfl
 |cons p ps aj=>
  rw[ea,hV]at aF;have Lw:=λk=>aj (m:=k) aF.2 (λl hl=>ho l (by rw[ea];exact dz _ hl));refine(?_:((de ps r).ins p.1 p.2).look m=_);have ao:(de ps r).look p.1=U:=by
   rw[Lw,nB.mpr aF.1,ho p.1 (by rw[ea];exact b9)];rfl
  rw[R.iv ao];rw[zY];by_cases e:p.1=m
  ·rw[aK e,aK e];rfl
  ·rw[aR e,aR e];exact Lw m
theorem D1{p:Str×T}{ps:List (Str×T)}{r:R}(aF:((p::ps).map (·.1)).Nodup)(ho:Off ((p::ps).map (·.1)) r):(de ps r).look p.1=U:=by
 rw[ea,hV]at aF;rw[w1 aF.2 λl hl=>ho l (by rw[ea];exact dz _ hl),nB.mpr aF.1,ho p.1 (by rw[ea];exact b9)];rfl
theorem Off.tail{p:Str×T}{ps:List (Str×T)}{r:R}(ho:Off ((p::ps).map (·.1)) r):Off (ps.map (·.1)) r:=λl hl=>ho l (by rw[ea];exact dz _ hl)
theorem zI{α:Type}{p:Str×α}{ps:List (Str×α)}(aF:((p::ps).map (·.1)).Nodup):(ps.map (·.1)).Nodup:=by rw[ea,hV]at aF;exact aF.2
theorem Q3{ps:List (Str×T)}{r:R}(aF:(ps.map (·.1)).Nodup)(ho:Off (ps.map (·.1)) r)(aY:r.up):(de ps r).up:=by
 induction ps with
 |nil=>exact aY
 |cons p ps aj=>exact R.lh (aj (zI aF) ho.tail) (D1 aF ho)
theorem xR:(de ps r).fin=r.fin:=by
 induction ps with
 |nil=>rfl
 |cons p ps aj=>exact R.sY.trans aj
theorem zm:(de (p::ps) r).size=1+p.2.size+(de ps r).size:=R.rW
theorem D9:(de ps r).len=ps.length+r.len:=by
 induction ps with
 |nil=>exact(kx _).symm
 |cons p ps aj=>
  refine(?_:((de ps r).ins p.1 p.2).len=ps.length+1+r.len);rw[R.Ea,aj];exact iF (bF 0xA1090002900108020 aa) (bF 0xA4004202842400020 aa)
theorem Dg(h:p∈ps):1+p.2.size<=(de ps r).size:=by
 induction ps with
 |nil=>cases h
 |cons q ps aj=>
  rw[zm];rcases List.mem_cons.mp h with e|h
  ·subst e;exact bF 0x290210008108020 aa
  ·have:=aj h;exact cb 0x14C108004084010148108021 aa this
theorem Sp:r.size<=(de ps r).size:=by
 induction ps with
 |nil=>exact bx _
 |cons q ps aj=>rw[zm];exact cb 0x5304200102029021 aa aj
noncomputable def R.del(p:Str->Bool):R->R
 |.nil=>.nil
 |.b5 n=>.b5 n
 |.fld l t r=>if p l=aw then r.del p else .fld l t (r.del p)
theorem R.x3:(R.fld l t r).del p=if p l=aw then r.del p else .fld l t (r.del p):=rfl
theorem R.D2{p:Str->Bool}{r:R}{m:Str}:(r.del p).look m=if p m=aw then U else r.look m:=by
 induction r using R.ind with
 |aE=>exact(Lx aa).symm
 |h1 n=>exact(Lx aa).symm
 |h2 l t r aj=>
  rw[R.x3];by_cases e:p l=aw
  ·rw[aK e,aj];by_cases ay:l=m
   ·subst ay;rw[aK e,aK e]
   ·refine(?_:_=if p m=aw then U else if l=m then I t else r.look m);rw[aR ay]
  ·rw[aR e];refine(?_:(if l=m then I t else (r.del p).look m)=if p m=aw then U else if l=m then I t else r.look m);rw[aj];by_cases ay:l=m
   ·subst ay;rw[aK aa,aK aa,aR e]
   ·rw[aR ay,aR ay]
where Lx {c:Prop}[Decidable c] {x y:Option T}(h:x=y):(if c then x else y)=y:=by by_cases aA:c <;> simp [aA,h]
theorem R.AK{p:Str->Bool}{r:R}:(r.del p).fin=r.fin:=by
 induction r using R.ind with
 |aE=>rfl
 |h1 n=>rfl
 |h2 l t r aj=>
  rw[R.x3];by_cases e:p l=aw
  ·rw[aK e];exact aj
  ·rw[aR e];exact aj
theorem R.y0{p:Str->Bool}{r:R}(aY:r.up):(r.del p).up:=by
 induction r using R.ind with
 |aE=>trivial
 |h1 n=>trivial
 |h2 l t r aj=>
  rw[R.x3];by_cases e:p l=aw
  ·rw[aK e];exact aj aY.2
  ·rw[aR e];refine⟨?_,aj aY.2⟩
   cases h:r.del p with
   |nil=>trivial
   |b5 n=>trivial
   |fld m u q=>
    have h1:(r.del p).look m≠U:=by rw[h];show(if m=m then I u else _)≠U;rw[aK aa];exact nofun
    rw[R.D2]at h1;by_cases ay:p m=aw
    ·rw[aK ay]at h1;exact absurd aa h1
    ·rw[aR ay]at h1;exact R.ug aY.2 aY.1 h1
theorem R.Jo{p:Str->Bool}{r:R}:(r.del p).size<=r.size/\(r.del p).len<=r.len:=by
 induction r using R.ind with
 |aE=>exact⟨bx _,bx _⟩
 |h1 n=>exact⟨bx _,bx _⟩
 |h2 l t r aj=>
  rw[R.x3];by_cases e:p l=aw
  ·rw[aK e];exact⟨b0 aj.1 (qp _ _),b0 aj.2 (qp _ _)⟩
  ·rw[aR e];exact⟨jZ aj.1 _,jZ aj.2 _⟩
mutual
noncomputable def T.ec:T->Prop
 |.num=>True
 |.var _=>True
 |.aQ r=>r.len<=30/\r.ec
noncomputable def R.ec:R->Prop
 |.nil=>True
 |.b5 _=>True
 |.fld _ t r=>t.ec/\r.ec
end
theorem R.KH{l:Str}{t:T}{r:R}:(r.ins l t).ec↔t.ec/\r.ec:=by
 induction r using R.ind with
 |aE=>exact HT
 |h1 n=>exact HT
 |h2 m u r aj=>
  rw[R.kP];by_cases e:strLt m l=aw
  ·rw[aK e];show u.ec/\(r.ins l t).ec↔t.ec/\u.ec/\r.ec;rw[aj];exact⟨λa8=>by obtain⟨a,b,c⟩:=a8;exact⟨b,a,c⟩,λa8=>by obtain⟨a,b,c⟩:=a8;exact⟨b,a,c⟩⟩
  ·rw[aR e];exact HT
theorem R.T8{p:Str->Bool}{r:R}(h:r.ec):(r.del p).ec:=by
 induction r using R.ind with
 |aE=>trivial
 |h1 n=>trivial
 |h2 l t r aj=>
  rw[R.x3];by_cases e:p l=aw
  ·rw[aK e];exact aj h.2
  ·rw[aR e];exact⟨h.1,aj h.2⟩
structure dS(B:Nat)(t:T):Prop where
 size:t.size<=B
 ec:t.ec
structure kr(B:Nat)(r:R):Prop where
 size:r.size<=B
 len:r.len<=30
 ec:r.ec
theorem kr.ins(h:kr B (r.ins l t)):dS B t/\kr B r:=by
 have h1:=h.size;have h2:=h.len;have h3:=R.KH.mp h.ec;rw[R.rW]at h1;rw[R.Ea]at h2;exact⟨⟨by exact cb 0x6204062902100021 aa h1,h3.1⟩,by exact cb 0x6284062902100021 aa h1,by exact cp 0xF78240801EF048108021 aa h2,h3.2⟩
theorem kr.del{B:Nat}{p:Str->Bool}{r:R}(h:kr B r):kr B (r.del p):=⟨b0 R.Jo.1 h.size,b0 R.Jo.2 h.len,R.T8 h.ec⟩
theorem dS.aQ(h:dS B (.aQ r)):kr B r:=by
 exact⟨by exact bF 0x14810148108021 aa (h.size:1+r.size<=B),h.ec.1,h.ec.2⟩
theorem dS.mono(h:dS B t)(au:B<=Hu):dS Hu t:=⟨b0 h.size au,h.ec⟩
structure Grows(G a3:dr):Prop where
 bg:∀{n w b},G n=I (.bg w b)->(∃cT,a3 n=I (.bg w cT))
 tail:∀{n w b},G n=I (.tail w b)->(∃cT,a3 n=I (.tail w cT))
def Agree(aU:Nat->T)(bH:Nat->R)(ρ:Nat->T)(τ:Nat->R)(G:dr):Prop:=(∀n,cq G n->aU n=ρ n)/\∀n,dy G n->bH n=τ n
def d7(B:Nat)(ρ:Nat->T)(τ:Nat->R)(G:dr):Prop:=(∀n,cq G n->dS B (ρ n))/\∀n,dy G n->kr B (τ n)
section
variable {G a3 iE:dr}{ρ aU j2 bK:Nat->T}{τ bH mv bR:Nat->R}
theorem Grows.refl:Grows G G:=⟨λh=>⟨_,h⟩,λh=>⟨_,h⟩⟩
theorem Grows.trans(h:Grows G a3)(h':Grows a3 iE):Grows G iE:=⟨λe=>by obtain⟨_,aG⟩:=h.bg e;exact h'.bg aG,λe=>by obtain⟨_,aG⟩:=h.tail e;exact h'.tail aG⟩
theorem Grows.eE(h:Grows G a3):cq G n->cq a3 n:=λa8=>by obtain⟨_,_,e⟩:=a8;exact by obtain⟨_,aG⟩:=h.bg e;exact⟨_,_,aG⟩
theorem Grows.lI(h:Grows G a3):dy G n->dy a3 n:=λa8=>by obtain⟨_,_,e⟩:=a8;exact by obtain⟨_,aG⟩:=h.tail e;exact⟨_,_,aG⟩
theorem Agree.refl:Agree ρ τ ρ τ G:=⟨λaf aJ=>aa,λaf aJ=>aa⟩
theorem Agree.trans(g:Grows G a3)(h:Agree aU bH ρ τ G)(h':Agree j2 mv aU bH a3):Agree j2 mv ρ τ G:=
 ⟨λn ao=>(h'.1 n (g.eE ao)).trans (h.1 n ao),λn ao=>(h'.2 n (g.lI ao)).trans (h.2 n ao)⟩
theorem bb.agree(O:bV G)(S:bb ρ τ G)(A:Agree aU bH ρ τ G):bb aU bH G where
 bg:=λ{n w b} e=>by
  refine⟨?_,λm hm=>?_⟩
  ·have h:=(S.bg e).1
   induction w with
   |bo=>trivial
   |num=>refine(?_:aU n=.num);rw[A.1 n ⟨_,_,e⟩];exact h
   |aQ r=>refine(?_:aU n=.aQ (bH r));rw[A.1 n ⟨_,_,e⟩,A.2 r (O.aQ e)];exact h
  ·subst hm;rw[A.1 n ⟨_,_,e⟩,A.1 m (O.sb e)];exact(S.bg e).2 m aa
 tail:=λ{n w b} e=>by
  refine⟨by rw[A.2 n ⟨_,_,e⟩];exact(S.tail e).1,?_,λm hm=>?_⟩
  ·have h:=(S.tail e).2.1
   induction w with
   |bo=>trivial
   |fin=>refine(?_:bH n=.nil);rw[A.2 n ⟨_,_,e⟩];exact h
   |cF l k r=>
    obtain⟨ar,aX,_⟩:=O.cF e;refine(?_:(bH r).look l=U/\bH n=(bH r).ins l (aU k));rw[A.2 n ⟨_,_,e⟩,A.2 r aX,A.1 k ar];exact h
  ·subst hm;rw[A.2 n ⟨_,_,e⟩,A.2 m (O.dj e)];exact(S.tail e).2.2 m aa
structure Step(G a3:dr)(P:(Nat->T)->(Nat->R)->Prop):Prop where
 grow:Grows G a3
 ok:bV a3
 gen:c6 a3
 sol:∀{ρ τ},bb ρ τ a3->bb ρ τ G
 back:∀{ρ τ},bb ρ τ a3->P ρ τ
 ext:∀{ρ τ},bb ρ τ G->P ρ τ->(c8 λaU bH=>eH (bb aU bH a3) (Agree aU bH ρ τ G) (∀B,d7 B ρ τ G->d7 B aU bH a3))
variable {P kq Q:(Nat->T)->(Nat->R)->Prop}
theorem Step.same(O:bV G)(H:c6 G)(h:∀{ρ τ},bb ρ τ G->P ρ τ):Step G G P:=⟨.refl,O,H,id,h,λS af=>⟨_,_,S,.refl,λaf h=>h⟩⟩
theorem Step.trans(s:Step G a3 P)(s':Step a3 iE kq)(h:∀{ρ τ aU bH},bb ρ τ G->Agree aU bH ρ τ G->Q ρ τ->P ρ τ/\(bb aU bH a3->kq aU bH))(au:∀{ρ τ},bb ρ τ iE->Q ρ τ):Step G iE Q where
 grow:=s.grow.trans s'.grow
 ok:=s'.ok
 gen:=s'.gen
 sol:=λS=>s.sol (s'.sol S)
 back:=au
 ext:=λ{ρ τ} S q=>by
  refine aB λae=>?_;obtain⟨a7,eA,e3,gk,iA⟩:=s.ext S (h S .refl q).1;obtain⟨eI,mu,gN,hy,lU⟩:=s'.ext e3 ((h S gk q).2 e3);exact ae ⟨eI,mu,gN,gk.trans s.grow hy,λB hB=>lU B (iA B hB)⟩
theorem MD(e:G x=I (.bg w b)):Grows G (put G x (.bg w cT)):=
 ⟨λ{n w' c} h=>by
  by_cases ao:n=x
  ·subst ao;replace h:=e ▸ h;cases h;exact⟨_,dK⟩
  ·exact⟨_,by rw[d6 ao];exact h⟩,λ{n w' c} h=>by
  by_cases ao:n=x
  ·subst ao;replace h:=e ▸ h;cases h
  ·exact⟨_,by rw[d6 ao];exact h⟩⟩
theorem MC(e:G x=I (.tail w b)):Grows G (put G x (.tail w cT)):=
 ⟨λ{n w' c} h=>by
  by_cases ao:n=x
  ·subst ao;replace h:=e ▸ h;cases h
  ·exact⟨_,by rw[d6 ao];exact h⟩,λ{n w' c} h=>by
  by_cases ao:n=x
  ·subst ao;replace h:=e ▸ h;cases h;exact⟨_,dK⟩
  ·exact⟨_,by rw[d6 ao];exact h⟩⟩
theorem N1(e:G x=I (.bg w b))(h:d7 B ρ τ G):d7 B ρ τ (put G x (.bg w cT)):=⟨λn ao=>h.1 n ((Es e).mp ao),λn ao=>h.2 n ((z7 e).mp ao)⟩
theorem N0(e:G x=I (.tail w b))(h:d7 B ρ τ G):d7 B ρ τ (put G x (.tail w cT)):=⟨λn ao=>h.1 n ((Er e).mp ao),λn ao=>h.2 n ((z8 e).mp ao)⟩
theorem Step.kl(O:bV G)(H:c6 G)(S:bb bK bR G)(B:Bind G x y (.bg .bo U) (.bg .bo (I y)))(a9:cq G y)(fM:bK x=bK y):Step G (put G x (.bg .bo (I y))) λρ τ=>ρ x=ρ y where
 grow:=MD B.at_
 ok:=O.kl B a9 nofun
 gen:=H.kl O S B a9 fM
 sol:=λS=>((bb.kl B.at_).mp S).1
 back:=λS=>((bb.kl B.at_).mp S).2
 ext:=λS p=>⟨_,_,(bb.kl B.at_).mpr ⟨S,p⟩,.refl,λaf h=>N1 B.at_ h⟩
theorem Step.hO(O:bV G)(H:c6 G)(S:bb bK bR G)(B:Bind G x y (.tail .bo U) (.tail .bo (I y)))(a9:dy G y)(fM:bR x=bR y):Step G (put G x (.tail .bo (I y))) λρ τ=>τ x=τ y where
 grow:=MC B.at_
 ok:=O.hO B a9 nofun
 gen:=H.hO O S B a9 fM
 sol:=λS=>((bb.hO B.at_).mp S).1
 back:=λS=>((bb.hO B.at_).mp S).2
 ext:=λS p=>⟨_,_,(bb.hO B.at_).mpr ⟨S,p⟩,.refl,λaf h=>N0 B.at_ h⟩
theorem Step.Xd(O:bV G)(H:c6 G)(B:Bind G x y (.bg w U) (.bg w (I y)))(a9:cq G y)(hw:∀r,w=.aQ r->(c8 λbI cT=>G y=I (.bg (.aQ bI) cT)))(h:∀{ρ τ},bb ρ τ G->ρ x=ρ y):Step G (put G x (.bg w (I y))) λaf aJ=>True where
 grow:=MD B.at_
 ok:=O.kl B a9 hw
 gen:=by
  obtain⟨ρ,τ,E⟩:=H;refine⟨ρ,τ,(bb.kl B.at_).mpr ⟨E.sol,h E.sol⟩,λ{n} e=>?_,λ{n} e=>?_⟩
  ·rcases dO e with ⟨_,q⟩|⟨ao,q⟩
   ·cases q
   ·exact E.vs q
  ·rcases dO e with ⟨_,q⟩|⟨ao,q⟩
   ·cases q
   ·exact E.hX q
 sol:=λS=>((bb.kl B.at_).mp S).1
 back:=λaf=>aL
 ext:=λS af=>⟨_,_,(bb.kl B.at_).mpr ⟨S,h S⟩,.refl,λaf h=>N1 B.at_ h⟩
theorem Step.Xc(O:bV G)(H:c6 G)(B:Bind G x y (.tail w U) (.tail w (I y)))(a9:dy G y)(hw:∀l k r,w≠.cF l k r)(h:∀{ρ τ},bb ρ τ G->τ x=τ y):Step G (put G x (.tail w (I y))) λaf aJ=>True where
 grow:=MC B.at_
 ok:=O.hO B a9 hw
 gen:=by
  obtain⟨ρ,τ,E⟩:=H;refine⟨ρ,τ,(bb.hO B.at_).mpr ⟨E.sol,h E.sol⟩,λ{n} e=>?_,λ{n} e=>?_⟩
  ·rcases dO e with ⟨_,q⟩|⟨ao,q⟩
   ·cases q
   ·exact E.vs q
  ·rcases dO e with ⟨_,q⟩|⟨ao,q⟩
   ·cases q
   ·exact E.hX q
 sol:=λS=>((bb.hO B.at_).mp S).1
 back:=λaf=>aL
 ext:=λS af=>⟨_,_,(bb.hO B.at_).mpr ⟨S,h S⟩,.refl,λaf h=>N0 B.at_ h⟩
end
section
variable {G a3 iE:dr}{ρ aU j2 bK:Nat->T}{τ bH mv bR:Nat->R}
noncomputable def upd{α:Type}(f:Nat->α)(n:Nat)(a:α):Nat->α:=λm=>if m=n then a else f m
theorem fy{α:Type}{f:Nat->α}{n:Nat}{a:α}:upd f n a n=a:=aK aa
theorem lg{α:Type}{f:Nat->α}{n m:Nat}{a:α}(h:m≠n):upd f n a m=f m:=aR h
def ac0(G:dr):gP->Prop
 |.bg (.aQ r) _=>dy G r
 |.tail (.cF _ k r) _=>cq G k/\dy G r
 |_=>True
theorem g7(ao:G n=U):Grows G (put G n aF):=
 ⟨λ{m w b} h=>⟨b,by rw[d6 (λe=>by rw[e,ao]at h;exact a5 h)];exact h⟩,λ{m w b} h=>⟨b,by rw[d6 (λe=>by rw[e,ao]at h;exact a5 h)];exact h⟩⟩
theorem CF(ao:G n=U)(h:Top G m t):Top (put G n aF) m t:=by
 induction h with
 |here e b=>exact .here (by rw[d6 (λq=>by rw[q,ao]at e;exact a5 e)];exact e) b
 |there e b _ aj=>exact .there (by rw[d6 (λq=>by rw[q,ao]at e;exact a5 e)];exact e) b aj
theorem bV.new(O:bV G)(ao:G n=U)(au:aF.s8=U)(hw:ac0 G aF):bV (put G n aF) where
 cO:=λ{m r j} h=>by
  rcases dO h with ⟨rfl,e⟩|⟨_,e⟩
  ·subst e;exact fU au
  ·obtain⟨bI,cT,e⟩:=O.cO e;exact⟨bI,cT,by rw[d6 (λq=>by rw[q,ao]at e;exact a5 e)];exact e⟩
 aQ:=λ{m r b} h=>(g7 ao).lI (by
  rcases dO h with ⟨rfl,e⟩|⟨_,e⟩
  ·subst e;exact hw
  ·exact O.aQ e)
 cF:=λ{m l k r b} h=>by
  rcases dO h with ⟨_,e⟩|⟨_,e⟩
  ·subst e;exact⟨(g7 ao).eE hw.1,(g7 ao).lI hw.2,au⟩
  ·obtain⟨h1,h2,h3⟩:=O.cF e;exact⟨(g7 ao).eE h1,(g7 ao).lI h2,h3⟩
 sb:=λ{m w' j} h=>(g7 ao).eE (by
  rcases dO h with ⟨rfl,e⟩|⟨_,e⟩
  ·subst e;exact fU au
  ·exact O.sb e)
 dj:=λ{m w' j} h=>(g7 ao).lI (by
  rcases dO h with ⟨_,e⟩|⟨_,e⟩
  ·subst e;exact fU au
  ·exact O.dj e)
 top:=λ{m fB} h=>by
  rcases dO h with ⟨rfl,e⟩|⟨_,e⟩
  ·subst e;exact⟨_,.here dK au⟩
  ·obtain⟨t,aP⟩:=O.top e;exact⟨t,CF ao aP⟩
theorem mU{n:Nat}{t:T}(ao:G n=U):Agree (upd ρ n t) τ ρ τ G:=⟨λm a8=>by obtain⟨_,_,e⟩:=a8;exact lg λq=>(by rw[q,ao]at e;exact a5 e),λaf aJ=>aa⟩
theorem lW{n:Nat}{r:R}(ao:G n=U):Agree ρ (upd τ n r) ρ τ G:=⟨λaf aJ=>aa,λm a8=>by obtain⟨_,_,e⟩:=a8;exact lg λq=>by rw[q,ao]at e;exact a5 e⟩
theorem bb.gq{n:Nat}{w:lX}(ao:G n=U):bb ρ τ (put G n (.bg w U))↔bb ρ τ G/\GY ρ τ n w:=by
 refine⟨λS=>⟨⟨λ{m w' b} h=>?_,λ{m w' b} h=>?_⟩,(S.bg dK).1⟩,λ⟨S,h1⟩=>⟨λ{m w' b} h=>?_,λ{m w' b} h=>?_⟩⟩
 ·exact S.bg (by rw[d6 (λq=>by rw[q,ao]at h;exact a5 h)];exact h)
 ·exact S.tail (by rw[d6 (λq=>by rw[q,ao]at h;exact a5 h)];exact h)
 ·rcases dO h with ⟨rfl,q⟩|⟨_,q⟩
  ·cases q;exact⟨h1,nofun⟩
  ·exact S.bg q
 ·rcases dO h with ⟨rfl,q⟩|⟨_,q⟩
  ·cases q
  ·exact S.tail q
theorem bb.iO{n:Nat}{w:TW}(ao:G n=U):bb ρ τ (put G n (.tail w U))↔bb ρ τ G/\(τ n).up/\yi ρ τ n w:=by
 refine⟨λS=>⟨⟨λ{m w' b} h=>?_,λ{m w' b} h=>?_⟩,(S.tail dK).1,(S.tail dK).2.1⟩,λ⟨S,h1,h2⟩=>⟨λ{m w' b} h=>?_,λ{m w' b} h=>?_⟩⟩
 ·exact S.bg (by rw[d6 (λq=>by rw[q,ao]at h;exact a5 h)];exact h)
 ·exact S.tail (by rw[d6 (λq=>by rw[q,ao]at h;exact a5 h)];exact h)
 ·rcases dO h with ⟨rfl,q⟩|⟨_,q⟩
  ·cases q
  ·exact S.bg q
 ·rcases dO h with ⟨rfl,q⟩|⟨_,q⟩
  ·cases q;exact⟨h1,h2,nofun⟩
  ·exact S.tail q
theorem bb.qa(O:bV G)(S:bb ρ τ G){n:Nat}{w:lX}{t:T}(ao:G n=U)(h:GY (upd ρ n t) τ n w):bb (upd ρ n t) τ (put G n (.bg w U)):=(bb.gq ao).mpr ⟨S.agree O (mU ao),h⟩
theorem bb.n5(O:bV G)(S:bb ρ τ G){n:Nat}{w:TW}{r:R}(ao:G n=U)(aY:r.up)(h:yi ρ (upd τ n r) n w):bb ρ (upd τ n r) (put G n (.tail w U)):=(bb.iO ao).mpr ⟨S.agree O (lW ao),by rw[fy];exact aY,h⟩
theorem rp{n B:Nat}{w:lX}{t:T}(ao:G n=U)(h:d7 B ρ τ G)(aP:dS B t):d7 B (upd ρ n t) τ (put G n (.bg w U)):=by
 refine⟨λm a8=>?_,λm ⟨_,_,e⟩=>?_⟩
 ·obtain⟨_,_,e⟩:=a8;rcases dO e with ⟨rfl,_⟩|⟨hm,q⟩
  ·rw[fy];exact aP
  ·rw[lg hm];exact h.1 m ⟨_,_,q⟩
 ·rcases dO e with ⟨rfl,q⟩|⟨hm,q⟩
  ·cases q
  ·exact h.2 m ⟨_,_,q⟩
theorem p9{n B:Nat}{w:TW}{r:R}(ao:G n=U)(h:d7 B ρ τ G)(aP:kr B r):d7 B ρ (upd τ n r) (put G n (.tail w U)):=by
 refine⟨λm a8=>?_,λm ⟨_,_,e⟩=>?_⟩
 ·obtain⟨_,_,e⟩:=a8;rcases dO e with ⟨rfl,q⟩|⟨hm,q⟩
  ·cases q
  ·exact h.1 m ⟨_,_,q⟩
 ·rcases dO e with ⟨rfl,_⟩|⟨hm,q⟩
  ·rw[fy];exact aP
  ·rw[lg hm];exact h.2 m ⟨_,_,q⟩
theorem Gen.gq(O:bV G)(E:Gen G ρ τ){n:Nat}{w:lX}(ao:G n=U){t:T}(aP:t=match w with|.bo=>.var n|.num=>.num|.aQ r=>.aQ (τ r)):Gen (put G n (.bg w U)) (upd ρ n t) τ where
 sol:=E.sol.qa O ao (by cases w <;> first|trivial|(show upd ρ n t n=_;rw[fy];exact aP))
 vs:=λ{m} e=>by
  rcases dO e with ⟨rfl,q⟩|⟨hm,q⟩
  ·cases q;rw[fy];exact aP
  ·rw[lg hm];exact E.vs q
 hX:=λ{m} e=>by
  rcases dO e with ⟨rfl,q⟩|⟨hm,q⟩
  ·cases q
  ·exact E.hX q
theorem c6.gq(O:bV G)(H:c6 G){n:Nat}{w:lX}(ao:G n=U):c6 (put G n (.bg w U)):=by
 obtain⟨ρ,τ,E⟩:=H;exact⟨_,_,E.gq O ao aa⟩
theorem c6.DS(O:bV G)(H:c6 G){n:Nat}(ao:G n=U):c6 (put G n (.tail .bo U)):=by
 obtain⟨ρ,τ,E⟩:=H;refine⟨ρ,upd τ n (.b5 n),E.sol.n5 O ao aL aL,λ{m} e=>?_,λ{m} e=>?_⟩
 ·rcases dO e with ⟨rfl,q⟩|⟨hm,q⟩
  ·cases q
  ·exact E.vs q
 ·rcases dO e with ⟨rfl,q⟩|⟨hm,q⟩
  ·rw[fy]
  ·rw[lg hm];exact E.hX q
theorem Gen.iO(O:bV G)(E:Gen G ρ τ){n:Nat}{w:TW}(hw:w≠.bo)(ao:G n=U){r:R}(aY:r.up)(h:yi ρ (upd τ n r) n w):Gen (put G n (.tail w U)) ρ (upd τ n r) where
 sol:=E.sol.n5 O ao aY h
 vs:=λ{m} e=>by
  rcases dO e with ⟨rfl,q⟩|⟨hm,q⟩
  ·cases q
  ·exact E.vs q
 hX:=λ{m} e=>by
  rcases dO e with ⟨rfl,q⟩|⟨hm,q⟩
  ·cases q;exact absurd aa hw
  ·rw[lg hm];exact E.hX q
theorem c6.KC(O:bV G)(H:c6 G){n:Nat}(ao:G n=U):c6 (put G n (.tail .fin U)):=by
 obtain⟨ρ,τ,E⟩:=H;exact⟨_,_,E.iO (w:=.fin) O nofun ao (r:=.nil) trivial fy⟩
theorem wm{n k r:Nat}{l:Str}(ao:G n=U)(aX:dy G r)(h:(τ r).look l=U):yi ρ (upd τ n ((τ r).ins l (ρ k))) n (.cF l k r):=by
 have:r≠n:=λq=>by obtain⟨_,_,e⟩:=aX;rw[q,ao]at e;exact a5 e
 exact⟨by rw[lg this];exact h,by rw[fy,lg this]⟩
theorem c6.DT(O:bV G)(H:c6 G){n k r:Nat}{l:Str}(ao:G n=U)(aX:dy G r)(h:∀{ρ τ},Gen G ρ τ->(τ r).look l=U):c6 (put G n (.tail (.cF l k r) U)):=by
 obtain⟨ρ,τ,E⟩:=H;obtain⟨w,b,e⟩:=id aX;exact⟨_,_,E.iO (w:=.cF l k r) O nofun ao (R.lh (E.sol.tail e).1 (h E)) (wm ao aX (h E))⟩
inductive Chain(G:dr)(y:Nat):List (Str×Nat)->Nat->dr->Prop
 |nil:Chain G y [] y G
 |cons{ls:List (Str×Nat)}{h n k:Nat}{l:Str}{a3:dr}:Chain G y ls h a3->a3 n=none->Chain G y ((l,k)::ls) n (put a3 n (.tail (.cF l k h) none))
noncomputable def vals(ρ:Nat->T)(ls:List (Str×Nat)):List (Str×T):=ls.map λp=>(p.1,ρ p.2)
theorem lb:(vals ρ ls).map (·.1)=ls.map (·.1):=by unfold vals;rw[gw];rfl
theorem Cv(A:Agree aU bH ρ τ G)(h:∀p∈ls,cq G p.2):vals aU ls=vals ρ ls:=vS λp hp=>by rw[A.1 _ (h p hp)]
theorem Chain.grow(c:Chain G y ls h a3):Grows G a3:=by
 induction c with
 |nil=>exact .refl
 |cons _ ao aj=>exact aj.trans (g7 ao)
theorem Chain.same(c:Chain G y ls h a3)(e:G m=I aF):a3 m=I aF:=by
 induction c with
 |nil=>exact e
 |cons _ ao aj=>rw[d6 (λq=>by rw[q,ao]at aj;exact a5 aj)];exact aj
theorem Chain.head(c:Chain G y ls h a3)(a9:G y=I (.tail w U)):(∃w',a3 h=I (.tail w' U)):=by
 induction c with
 |nil=>exact⟨_,a9⟩
 |cons _ _=>exact⟨_,dK⟩
theorem Chain.ne(c:Chain G y ls h a3)(e:G x=I aF)(fM:x≠y):x≠h:=by
 induction c with
 |nil=>exact fM
 |cons c ao=>intro q;have:=c.same e;replace this:=ao ▸ q ▸ this;exact a5 this
theorem Chain.ok(c:Chain G y ls h a3)(O:bV G)(a9:dy G y)(ar:∀p∈ls,cq G p.2):bV a3/\dy a3 h:=by
 induction c with
 |nil=>exact⟨O,a9⟩
 |cons c ao aj=>
  obtain⟨et,a8⟩:=aj λp hp=>ar p (dz _ hp);exact⟨et.new ao aa ⟨c.grow.eE (ar _ b9),a8⟩,⟨_,_,dK⟩⟩
theorem Chain.sol{y h:Nat}{ls:List (Str×Nat)}(c:Chain G y ls h a3)(S:bb ρ τ a3):bb ρ τ G/\τ h=de (vals ρ ls) (τ y)/\((ls.map (·.1)).Nodup->Off (ls.map (·.1)) (τ y)):=by
 induction c with
 |nil=>exact⟨S,aa,λaf aJ h=>nomatch h⟩
 |@cons ls h n k l a3 c ao aj=>
  refine aB λae=>?_;obtain⟨bG,aY,hl,he⟩:=(bb.iO ao).mp S;obtain⟨kp,e,ho⟩:=aj bG;refine ae ?_;refine⟨kp,by rw[he,e];rfl,λaF m hm=>?_⟩;have fB:=zI aF;rcases List.mem_cons.mp hm with q|hm
  ·subst q;rw[e,w1 (by rw[lb];exact fB) (by rw[lb];exact ho fB)]at hl;exact(aeX.mp hl).2
  ·exact ho fB m hm
theorem Chain.ext(c:Chain G y ls h a3)(O:bV G)(a9:dy G y)(ar:∀p∈ls,cq G p.2)(aF:(ls.map (·.1)).Nodup)(S:bb ρ τ G)(ho:Off (ls.map (·.1)) (τ y)) :
  (∃bH,mn (bb ρ bH a3) (Agree ρ bH ρ τ G) ((∀{n},a3 n=I (.tail .bo U)->G n=I (.tail .bo U))) ((∀{n},a3 n=I (.bg .bo U)->G n=I (.bg .bo U))) (∀B,d7 B ρ τ G->kr B (de (vals ρ ls) (τ y))->d7 B ρ bH a3)):=by
 induction c with
 |nil=>exact⟨τ,S,.refl,id,id,λaf h aJ=>h⟩
 |@cons ls h n k l a3 c ao aj=>
  have nR:=λp hp=>ar p (dz (l,k) hp);refine aB λae=>?_;obtain⟨bH,bG,A,ut,us,b⟩:=aj nR (zI aF) (λm hm=>ho m (dz _ hm):Off (ls.map (·.1)) (τ y));obtain⟨_,e,_⟩:=c.sol bG;obtain⟨et,a8⟩:=c.ok O a9 nR;have e:bH h=de (vals ρ ls) (τ y):=by rw[e,A.2 y a9]
  have hl:(bH h).look l=U:=by
   rw[e];exact D1 (p:=(l,ρ k)) (by rw[ea,lb];exact aF) (by rw[ea,lb];exact ho)
  obtain⟨_,_,xZ⟩:=id a8;refine ae ⟨upd bH n ((bH h).ins l (ρ k)),bG.n5 et ao (R.lh (bG.tail xZ).1 hl) (wm ao a8 hl),A.trans c.grow (lW ao),λ{m} q=>?_,λ{m} q=>?_,λB hB h1=>?_⟩
  ·rcases dO q with ⟨_,q⟩|⟨_,q⟩
   ·cases q
   ·exact ut q
  ·rcases dO q with ⟨_,q⟩|⟨_,q⟩
   ·cases q
   ·exact us q
  ·exact p9 ao (b B hB (kr.ins (l:=l) (t:=ρ k) h1).2) (by rw[e];exact h1)
theorem Chain.bind(c:Chain G y ls h a3)(O:bV G)(H:c6 G)(ak:G x=I (.tail .bo U))(a9:G y=I (.tail w U))(hw:∀l k r,w≠.cF l k r)(fM:x≠y)(ar:∀p∈ls,cq G p.2)(aF:(ls.map (·.1)).Nodup)
  (k3:bb bK bR G) (ab:bR x=de (vals bK ls) (bR y)/\Off (ls.map (·.1)) (bR y)):Step G (put a3 x (.tail .bo (I h))) λρ τ=>τ x=de (vals ρ ls) (τ y)/\Off (ls.map (·.1)) (τ y):=by
 have uJ:dy G y:=⟨_,_,a9⟩;refine aB λae=>?_;obtain⟨et,a8⟩:=c.ok O uJ ar;have hT:c6 a3:=by
  obtain⟨ρ,τ,E⟩:=H;obtain⟨bH,bG,A,ut,us,_⟩:=c.ext O uJ ar aF E.sol λl af=>by
   induction w with
   |bo=>rw[E.hX a9];rfl
   |fin=>rw[show τ y=.nil from(E.sol.tail a9).2.1];rfl
   |cF l k r=>exact absurd aa (hw l k r)
  exact⟨ρ,bH,bG,λq=>E.vs (us q),λq=>by rw[A.2 _ ⟨_,_,ut q⟩];exact E.hX (ut q)⟩
 obtain⟨w',xZ⟩:=c.head a9;have B:Bind a3 x h (.tail .bo U) (.tail .bo (I h)):=⟨c.same ak,aa,aa,h,.here xZ aa,(c.ne ak fM).symm⟩;obtain⟨eA,e3,gk,_,_,_⟩:=c.ext O uJ ar aF k3 ab.2;have s:=Step.hO et hT e3 B a8 (by rw[(c.sol e3).2.1,gk.2 x ⟨_,_,ak⟩,gk.2 y uJ];exact ab.1);refine ae ⟨c.grow.trans s.grow,s.ok,s.gen,λS=>(c.sol (s.sol S)).1,λS=>?_,λ{ρ τ} S p=>?_⟩
 ·refine aB λae=>?_;obtain⟨_,e,ho⟩:=c.sol (s.sol S);exact ae ⟨by rw[s.back S,e],ho aF⟩
 ·refine aB λae=>?_;obtain⟨bH,bG,A,_,_,b⟩:=c.ext O uJ ar aF S p.2;obtain⟨j2,mv,kp,hC,cT⟩:=s.ext bG (by rw[(c.sol bG).2.1,A.2 x ⟨_,_,ak⟩,A.2 y uJ];exact p.1);refine ae ⟨j2,mv,kp,A.trans c.grow hC,λB hB=>cT B (b B hB ?_)⟩;rw[<-p.1];exact hB.2 x ⟨_,_,ak⟩
end
section
variable {G a3 iE:dr}{ρ aU j2 bK:Nat->T}{τ bH mv bR:Nat->R}
noncomputable abbrev jF:=List (Str×Nat×Nat)
inductive Row(G:dr):Nat->jF->Nat->TW->Prop
 |stop{r t:Nat}{w:TW}:Top G r t->G t=some (.tail w none)->(∀l k bI,w≠.cF l k bI)->Row G r [] t w
 |more{r t k bI last:Nat}{l:Str}{aD:jF}{w:TW}:Top G r t->G t=some (.tail (.cF l k bI) none)->Row G bI aD last w->Row G r ((l,t,k)::aD) last w
noncomputable def kinds(aD:jF):List (Str×Nat):=aD.map λp=>(p.1,p.2.2)
theorem so:(kinds aD).map (·.1)=aD.map (·.1):=by unfold kinds;rw[gw];rfl
theorem Row.at(h:Row G r aD last w):G last=I (.tail w U)/\∀l k bI,w≠.cF l k bI:=by
 induction h with
 |stop _ e n=>exact⟨e,n⟩
 |more _ _ _ aj=>exact aj
theorem Row.ent(h:Row G r aD last w):∀p∈aD,(∃bI,G p.2.1=I (.tail (.cF p.1 p.2.2 bI) U)):=by
 induction h with
 |stop _ _ _=>exact nofun
 |more _ e _ aj=>
  intro p hp;rcases List.mem_cons.mp hp with q|hp
  ·subst q;exact⟨_,e⟩
  ·exact aj p hp
theorem Row.rU(h:Row G r aD last w)(O:bV G):∀p∈kinds aD,cq G p.2:=λp hp=>by
 obtain⟨q,aH,rfl⟩:=ez.mp hp;obtain⟨_,e⟩:=h.ent q aH;exact(O.cF e).1
theorem Row.ex(O:bV G)(S:bb ρ τ G)(h:dy G r):(jE λaD last w=>Row G r aD last w):=
 (S.ind O (P:=λaf=>True) (Q:=λn=>jE λaD last w=>Row G n aD last w) (λaf aJ b3 eW nd=>aL) (λn t az bw a8=>by
  obtain⟨aD,last,w,h⟩:=a8;obtain⟨w',e⟩:=bw.tail O az
  induction h with
  |stop h' aG nl=>exact⟨_,_,_,.stop (by have:=(Top.here e aa).uniq h';subst this;exact bw) aG nl⟩
  |more h' aG gi=>exact⟨_,_,_,.more (by have:=(Top.here e aa).uniq h';subst this;exact bw) aG gi⟩)
  (λaf aJ=>aL) (λaf aJ=>aL) (λaf aJ b3 eW=>aL) (λn e=>⟨_,_,_,.stop (.here e aa) e nofun⟩) (λn e=>⟨_,_,_,.stop (.here e aa) e nofun⟩)
  λn l k r e af a8=>by obtain⟨aD,last,w,h⟩:=a8;exact⟨_,_,_,.more (.here e aa) e h⟩).2 r h
theorem Row.lI(h:Row G r aD last w)(O:bV G):dy G r:=by
 have:∀{r t:Nat}{w:TW},Top G r t->G t=I (.tail w U)->dy G r:=λ{r t w} h e=>by
  induction h with
  |here _ _=>exact⟨_,_,e⟩
  |@there _ m _ aF aG b h=>
   induction aF with
   |tail w b=>exact⟨_,_,aG⟩
   |bg w' c=>
    have b:c=I m:=b;subst b;obtain⟨_,ay⟩:=h.bg O (O.sb aG);replace ay:=e ▸ ay;cases ay
 induction h with
 |stop h e _=>exact this h e
 |more h e _=>exact this h e
theorem Row.sol(h:Row G r aD last w)(O:bV G)(S:bb ρ τ G):τ r=de (vals ρ (kinds aD)) (τ last)/\(aD.map (·.1)).Nodup/\Off (aD.map (·.1)) (τ last):=by
 induction h with
 |@stop r t w h e _=>exact⟨S.lj O h ((Row.stop h e ‹_›).lI O),mr,λaf h=>nomatch h⟩
 |@more r t k bI last l aD w h e h' aj=>
  refine aB λae=>?_;obtain⟨av,aF,ho⟩:=aj;obtain⟨h1,h2⟩:=(S.tail e).2.1;rw[av,w1 (by rw[lb,so];exact aF) (by rw[lb,so];exact ho),aeX,nB,lb,so]at h1;refine ae ⟨?_,hV.mpr ⟨h1.1,aF⟩,λm hm=>?_⟩
  ·rw[S.lj O h ((Row.more h e h').lI O),h2,av];rfl
  ·rcases List.mem_cons.mp hm with q|hm
   ·rw[q];exact h1.2
   ·exact ho m hm
theorem Row.look(h:Row G r aD last w)(O:bV G)(S:bb ρ τ G)(m:Str):(τ r).look m=((lk (kinds aD) m).map ρ).or ((τ last).look m):=by
 refine aB λae=>?_;obtain⟨e,aF,ho⟩:=h.sol O S;refine ae ?_;rw[e,w1 (by rw[lb,so];exact aF) (by rw[lb,so];exact ho),show lk (vals ρ (kinds aD)) m=_ from D6]
theorem Row.off(h:Row G r aD last w)(O:bV G)(S:bb ρ τ G)(hm:lk (kinds aD) m≠U):(τ last).look m=U:=by
 refine(h.sol O S).2.2 m ?_;rw[<-so];exact aB λao=>hm (nB.mpr ao)
theorem Row.up(h:Row G r aD last w)(S:bb ρ τ G):(τ last).up:=(S.tail h.at.1).1
theorem Row.fin(h:Row G r aD last w)(O:bV G)(S:bb ρ τ G):(τ r).fin=(τ last).fin:=by rw[(h.sol O S).1];exact xR
theorem Row.Cy(h:Row G r aD last w)(O:bV G)(S:bb ρ τ G):(τ r).up:=by
 obtain⟨_,_,e⟩:=h.lI O;exact(S.tail e).1
structure hQ(G:dr)(bf bO:Nat)(aD gs:jF)(la c2:Nat)(w w':TW):Prop where
 a:Row G bf aD la w
 b:Row G bO gs c2 w'
 o:bV G
 shared:∀{ρ τ},bb ρ τ G->∀m i j,lk (kinds aD) m=I i->lk (kinds gs) m=I j->ρ i=ρ j
def jB(aD gs:jF)(ls:List (Str×Nat)):Prop:=(ls.map (·.1)).Nodup/\∀m,lk ls m=if (lk (kinds gs) m).isSome=aw then U else lk (kinds aD) m
variable {bf bO la c2:Nat}{aD gs:jF}{w w':TW}
theorem hQ.symm(t:hQ G bf bO aD gs la c2 w w'):hQ G bO bf gs aD c2 la w' w:=⟨t.b,t.a,t.o,λS m i j h1 h2=>(t.shared S m j i h2 h1).symm⟩
theorem hQ.eq(t:hQ G bf bO aD gs la c2 w w')(S:bb ρ τ G)(h1:∀m,lk (kinds aD) m=U->(τ la).look m=(τ bO).look m)(h2:∀m,lk (kinds gs) m=U->(τ c2).look m=(τ bf).look m)(aZ:(τ la).fin=(τ c2).fin):τ bf=τ bO:=by
 refine R.ext (t.a.Cy t.o S) (t.b.Cy t.o S) (λm=>?_) (by rw[t.a.fin t.o S,t.b.fin t.o S,aZ])
 induction av:lk (kinds aD) m with
 |none=>rw[t.a.look t.o S,av];exact h1 m av
 |some i=>
  induction ay:lk (kinds gs) m with
  |none=>rw[t.b.look t.o S,ay];exact(h2 m ay).symm
  |some j=>rw[t.a.look t.o S,t.b.look t.o S,av,ay];exact ff I (t.shared S m i j av ay)
theorem hQ.Eg(t:hQ G bf bO aD gs la c2 w w')(S:bb ρ τ G)(e:lk (kinds aD) m=U):(τ la).look m=(τ bf).look m:=by rw[t.a.look t.o S,e];rfl
theorem hQ.w6(t:hQ G bf bO aD gs la c2 w w')(S:bb ρ τ G)(e:lk (kinds gs) m=U):(τ c2).look m=(τ bO).look m:=by rw[t.b.look t.o S,e];rfl
theorem hQ.uo(t:hQ G bf bO aD gs la c2 w w')(S:bb ρ τ G)(h:τ bf=τ bO)(av:lk (kinds aD) m=I i)(ay:lk (kinds gs) m=U):(τ c2).look m=I (ρ i):=by
 rw[t.w6 S ay,<-h,t.a.look t.o S,av];rfl
theorem hQ.NO(t:hQ G bf bO aD gs la c2 w w')(k3:bb bK bR G)(ab:bR bf=bR bO)(hl:bR la=bR c2)(az:∀{ρ τ},bb ρ τ G->τ la=τ c2)(S:bb ρ τ G):τ bf=τ bO:=by
 have iQ:∀m,lk (kinds aD) m=U->lk (kinds gs) m=U:=λm e=>by
  induction ay:lk (kinds gs) m with
  |none=>rfl
  |some j=>
   have h1:=t.symm.uo k3 ab.symm ay e;rw[hl,t.b.off t.o k3 (by rw[ay];exact nofun)]at h1;exact a5 h1
 have kd:∀m,lk (kinds gs) m=U->lk (kinds aD) m=U:=λm e=>by
  induction ay:lk (kinds aD) m with
  |none=>rfl
  |some j=>
   have h1:=t.uo k3 ab ay e;rw[<-hl,t.a.off t.o k3 (by rw[ay];exact nofun)]at h1;exact a5 h1
 refine t.eq S (λm e=>?_) (λm e=>?_) (by rw[az S])
 ·rw[az S,t.w6 S (iQ m e)]
 ·rw[<-az S,t.Eg S (kd m e)]
theorem jB.aF(h:jB aD gs ls):((vals ρ ls).map (·.1)).Nodup:=by rw[lb];exact h.1
theorem jB.mem(h:jB aD gs ls)(hl:l∈ls.map (·.1)):(∃i,lk (kinds aD) l=I i/\lk (kinds gs) l=U):=by
 have h1:lk ls l≠U:=λe=>(nB.mp e) hl;rw[h.2 l]at h1
 induction e:lk (kinds gs) l with
 |some j=>rw[e]at h1;exact absurd aa h1
 |none=>
  rw[e]at h1
  induction ay:lk (kinds aD) l with
  |none=>rw[ay]at h1;exact absurd aa h1
  |some i=>exact⟨i,aa,aa⟩
theorem jB.rU(h:jB aD gs ls)(t:hQ G bf bO aD gs la c2 w w'):∀p∈ls,cq G p.2:=λp hp=>by
 have e:=uu h.1 (show(p.1,p.2)∈ls from hp);rw[h.2 p.1]at e;by_cases c:(lk (kinds gs) p.1).isSome=aw
 ·rw[aK c]at e;exact a5 e
 ·rw[aR c]at e;exact t.a.rU t.o _ (kJ e)
theorem jB.UG(h:jB aD gs ls)(e:lk (kinds gs) m=I j):lk ls m=U:=by rw[h.2 m,e];rfl
theorem jB.qY(h:jB aD gs ls)(e:lk (kinds gs) m=U):lk ls m=lk (kinds aD) m:=by rw[h.2 m,e];rfl
theorem wO(e:o=U):(o.map f).or x=x:=by subst e;rfl
theorem Tx(e:o=I i):(o.map f).or x=I (f i):=by subst e;rfl
theorem jB.row(h:jB aD gs ls)(ho:Off (ls.map (·.1)) X)(m:Str):(de (vals ρ ls) X).look m=((lk ls m).map ρ).or (X.look m):=by
 rw[w1 h.aF (by rw[lb];exact ho),show lk (vals ρ ls) m=_ from D6]
theorem hQ.told(t:hQ G bf bO aD gs la c2 w w')(h:jB aD gs ls)(S:bb ρ τ G)(e:τ bf=τ bO)(sS:X.up)(aZ:X.fin=(τ la).fin)(hl:∀m,X.look m=if (lk (kinds gs) m).isSome=aw then U else (τ la).look m):τ c2=de (vals ρ ls) X/\Off (ls.map (·.1)) X:=by
 have ho:Off (ls.map (·.1)) X:=λl fv=>by
  obtain⟨i,av,ay⟩:=h.mem fv;rw[hl,ay];exact t.a.off t.o S (by rw[av];exact nofun)
 refine⟨R.ext (t.b.up S) (Q3 h.aF (by rw[lb];exact ho) sS) (λm=>?_) (by rw[xR,aZ,<-t.a.fin t.o S,e,t.b.fin t.o S]),ho⟩;rw[h.row ho,hl]
 induction ay:lk (kinds gs) m with
 |some j=>rw[wO (h.UG ay),t.b.off t.o S (by rw[ay];exact nofun)];rfl
 |none=>
  induction av:lk (kinds aD) m with
  |some i=>rw[Tx (by rw[h.qY ay];exact av)];exact t.uo S e av ay
  |none=>
   rw[wO (by rw[h.qY ay];exact av),t.w6 S ay,<-e,<-t.Eg S av];rfl
theorem hQ.NN(t:hQ G bf bO aD gs la c2 .fin .bo)(H:c6 G)(k3:bb bK bR G)(ab:bR bf=bR bO)(h:jB aD gs ls) :
  bR c2=de (vals bK ls) (bR la)/\∀{hd:Nat}{a3:dr},Chain G la ls hd a3->Step G (put a3 c2 (.tail .bo (I hd))) λρ τ=>τ bf=τ bO:=by
 have iQ:∀m,lk (kinds aD) m=U->lk (kinds gs) m=U:=λm e=>by
  induction ay:lk (kinds gs) m with
  |none=>rfl
  |some j=>
   have h1:=t.symm.uo k3 ab.symm ay e;rw[show bR la=.nil from(k3.tail t.a.at.1).2.1]at h1;exact a5 h1
 have hp:∀{ρ τ},bb ρ τ G->τ bf=τ bO->τ c2=de (vals ρ ls) (τ la)/\Off (ls.map (·.1)) (τ la):=λ{ρ τ} S e=>by
  have ao:τ la=.nil:=(S.tail t.a.at.1).2.1;refine t.told h S e (t.a.up S) aa λm=>?_;rw[ao];exact(ite_self _).symm
 have cv:c2≠la:=λq=>by have:=t.b.at.1;replace this:=t.a.at.1 ▸ q ▸ this;cases this
 refine⟨(hp k3 ab).1,λ{hd a3} c=>?_⟩;have s:=c.bind t.o H t.b.at.1 t.a.at.1 nofun cv (h.rU t) h.1 k3 (hp k3 ab);refine⟨s.grow,s.ok,s.gen,s.sol,λ{ρ τ} S=>?_,λS p=>s.ext S (hp S p)⟩;obtain⟨e,ho⟩:=s.back S;have S:=s.sol S;have ao:τ la=.nil:=(S.tail t.a.at.1).2.1;refine t.eq S (λm av=>?_) (λm ay=>?_) (by rw[e,xR])
 ·rw[<-t.w6 S (iQ m av),e,h.row ho,wO (by rw[h.qY (iQ m av)];exact av)]
 ·rw[e,h.row ho,h.qY ay,t.a.look t.o S]
theorem hQ.Zn(t:hQ G bf bO aD gs la c2 .bo .bo)(H:c6 G)(k3:bb bK bR G)(ab:bR bf=bR bO)(cv:la≠c2)(hz:G z=U)(h:jB aD gs ls)(h':jB gs aD ms) :
  ((∃eA,vJ (bb bK eA (put G z (.tail .bo U))) (Agree bK eA bK bR G) ((∀B,d7 B bK bR G->d7 B bK eA (put G z (.tail .bo U)))) ((eA c2=de (vals bK ls) (eA z)/\Off (ls.map (·.1)) (eA z))) (eA la=de (vals bK ms) (eA z)) (∀p∈ms,cq (put G z (.tail .bo U)) p.2))) /\
  ∀{hd:Nat}{vD:dr},Chain (put G z (.tail .bo U)) z ls hd vD->Step (put G z (.tail .bo U)) (put vD c2 (.tail .bo (I hd))) (λρ τ=>τ c2=de (vals ρ ls) (τ z)/\Off (ls.map (·.1)) (τ z)) /\
   ∀{jv:Nat}{Hk:dr},Chain (put vD c2 (.tail .bo (I hd))) z ms jv Hk->Step G (put Hk la (.tail .bo (I jv))) λρ τ=>τ bf=τ bO:=by
 have kB:∀{n aF},G n=I aF->n≠z:=λe q=>by rw[q,hz]at e;exact a5 e
 have cG:=t.a.at.1;have dJ:=t.b.at.1;have F9:put G z (.tail .bo U) la=I (.tail .bo U):=by rw[d6 (kB cG)];exact cG
 have YL:put G z (.tail .bo U) c2=I (.tail .bo U):=by rw[d6 (kB dJ)];exact dJ
 have H1:c6 (put G z (.tail .bo U)):=H.DS t.o hz;have ia:=g7 (aF:=.tail .bo U) hz;have hp:∀{ρ τ},bb ρ τ G->τ bf=τ bO->(∃X,hA X.up ((∀B,kr B (τ la)->kr B X)) ((τ c2=de (vals ρ ls) X/\Off (ls.map (·.1)) X)) ((τ la=de (vals ρ ms) X/\Off (ms.map (·.1)) X))):=λ{ρ τ} S e=>by
  have sS:∀m,((τ la).del λm=>(lk (kinds gs) m).isSome).look m=if (lk (kinds gs) m).isSome=aw then U else (τ la).look m:=λm=>R.D2;refine⟨(τ la).del λm=>(lk (kinds gs) m).isSome,R.y0 (t.a.up S),λaf h=>h.del,t.told h S e (R.y0 (t.a.up S)) R.AK sS,t.symm.told h' S e.symm (R.y0 (t.a.up S)) (by rw[R.AK,<-t.a.fin t.o S,e,t.b.fin t.o S]) λm=>?_⟩;rw[sS]
  induction ay:lk (kinds gs) m with
  |some j=>
   rw[t.b.off t.o S (by rw[ay];exact nofun)];exact(ite_self _).symm
  |none=>
   induction av:lk (kinds aD) m with
   |some i=>rw[t.a.off t.o S (by rw[av];exact nofun)];rfl
   |none=>
    show(τ la).look m=(τ c2).look m;rw[t.Eg S av,e,t.w6 S ay]
 have aH:∀{ρ τ},bb ρ τ G->τ bf=τ bO->(∃eA,mn (bb ρ eA (put G z (.tail .bo U))) (Agree ρ eA ρ τ G) ((∀B,d7 B ρ τ G->d7 B ρ eA (put G z (.tail .bo U)))) ((eA c2=de (vals ρ ls) (eA z)/\Off (ls.map (·.1)) (eA z))) ((eA la=de (vals ρ ms) (eA z)/\Off (ms.map (·.1)) (eA z)))):=λ{ρ τ} S e=>by
  refine aB λae=>?_;obtain⟨X,aY,az,j9,oE⟩:=hp S e;refine ae ⟨upd τ z X,S.n5 t.o hz aY aL,lW hz,λB hB=>p9 hz hB (az B (hB.2 la ⟨_,_,cG⟩)),?_,?_⟩
  ·rw[fy,lg (kB dJ)];exact j9
  ·rw[fy,lg (kB cG)];exact oE
 refine aB λae=>?_;obtain⟨eA,e3,gk,iA,j9,oE⟩:=aH k3 ab;refine ae ⟨⟨eA,e3,gk,iA,j9,oE.1,λp hp=>ia.eE (h'.rU t.symm p hp)⟩,λ{hd vD} c=>?_⟩;have s:=c.bind (t.o.new hz aa aL:bV (put G z (.tail .bo U))) H1 YL dK nofun (kB dJ) (λp hp=>ia.eE (h.rU t p hp)) h.1 e3 j9;refine⟨s,λ{jv Hk} fG=>?_⟩;have Vj:put vD c2 (.tail .bo (I hd)) z=I (.tail .bo U):=by rw[d6 (kB dJ).symm];exact c.same dK
 have VY:put vD c2 (.tail .bo (I hd)) la=I (.tail .bo U):=by rw[d6 cv];exact c.same F9
 have ar:∀p∈ms,cq (put G z (.tail .bo U)) p.2:=λp hp=>ia.eE (h'.rU t.symm p hp);refine aB λae=>?_;obtain⟨eI,mu,gN,hy,_⟩:=s.ext e3 j9;have H2:dy (put G z (.tail .bo U)) z:=⟨_,_,dK⟩;have s':=fG.bind s.ok s.gen VY Vj nofun (kB cG) (λp hp=>s.grow.eE (ar p hp)) h'.1 gN (by rw[hy.2 la ⟨_,_,F9⟩,hy.2 z H2,Cv hy ar];exact oE);refine ae ⟨ia.trans (s.grow.trans s'.grow),s'.ok,s'.gen,λS=>((bb.iO hz).mp (s.sol (s'.sol S))).1,λ{ρ τ} S=>?_,λ{ρ τ} S p=>?_⟩
 ·refine aB λae=>?_;obtain⟨av,bS⟩:=s.back (s'.sol S);obtain⟨ay,cn⟩:=s'.back S;have S:bb ρ τ G:=((bb.iO hz).mp (s.sol (s'.sol S))).1;refine ae (t.eq S (λm e=>?_) (λm e=>?_) (by rw[av,ay,xR,xR]))
  ·rw[ay,h'.row cn,h'.qY e,t.b.look t.o S,av,h.row bS]
   induction q:lk (kinds gs) m with
   |some j=>rfl
   |none=>rw[wO (o:=lk ls m) (by rw[h.qY q]at ⊢;exact e)]at ⊢
  ·rw[av,h.row bS,h.qY e,t.a.look t.o S,ay,h'.row cn]
   induction q:lk (kinds aD) m with
   |some j=>rfl
   |none=>rw[wO (o:=lk ms m) (by rw[h'.qY q]at ⊢;exact e)]at ⊢
 ·refine aB λae=>?_;obtain⟨eA,e3,gk,iA,j9,oE⟩:=aH S p;obtain⟨eI,mu,gN,hy,lU⟩:=s.ext e3 j9;obtain⟨vZ,P9,Z1,aef,Zw⟩:=s'.ext gN (by rw[hy.2 la ⟨_,_,F9⟩,hy.2 z H2,Cv hy ar];exact oE);exact ae ⟨vZ,P9,Z1,gk.trans ia (hy.trans s.grow aef),λB hB=>Zw B (lU B (iA B hB))⟩
end
end Mine.Internal

section
variable {σ ag i7:Mine.Internal.aN}{G a3 iE:Mine.Internal.dr}{ρ bK aU:Nat->Mine.Internal.T}{bR bH:Nat->Mine.Internal.R}{d:Nat}{aF:Mine.Internal.gP}

set_option backward.match.sparseCases false
namespace Mine.Internal
open PySem
noncomputable def lX.word:lX->Str
 |.bo => "unknown"
 |.num => "number"
 |.aQ _ => "record"
noncomputable def lX.rest:lX->V
 |.aQ r=>.ref r
 |_=>.none
noncomputable def TW.word:TW->Str
 |.bo => "unknown"
 |.fin => "end"
 |.cF _ _ _ => "label"
noncomputable def TW.rest:TW->V
 |.cF _ _ r=>.ref r
 |_=>.none
noncomputable def TW.label:TW->V
 |.cF l _ _=>.str l
 |_=>.str ""
noncomputable def TW.kind:TW->V
 |.cF _ k _=>.ref k
 |_=>.none
noncomputable def yb:Option Nat->V
 |some m=>.ref m
 |none=>.none
noncomputable def gP.cls:gP->Str
 |.bg _ _ => "Spot"
 |.tail _ _ => "Tail"
noncomputable def gP.word:gP->Str
 |.bg w _=>w.word
 |.tail w _=>w.word
noncomputable def gP.rest:gP->V
 |.bg w _=>w.rest
 |.tail w _=>w.rest
noncomputable def gP.setB(b:Option Nat):gP->gP
 |.bg w _=>.bg w b
 |.tail w _=>.tail w b
noncomputable def C8(a b c d:V):List (Str×V):=[("word",a),("use",b),("rest",c),("became",d)]
noncomputable def CP(a b c d e f:V):List (Str×V):=[("word",a),("use",b),("rest",c),("label",d),("kind",e),("became",f)]
def gP.fl(u:Int):gP->List (Str×V)
 |.bg w b=>C8 (.str w.word) (.int u) w.rest (yb b)
 |.tail w b=>CP (.str w.word) (.int u) w.rest w.label w.kind (yb b)
def iD(σ:aN)(n:Nat)(aF:gP):Prop:=(c8 λk u=>hA (n=k+1) (0<k) (σ[k+1]? =I (.inst aF.cls k)) (σ[k]? =I (.bT (aF.fl u))))
def bU(σ:aN)(G:dr):Prop:=∀n aF,G n=I aF->iD σ n aF
noncomputable def su:O->Bool
 |.bT l=>(l.lookup ("became" : Str)).isSome
 |_=>aS
structure cc(σ ag:aN):Prop where
 len:σ.length<=ag.length
 at_:∀{n:Nat}{o:O},σ[n]? =I o->su o=aS->ag[n]? =I o
section
variable {τ:aN}{n m:Nat}{b:Option Nat}{v rt rr rq agX agW agV:V}
theorem cc.refl:cc σ σ:=⟨bx _,λe af=>e⟩
theorem cc.trans(h:cc σ ag)(h':cc ag i7):cc σ i7:=⟨b0 h.len h'.len,λe f=>h'.at_ (h.at_ e f) f⟩
theorem cc.push:cc σ (σ++[o]):=⟨by simp,λe af=>cB e⟩
theorem cc.new(h:cc σ τ):cc σ (τ++[o]):=h.trans .push
theorem cc.jJ(h:cc σ τ)(ar:σ.length<=k):cc σ (τ.set k o):=⟨by rw[lF];exact h.len,λ{n o'} e f=>by
 rw[oo (λeq=>by have:=cE e;exact er (cb 0x842101021300213142229021 aa ar eq this))];exact h.at_ e f⟩
theorem cc.Jv(h:cc σ τ)(e:τ[k]? =I o)(aZ:su o=aw):cc σ (τ.set k o'):=⟨by rw[lF];exact h.len,λ{n p} aG f=>by
 have ay:=h.at_ aG f;rw[oo (λeq=>by subst eq;rw[e]at ay;cases ay;rw[aZ]at f;exact kD f)];exact ay⟩
theorem cc.list{k:Nat}(h:cc σ ag)(e:σ[k]? =I (.list l)):ag[k]? =I (.list l):=h.at_ e aa
theorem cc.dict{k v:Nat}(h:cc σ ag)(e:σ[k]? =I (.dict v l)):ag[k]? =I (.dict v l):=h.at_ e aa
theorem AH:su (.bT (aF.fl u))=aw:=by cases aF <;> rfl
theorem MQ:(aF.fl u).length<sizeLine:=by
 induction aF with
 |bg _ _=>refine(?_:4<sizeLine);decide +kernel
 |tail _ _=>refine(?_:6<sizeLine);decide +kernel
theorem vg(x:Str)(ak:x = "word" \/ x = "use" \/ x = "rest" \/ x = "became"):(∃ms,(aC d).cls aF.cls=I ms/\ms.2.contains x=aw):=by
 induction aF with
 |bg _ _=>exact⟨(["__init__"],["word", "use", "rest", "became"]),aa,by rcases ak with rfl|rfl|rfl|rfl <;> decide +kernel⟩
 |tail _ _=>exact⟨(["__init__"],["word", "use", "rest", "label", "kind", "became"]),aa,by rcases ak with rfl|rfl|rfl|rfl <;> decide +kernel⟩
theorem NH(x:Str)(ak:x = "label" \/ x = "kind"):(∃ms,(aC d).cls (gP.tail w b).cls=I ms/\ms.2.contains x=aw):=
 ⟨(["__init__"],["word", "use", "rest", "label", "kind", "became"]),aa,by rcases ak with rfl|rfl <;> decide +kernel⟩
theorem iD.inst(h:iD σ n aF):(∃k,σ[n]? =I (.inst aF.cls k)):=by obtain⟨k,u,rfl,_,e,_⟩:=h;exact⟨k,e⟩
theorem iD.lt(h:iD σ n aF):n<σ.length:=by obtain⟨k,e⟩:=h.inst;exact cE e
theorem fW(h:iD σ n aF):cL (aC d) "word" (.ref n) σ=.ok (.str aF.word) σ:=by
 obtain⟨k,u,rfl,_,av,ay⟩:=h;obtain⟨ms,h1,h2⟩:=vg (d:=d) (aF:=aF) "word" (.inl aa);exact lB av ay h1 h2 (by cases aF <;> rfl)
theorem Dz(h:iD σ n aF):cL (aC d) "became" (.ref n) σ=.ok (yb aF.s8) σ:=by
 obtain⟨k,u,rfl,_,av,ay⟩:=h;obtain⟨ms,h1,h2⟩:=vg (d:=d) (aF:=aF) "became" (.inr (.inr (.inr aa)));exact lB av ay h1 h2 (by cases aF <;> rfl)
theorem JU(h:iD σ n aF):cL (aC d) "rest" (.ref n) σ=.ok aF.rest σ:=by
 obtain⟨k,u,rfl,_,av,ay⟩:=h;obtain⟨ms,h1,h2⟩:=vg (d:=d) (aF:=aF) "rest" (.inr (.inr (.inl aa)));exact lB av ay h1 h2 (by cases aF <;> rfl)
theorem r5(h:iD σ n aF):(∃u,cL (aC d) "use" (.ref n) σ=.ok (.int u) σ):=by
 obtain⟨k,u,rfl,_,av,ay⟩:=h;obtain⟨ms,h1,h2⟩:=vg (d:=d) (aF:=aF) "use" (.inr (.inl aa));exact⟨u,lB av ay h1 h2 (by cases aF <;> rfl)⟩
theorem S9(h:iD σ n (.tail w b)):cL (aC d) "label" (.ref n) σ=.ok w.label σ:=by
 obtain⟨k,u,rfl,_,av,ay⟩:=h;obtain⟨ms,h1,h2⟩:=NH (d:=d) (b:=b) (w:=w) "label" (.inl aa);exact lB av ay h1 h2 aa
theorem ua(h:iD σ n (.tail w b)):cL (aC d) "kind" (.ref n) σ=.ok w.kind σ:=by
 refine aB λae=>?_;obtain⟨k,u,rfl,_,av,ay⟩:=h;obtain⟨ms,h1,h2⟩:=NH (d:=d) (b:=b) (w:=w) "kind" (.inr aa);exact ae (lB av ay h1 h2 aa)
theorem AQ(h:iD σ n aF)(h':iD σ m fB):cmp .Eq (.ref n) (.ref m) σ=.ok (.bool (n==m)) σ:=by
 obtain⟨_,e⟩:=h.inst;obtain⟨_,aG⟩:=h'.inst;exact r6 (v9 e aG)
theorem T2(h:iD σ n aF)(h':iD σ m fB):cmp .NotEq (.ref n) (.ref m) σ=.ok (.bool (!(n==m))) σ:=by
 refine aB λae=>?_;obtain⟨_,e⟩:=h.inst;obtain⟨_,aG⟩:=h'.inst;exact ae (Dy (v9 e aG))
theorem iD.le(h:iD σ n aF)(l:∀{k:Nat}{o:O},σ[k]? =I o->ag[k]? =I o):iD ag n aF:=by
 obtain⟨k,u,e,aE,av,ay⟩:=h;exact⟨k,u,e,aE,l av,l ay⟩
theorem bU.le(g:bU σ G)(l:∀{k:Nat}{o:O},σ[k]? =I o->ag[k]? =I o):bU ag G:=λn aF e=>(g n aF e).le l
theorem bU.push(g:bU σ G):bU (σ++[o]) G:=g.le λe=>cB e
theorem bU.set(g:bU σ G)(e:σ[k]? =I o)(h1:su o=aS)(h2:∀c j,o≠.inst c j):bU (σ.set k o') G:=λn aF q=>by
 obtain⟨j,u,d8,aE,av,ay⟩:=g n aF q;refine⟨j,u,d8,aE,ef (λx=>?_) av,ef (λx=>?_) ay⟩
 ·subst x;replace av:=e ▸ av;cases av;exact h2 _ _ aa
 ·subst x;replace ay:=e ▸ ay;cases ay;replace h1:=AH ▸ h1;exact kD h1
theorem bU.rY(g:bU σ G)(e:σ[k]? =I (.list l)):bU (σ.set k o) G:=g.set e aa nofun
theorem bU.rZ(g:bU σ G){k v:Nat}(e:σ[k]? =I (.dict v l)):bU (σ.set k o) G:=g.set e aa nofun
theorem Xp:hK (aF.fl u) "became" (yb b)=(aF.setB b).fl u:=by cases aF <;> rfl
theorem Xo:hK (aF.fl u) "use" (.int hE)=aF.fl hE:=by cases aF <;> rfl
theorem Zg:(aF.setB b).cls=aF.cls:=by cases aF <;> rfl
theorem yX(g:bU σ G)(e:G n=I aF)(b:Option Nat):(∃ag,eH (dT (aC d) "became" (yb b) (.ref n) σ=.ok () ag) (bU ag (put G n (aF.setB b))) (cc σ ag)):=by
 refine aB λae=>?_;obtain⟨k,u,rfl,aE,av,ay⟩:=g n aF e;obtain⟨ms,h1,h2⟩:=vg (d:=d) (aF:=aF) "became" (.inr (.inr (.inr aa)));refine ae ⟨_,zw av ay aE h1 h2 MQ,λm fB q=>?_,cc.refl.Jv ay AH⟩;rw[Xp];rcases dO q with ⟨rfl,dU⟩|⟨hm,q⟩
 ·subst dU;exact⟨k,u,aa,aE,by rw[Zg,oo (by exact gv (jY _))];exact av,fV ay⟩
 ·refine aB λae=>?_;obtain⟨j,hE,d8,FG,iz,oT⟩:=g m fB q;refine ae ⟨j,hE,d8,FG,ef (λx=>?_) iz,ef (λx=>?_) oT⟩
  ·replace ay:=iz ▸ x ▸ ay;cases ay
  ·lia
theorem yW(g:bU σ G)(e:G n=I aF)(hE:Int):(∃ag,eH (dT (aC d) "use" (.int hE) (.ref n) σ=.ok () ag) (bU ag G) (cc σ ag)):=by
 obtain⟨k,u,rfl,aE,av,ay⟩:=g n aF e;obtain⟨ms,h1,h2⟩:=vg (d:=d) (aF:=aF) "use" (.inr (.inl aa));refine⟨_,zw av ay aE h1 h2 MQ,λm fB q=>?_,cc.refl.Jv ay AH⟩;rw[Xo];refine aB λae=>?_;by_cases hm:m=k+1
 ·subst hm;refine ae ?_;replace q:=e ▸ q;cases q;exact⟨k,hE,aa,aE,by rw[oo (by exact gv (jY _))];exact av,fV ay⟩
 ·obtain⟨j,Q5,d8,FG,iz,oT⟩:=g m fB q;refine ae ⟨j,Q5,d8,FG,ef (λx=>?_) iz,ef (λx=>?_) oT⟩
  ·replace ay:=iz ▸ x ▸ ay;cases ay
  ·subst x;exact hm d8
theorem qD{a b:O}:(σ++[a,b])[σ.length]? =I a/\(σ++[a,b])[σ.length+1]? =I b:=by
 constructor
 ·rw[j0 (bx _),ky];rfl
 ·rw[j0 (gH _),show σ.length+1-σ.length=1 from afg ..];rfl
theorem CD{a b:O}{k:Nat}{o:O}(e:σ[k]? =I o):(σ++[a,b])[k]? =I o:=by rw[pf (cE e)];exact e
theorem cc.two{a b:O}:cc σ (σ++[a,b]):=⟨by simp,λe af=>CD e⟩
theorem mB{C:Cfg}{c nm:Str}{l:List (Str×V)}{ms:List Str×List Str}(aE:0<σ.length)(aA:C.cls c=I ms)(hm:ms.2.contains nm=aw)(hl:l.length<sizeLine):dT C nm v (.ref (σ.length+1)) (σ++[.bT l,.inst c σ.length])=.ok () (σ++[.bT (hK l nm v),.inst c σ.length]):=by
 rw[zw qD.2 qD.1 aE aA hm hl,afn _ _ (bx _),ky];rfl
theorem bU.off(g:bU σ G)(h:σ.length<=n):G n=U:=by
 induction e:G n with
 |none=>rfl
 |some aF=>have:=(g n aF e).lt;exact er (bF 0x8421010212802129021 aa h this)
theorem bU.put2(g:bU σ G)(aE:0<σ.length){u:Int}:bU (σ++[.bT (aF.fl u),.inst aF.cls σ.length]) (put G (σ.length+1) aF):=λm fB q=>by
 rcases dO q with ⟨rfl,dU⟩|⟨hm,q⟩
 ·subst dU;exact⟨σ.length,u,aa,aE,qD.2,qD.1⟩
 ·exact(g m fB q).le λe=>CD e
noncomputable def Ui:List Str×List Str:=(["__init__"],["word", "use", "rest", "became"])
noncomputable def Uh:List Str×List Str:=(["__init__"],["word", "use", "rest", "label", "kind", "became"])
theorem A4:(aC d).cls "Spot" = I Ui:=rfl
theorem rn:(aC d).cls "Tail" = I Uh:=rfl
theorem Un(aE:0<σ.length):el (aC (d+1)) "Spot" [rt,rr,rq] σ=.ok (.ref (σ.length+1)) (σ++[.bT (C8 rt rr rq .none),.inst "Spot" σ.length]):=by
 refine(?_:(bc (d+1) (jq "Spot" "__init__") [.ref (σ.length+1),rt,rr,rq]>>=λr=>uH r (Pure.pure (V.ref (σ.length+1)))) (σ++[.bT [],.inst "Spot" σ.length])=_);rw[show jq "Spot" "__init__" = "Spot.__init__" by decide +kernel,acg];refine(a4 (a:=V.none) (ag:=σ++[.bT (C8 rt rr rq .none),.inst "Spot" σ.length]) ?_).trans aa;exact(a4 (mB aE A4 (by decide +kernel) (by decide +kernel))).trans ((a4 (mB aE A4 (by decide +kernel) (by refine(?_:1<sizeLine);decide +kernel))).trans ((a4 (mB aE A4 (by decide +kernel) (by refine(?_:2<sizeLine);decide +kernel))).trans ((a4 (mB aE A4 (by decide +kernel) (by refine(?_:3<sizeLine);decide +kernel))).trans aa)))
theorem DV(aE:0<σ.length):el (aC (d+1)) "Tail" [rt,rr,rq] σ=.ok (.ref (σ.length+1)) (σ++[.bT (CP rt rr rq (.str "") .none .none),.inst "Tail" σ.length]):=by
 refine(?_:(bc (d+1) (jq "Tail" "__init__") [.ref (σ.length+1),rt,rr,rq]>>=λr=>uH r (Pure.pure (V.ref (σ.length+1)))) (σ++[.bT [],.inst "Tail" σ.length])=_);rw[show jq "Tail" "__init__" = "Tail.__init__" by decide +kernel,acd];refine(a4 (a:=V.none) (ag:=σ++[.bT (CP rt rr rq (.str "") .none .none),.inst "Tail" σ.length]) ?_).trans aa;exact(a4 (mB aE rn (by decide +kernel) (by decide +kernel))).trans ((a4 (mB aE rn (by decide +kernel) (by refine(?_:1<sizeLine);decide +kernel))).trans ((a4 (mB aE rn (by decide +kernel) (by refine(?_:2<sizeLine);decide +kernel))).trans ((a4 (mB aE rn (by decide +kernel) (by refine(?_:3<sizeLine);decide +kernel))).trans ((a4 (mB aE rn (by decide +kernel) (by refine(?_:4<sizeLine);decide +kernel))).trans ((a4 (mB aE rn (by decide +kernel) (by refine(?_:5<sizeLine);decide +kernel))).trans aa)))))
def Made(σ:aN)(G:dr)(aF:gP)(r:Res V):Prop:=(c8 λn ag=>hA (r=.ok (.ref n) ag) (G n=U) (bU ag (put G n aF)) (cc σ ag))
theorem rL(g:bU σ G)(aE:0<σ.length)(w:lX)(u:Int):Made σ G (.bg w U) (el (aC (d+1)) "Spot" [.str w.word,.int u,w.rest] σ):=⟨_,_,Un aE,g.off (gH _),g.put2 (aF:=.bg w U) aE,.two⟩
theorem Cp(g:bU σ G)(aE:0<σ.length):Made σ G (.bg .bo U) (bc (d+2) "unknown_kind" [] σ):=by
 rw[aae];refine aB λae=>?_;obtain⟨n,ag,e,h1,h2,h3⟩:=rL (d:=d) g aE .bo 0;exact ae ⟨n,ag,(a4 (m:=el (aC (d+1)) "Spot" _) e).trans aa,h1,h2,h3⟩
theorem w_end(g:bU σ G)(aE:0<σ.length)(u:Int):Made σ G (.tail .fin U) (el (aC (d+1)) "Tail" [.str "end",.int u,.none] σ):=⟨_,_,DV aE,g.off (gH _),g.put2 (aF:=.tail .fin U) aE,.two⟩
theorem yV(g:bU σ G)(aE:0<σ.length):Made σ G (.tail .bo U) (bc (d+2) "unknown_rest" [] σ):=by
 rw[aab];exact⟨_,_,(a4 (DV aE)).trans aa,g.off (gH _),g.put2 (aF:=.tail .bo U) aE,.two⟩
theorem w_field(g:bU σ G)(aE:0<σ.length)(l:Str)(k r:Nat)(u:Int):Made σ G (.tail (.cF l k r) U) (bc (d+2) "field" [.str l,.ref k,.int u,.ref r] σ):=by
 rw[abG];exact⟨_,_,(a4 (DV aE)).trans ((a4 (mB aE rn (by decide +kernel) (by refine(?_:6<sizeLine);decide +kernel))).trans ((a4 (mB aE rn (by decide +kernel) (by refine(?_:6<sizeLine);decide +kernel))).trans aa)),g.off (gH _),g.put2 (aF:=.tail (.cF l k r) U) aE,.two⟩
end
section
variable {τ:aN}{n m t:Nat}{b:Option Nat}{v:V}{ζ:Nat->R}
theorem H9(h1:tt loc σ=.ok aw ag)(h2:bd loc ag=.ok (.next,bP) i7):iJ tt bd (k+1) loc σ=iJ tt bd k bP i7:=
 (a4 (f:=λc=>M.cond c (bd loc>>=_) _) h1).trans (show(bd loc>>=_) ag=_ from a4 h2)
theorem H8(h1:tt loc σ=.ok aS ag):iJ tt bd (k+1) loc σ=.ok (.next,loc) ag:=a4 h1
theorem w_top(g:bU σ G)(h:Top G n t):bc (d+1) "top" [.ref n] σ=.ok (.ref t) σ:=by
 have key:(∃k,iJ (λl=>ep (aC d) (fz rC) n9.names l (ev (aC d) (fz rC) n9.names l)) (dw (aC d) (cY rC) n9.names) k [I (.ref n)] σ=.ok (.next,[I (.ref t)]) σ):=by
  induction h with
  |@here n aF e b=>
   refine⟨1,H8 ?_⟩;rw[Ot];refine(a4 (Dz (g n aF e))).trans ?_;rw[b];rfl
  |@there n m t aF e b h aj=>
   obtain⟨k,aj⟩:=aj;refine⟨k+1,(H9 (ag:=σ) ?_ ?_).trans aj⟩
   ·rw[Ot];refine(a4 (Dz (g n aF e))).trans ?_;rw[b];rfl
   ·rw[aah];refine(a4 (Dz (g n aF e))).trans ?_;rw[b];rfl
 obtain⟨k,e⟩:=key;rw[aai];refine(a4 (m:=qA _ _ _ _ _) (Cm e)).trans ?_;rw[FR,aaj];rfl
noncomputable def cu(aD:jF):Tab:=aD.map λp=>(.inr p.1,.ref p.2.1)
theorem rQ:dF (cu aD) (.inr l)=(lk aD l).map λp=>V.ref p.1:=by
 induction aD with
 |nil=>rfl
 |cons p aD aj=>
  unfold dF cu at aj ⊢;rw[ea,qs];show Option.map _ (match decide ((Sum.inr p.1:Key)=.inr l) with|true=>_|false=>_)=Option.map _ (if p.1=l then I p.2 else lk aD l);by_cases e:p.1=l
  ·rw[aK e,m6 (by rw[e])];rfl
  ·rw[aR e,jf (λq=>e (yE q))];exact aj
theorem vd(h:dF l k=U):kY l k v=l++[(k,v)]:=by
 unfold kY;rw[aR]at ⊢;intro aV;obtain⟨p,hp,e⟩:=HP.mp aV;unfold dF at h;have:=PT.mp (BY.mp h) p hp;exact this e
theorem D4{gn α:Type}[DecidableEq gn] {aD:List (gn×α)}{p:gn×α}{l:gn}:lk (aD++[p]) l=(lk aD l).or (if p.1=l then I p.2 else U):=by
 induction aD with
 |nil=>exact(aeY ..).symm
 |cons q aD aj=>
  refine(?_:(if q.1=l then I q.2 else lk (aD++[p]) l)=(if q.1=l then I q.2 else lk aD l).or _);by_cases e:q.1=l
  ·rw[aK e,aK e];rfl
  ·rw[aR e,aR e];exact aj
theorem Ss:(σ++[o]).set σ.length o'=σ++[o']:=by rw[afn _ _ (bx _),ky];rfl
theorem SI(g:bU σ G)(aE:0<σ.length)(h:Row G r aD last w):∀(acc:jF) (v:Nat),((acc++aD).map (·.1)).Nodup->acc.length+aD.length<=1000->∀t,Top G r t ->
  (∃k,iJ (λl=>ep (aC (d+1)) (fz rD) oa.names l (ev (aC (d+1)) (fz rD) oa.names l)) (dw (aC (d+1)) (cY rD) oa.names) k [I x,I (.ref σ.length),I (.ref t),U] (σ++[.dict v (cu acc)]) =
   .ok (.next,[I x,I (.ref σ.length),I (.ref last),U]) (σ++[.dict (v+aD.length) (cu (acc++aD))])):=by
 induction h with
 |@stop r t w aP e nl=>
  intro acc v aF hl eu EO;have:=aP.uniq EO;subst this;refine⟨1,(H8 (ag:=σ++[.dict v (cu acc)]) ?_).trans ?_⟩
  ·rw[Ov];refine(a4 (fW (g.push t _ e))).trans ?_
   induction w with
   |bo=>rfl
   |fin=>rfl
   |cF l k r=>exact absurd aa (nl l k r)
  ·rw[vU];rfl
 |@more r t k bI last l aD w aP e h aj=>
  intro acc v aF hl eu EO;have:=aP.uniq EO;subst this;have ay:=g.push (o:=.dict v (cu acc)) t _ e;have T4:((acc++[(l,t,k)]++aD).map (·.1)).Nodup:=by rw[pg];exact aF
  have ao:dF (cu acc) (.inr l)=U:=by
   rw[rQ,BY,nB];rw[dY]at aF;exact λhm=>(rH.mp aF).2.2 l hm l b9 aa
  have hl:acc.length+(aD.length+1)<=1000:=hl;obtain⟨bp,xi⟩:(∃bp,Top G bI bp):=by cases h with|stop h _ _=>exact⟨_,h⟩|more h _ _=>exact⟨_,h⟩
  obtain⟨j,aj⟩:=aj (acc++[(l,t,k)]) (v+1) T4 (by rw[dp];exact show acc.length+1+aD.length<=1000 from bF 0xFA3C12842400020FA3C1084A020021 aa hl) bp xi;have u7:cu acc++[(.inr l,.ref t)]=cu (acc++[(l,t,k)]):=by unfold cu;rw[dY];rfl
  refine⟨j+1,(H9 (ag:=σ++[.dict v (cu acc)]) ?_ ?_).trans (aj.trans ?_)⟩
  ·rw[Ov];exact(a4 (fW ay)).trans aa
  ·rw[aal];refine(a4 (S9 ay)).trans ((a4 (Dv (key:=.inr l) cP aE aa (by unfold cu;rw[bC];exact i5 (b0 (ha _ _) hl) (by decide +kernel)))).trans ?_);rw[Ss,vd ao,u7];have g3:=g.push (o:=.dict (v+1) (cu (acc++[(l,t,k)])));exact(a4 (JU (g3 t _ e))).trans ((a4 (w_top g3 xi)).trans aa)
  ·rw[pg,pd,qq 1];rfl
theorem tU(g:bU σ G)(aE:0<σ.length)(aP:Top G n t)(eF:G t=I (.bg (.aQ r) b))(h:Row G r aD last w)(aF:(aD.map (·.1)).Nodup)(hl:aD.length<=1000) :
  bc (d+2) "row_of" [.ref n] σ=.ok (.tup [.ref σ.length,.ref last]) (σ++[.dict aD.length (cu aD)]):=by
 have g2:=g.push (o:=.dict 0 (cu []));obtain⟨bp,xi⟩:(∃bp,Top G r bp):=by cases h with|stop h _ _=>exact⟨_,h⟩|more h _ _=>exact⟨_,h⟩
 obtain⟨k,e⟩:=SI (d:=d) (x:=.ref n) g aE h [] 0 aF (by simpa using hl) bp xi;rw[aam];refine(a4 (m:=cH _) aa).trans ((a4 (w_top g2 aP)).trans ((a4 (JU (g2 t _ eF))).trans ((a4 (w_top g2 xi)).trans ((a4 (m:=qA _ _ _ _ _) (Cm e)).trans ?_))));rw[FR,aan,kx];rfl
end
section
variable {n m t x:Nat}{b:Option Nat}{v:V}{τ:Nat->R}
theorem pn(h:σ[a]? =I (.list l)):ip σ (k+1) a=(gS (ip σ k) l).map .list:=by
 show(match σ[a]? with|some (.list l)=>(gS (ip σ k) l).map PyData.list|_=>U)=_;rw[h]
theorem Rn(h:σ[a]? =I (.inst c j)):ip σ k a=U:=by
 induction k with
 |zero=>rfl
 |succ k=>
  refine(?_:(match σ[a]? with|some (.list l)=>(gS (ip σ k) l).map PyData.list|_=>U)=_);rw[h]
theorem QW{a c:Nat}{ws:List Nat}(aV:σ[a]? =I (.list (ws.map V.ref)))(hw:∀m∈ws,(c8 λc j=>σ[m]? =I (.inst c j)))(aA:σ[c]? =I (.list [])):ej σ (.ref a) (.ref c)=I ws.isEmpty:=by
 have ay:toPy σ (.ref c)=I (.list []):=pn (k:=3) aA;unfold ej;rw[ay]
 induction ws using List.casesOn with
 |nil=>
  rw[show toPy σ (.ref a)=I (.list []) from pn (k:=3) aV];rfl
 |cons w ws=>
  obtain⟨q,j,aH⟩:=hw w b9;have av:toPy σ (.ref a)=U:=by
   rw[show toPy σ (.ref a)=_ from pn (k:=3) aV,ea];refine(?_:Option.map _ (match ip σ 3 w,gS _ _ with|some d,some ds=>I (d::ds)|_,_=>U)=U);rw[Rn aH];rfl
  rw[av];refine(?_:xW σ a (.ref c)=_);unfold xW;have cS:gW σ a=U:=by unfold gW;rw[aV]
  have lH:listAt σ a=I ((w::ws).map V.ref):=by unfold listAt;rw[aV]
  have kL:listAt σ c=I []:=by unfold listAt;rw[aA]
  dsimp only;rw[cS,lH,kL];rfl
theorem QR{ms:List Nat}(ak:(c8 λc j=>σ[x]? =I (.inst c j)))(hm:∀m∈ms,(c8 λc j=>σ[m]? =I (.inst c j))):(∃b,j5 σ (.ref x) (ms.map V.ref)=I b):=by
 induction ms with
 |nil=>exact⟨_,aa⟩
 |cons m ms aj=>
  obtain⟨b,aj⟩:=aj λm gZ=>hm m (dz _ gZ);obtain⟨_,_,av⟩:=hm m b9;obtain⟨_,_,ay⟩:=ak;refine⟨(m==x) || b,?_⟩;refine(?_:(match ej σ (.ref m) (.ref x),j5 σ (.ref x) (ms.map V.ref) with|some e,some t=>I (e || t)|_,_=>U)=_);rw[v9 av ay,aj]
theorem sW{α β:Type}{f:α->Option β}{h:α->β}:∀{l:List α},(∀q∈l,f q=I (h q))->l.filterMap f=l.map h:=by
 intro cO
 induction cO with
 |nil=>intro _;exact aa
 |cons q l sW=>
  intro e;rw[HN,e q b9,ea,<-sW λdU aH=>e dU (dz _ aH)]
noncomputable def kG(ρ:Nat->T)(ws:List Nat):Nat:=(ws.map λm=>(ρ m).size).sum
theorem T.pos(t:T):1<=t.size:=by cases t;exact bx 1;exact bx 1;exact ha 1 _
theorem Sn:ws.length<=kG ρ ws:=by
 induction ws with
 |nil=>exact bx _
 |cons w ws aj=>have:=T.pos (ρ w);exact show ws.length+1<=(ρ w).size+kG ρ ws from cb 0xA600424004060842129021 aa aj this
theorem Df:kG ρ (ws++vs)=kG ρ ws+kG ρ vs:=by unfold kG;rw[dY,vQ]
theorem So:kG ρ (aD.map (·.2.2))<=(de (vals ρ (kinds aD)) r).size:=by
 induction aD with
 |nil=>exact eV _
 |cons p aD aj=>
  refine(?_:(ρ p.2.2).size+kG ρ (aD.map (·.2.2))<=(de ((p.1,ρ p.2.2)::vals ρ (kinds aD)) r).size);rw[zm];exact show _<=1+(ρ p.2.2).size+_ from cb 0x14C1080043002029021 aa aj
theorem MK(g:bU σ G){ws:List Nat}(h:∀m∈ws,cq G m):∀m∈ws,(c8 λc j=>σ[m]? =I (.inst c j)):=λm hm=>by
 obtain⟨_,_,e⟩:=h m hm;obtain⟨k,aG⟩:=(g _ _ e).inst;exact⟨_,_,aG⟩
def GS(G:dr)(ρ:Nat->T)(x N:Nat)(ws:List Nat):Prop:=∀m∈ws,cq G m/\(ρ m).size<=N/\¬Top G m x
def HoldsI(σ:aN)(G:dr)(ρ:Nat->T)(n x N:Nat)(k:Nat)(loc:Loc)(ag:aN):Prop:=
 (vG λ(ws:List Nat) (ms:List Nat) (bS:Option V) (cn:Option V) (eQ:Option V)=>Hv (loc=[I (.ref n),I (.ref x),I (.ref σ.length),I (.ref (σ.length+1)),bS,cn,eQ,U,U]) (ag[σ.length]? =I (.list (ws.map V.ref))) (ag[σ.length+1]? =I (.list (ms.map V.ref))) ((∀m∈ms,cq G m)) (GS G ρ x N ws) (kG ρ ws=k) (ms.length+k<=2000) (bU ag G) (cc σ ag))
theorem VG{r last:Nat}{aD:jF}{w:TW}{n x N k:Nat}{ws ms:List Nat}(O:bV G)(S:bb ρ τ G)(bd:d7 1000 ρ τ G)(sA:cq G x->N<=(ρ x).size)(EK:dy G x->N<=(τ x).size)
  (g:bU ag G) (aE:0<σ.length) (aP:G t=I (.bg (.aQ r) U)) (cg:(ρ t).size<=N) (aX:Row G r aD last w) (ak:(∃aF,G x=I aF)) (ar:kG ρ ws+(ρ t).size=k)
  (av:ag[σ.length]? =I (.list (ws.map V.ref))) (ay:ag[σ.length+1]? =I (.list (ms.map V.ref))) (sG:∀m∈ms,cq G m) (hw:GS G ρ x N ws) (hl:ms.length+k<=2000) (le:cc σ ag) {cn eQ:Option V}{α:Type}{K:V->M α}{Q:α->aN->Prop} :
  Wp ag (c3 (d9 (aC (d+2)) (.ref (σ.length+1)) "append")>>=λW2=>runM (aC (d+2)) "append" W2 (.ref (σ.length+1)) [.ref t]>>=λaf5=>bc (d+2) "row_of" [.ref t]>>=λRA=>bindTo (stLoc je.names) (dM (dg (cY (dg (cY ob) 2)) 1)) RA [I (.ref n),I (.ref x),I (.ref σ.length),I (.ref (σ.length+1)),I (.ref t),cn,eQ,U,U]>>=G3 (d+2))
   (GU (HoldsI σ G ρ n x N) (λr ag=>Wp ag (dN r) λv bH=>v=.bool aS/\bU bH G/\cc σ bH) k):=by
 obtain⟨bL,aF,_⟩:=aX.sol O S;have cV:(ρ t).size=1+(τ r).size:=by rw[show ρ t=.aQ (τ r) from(S.bg aP).1];rfl
 have hlen:aD.length<=1000:=by
  have h1:=(bd.2 r (aX.lI O)).len;rw[bL,D9]at h1;unfold vals kinds at h1;rw[bC,bC]at h1;exact bF 0xFA3C120400F782520021 aa h1
 have g2:=g.rY (o:=.list (ms.map V.ref++[.ref t])) ay;have fu:=cE ay;refine al (ly ay aa) (al (oD ay (qm _) (by rw[bC];have:sizeLine=16777216:=rfl;exact cb 0x608480082000001F098230003E87C2520021 aa hl this)) ?_);refine al (tU g2 (by rw[lF];exact bF 0xA108020080A10842400021 aa fu) (.here aP aa) aP aX aF hlen) ?_;rw[aby];refine al (m:=Pure.pure _) aa ?_;rw[abA];have g3:=g2.push (o:=.dict aD.length (cu aD));obtain⟨Qq,ex⟩:=ak;have L1:=aX.at.1;have cv:(last==x)=aS:=by
  rw[rG];intro q;subst q;have h1:=EK ⟨_,_,L1⟩;have h2:(τ last).size<=(τ r).size:=by rw[bL];exact Sp
  exact er (fq 0x8421018E109CA1098210102329021 aa cg cV h1 h2)
 refine al (m:=bD _) aa (al (AQ (g3 last _ L1) (g3 x _ ex)) (al (m:=truth _) aa (d3 cv ?_)));unfold OH;generalize bX:ag.set (σ.length+1) (.list (ms.map V.ref++[.ref t]))++[.dict aD.length (cu aD)]=b6 at g3;have iz:b6[σ.length]? =I (.list (ws.map V.ref)):=by subst bX;exact cB (ef (by exact λq=>er (cp 0x84210102120022 aa q)) av)
 have oT:b6[σ.length+1]? =I (.list ((ms++[t]).map V.ref)):=by subst bX;rw[dY];exact cB (fV ay)
 have dB:b6[ag.length]? =I (.dict aD.length (cu aD)):=by subst bX;rw[<-lF (σ:=ag)];exact cP
 have cM:cc σ b6:=by subst bX;exact(le.jJ (gH _)).new
 rw[lF];refine al (ly iz aa) (al (m:=bD _) aa (al (Du dB) ?_));refine th (l:=(cu aD).map λp=>h7 p.1) (ur:=[U,U,I (.ref ag.length)]) aa (Cn λτ lK=>by subst lK;unfold my;rw[dB]) abu (abv ..) ?_ (λloc=>(∃o,loc=[U,o,I (.ref ag.length)])) ⟨_,aa⟩ (λv=>match v with|.str l=>(lk aD l).map λp=>V.ref p.2|_=>U) ?_ ?_
 ·unfold cu;rw[bC,bC];exact b0 hlen (by decide +kernel)
 ·intro v loc aM lR;obtain⟨o,rfl⟩:=lR;refine⟨_,by rw[abx];rfl,⟨_,aa⟩,aw,by rw[abt];rfl,?_⟩;obtain⟨p,hp,rfl⟩:=ez.mp aM;obtain⟨q,aH,rfl⟩:=ez.mp hp;have gh:lk aD q.1=I q.2:=uu aF aH;obtain⟨bI,eq⟩:=aX.ent q aH;refine⟨.ref q.2.2,?_,by show(lk aD q.1).map _=_;rw[gh];rfl⟩;rw[abw];exact(a4 (m:=bD _) aa).trans ((a4 (lz (key:=.inr q.1) dB aa (by rw[rQ,gh];rfl))).trans ((a4 (ua (g3 _ _ eq))).trans aa))
 ·have nT:((cu aD).map λp=>h7 p.1).filterMap (λv=>match v with|.str l=>(lk aD l).map λp=>V.ref p.2|_=>U)=(aD.map (·.2.2)).map V.ref:=by
   unfold cu;rw[gw,yL];rw[gw];refine sW λq aH=>?_;show(lk aD q.1).map _=_;rw[uu aF aH];rfl
  rw[nT];have LK:kG ρ (aD.map (·.2.2))<=(τ r).size:=by rw[bL];exact So
  refine al (Te (l:=ws.map V.ref) (m:=(aD.map (·.2.2)).map V.ref) (cB iz) cP aE (gv (i5 le.len (cE dB))) (by
   rw[bC,bC,bC];exact KY 0xA4240104000003E1504644843F47828084000FA1F098E0084C520022 aa ar hl hlen (Sn (ρ:=ρ) (ws:=ws)) (aa:sizeLine=16777216))) (bZ ⟨kG ρ (ws++aD.map (·.2.2)),by rw[Df];exact hG 0xC10A08000407404270840508CC520022 aa ar cV LK,ws++aD.map (·.2.2),ms++[t],_,_,_,aa,by rw[dY];exact fV (cB iz),ef (gv (jY _)) (cB oT),?_,?_,aa,?_,g3.push.rY (cB iz),cM.new.jJ (bx _)⟩)
  ·intro m hm;rcases gb.mp hm with hm|hm
   ·exact sG m hm
   ·rw[bN.mp hm];exact⟨_,_,aP⟩
  ·intro m hm;rcases gb.mp hm with hm|hm
   ·exact hw m hm
   ·obtain⟨q,aH,rfl⟩:=ez.mp hm;have nK:cq G q.2.2:=aX.rU O (q.1,q.2.2) (ez.mpr ⟨q,aH,aa⟩);have fu:1+(ρ q.2.2).size<=(τ r).size:=by rw[bL];exact Dg (p:=(q.1,ρ q.2.2)) (ez.mpr ⟨(q.1,q.2.2),ez.mpr ⟨q,aH,aa⟩,aa⟩)
    refine⟨nK,by exact fq 0xA7080C708401098210102329021 aa cg cV fu,λbw=>?_⟩;have Vm:cq G x:=by obtain⟨_,e⟩:=bw.bg O nK;exact⟨_,_,e⟩
    have h1:=sA Vm;rw[<-S.jl O bw nK]at h1;exact er (fq 0x421080E5084C708401098210102329021 aa cg cV fu h1)
  ·rw[Df,dp];exact show ms.length+1+_<=_ from w3 0xFA1F0A480084E000408484280840508C000FA1F098E0084C520022 aa ar hl cV LK
theorem Ip{N:Nat}(O:bV G)(S:bb ρ τ G)(bd:d7 1000 ρ τ G)(g:bU σ G)(aE:0<σ.length)(ao:cq G n)(ak:(∃aF,G x=I aF))(sA:cq G x->N<=(ρ x).size)(EK:dy G x->N<=(τ x).size)(cg:(ρ n).size<=N)(bw:¬Top G n x) :
  Wp σ (bc (d+3) "holds" [.ref n,.ref x]) λv ag=>v=.bool aS/\bU ag G/\cc σ ag:=by
 rw[abr];refine al (m:=cH _) aa (al (m:=cH _) aa ?_);have hlen:(σ++[Mine.Internal.O.list [V.ref n]]).length=σ.length+1:=by simp
 rw[hlen];refine Of (HoldsI σ G ρ n x N) (k:=(ρ n).size) ⟨[n],[],U,U,U,aa,cB cP,by rw[<-hlen];exact cP,nofun,?_,?_,?_,g.push.push,cc.push.new⟩ ?_
 ·intro m hm;rw[bN.mp hm];exact⟨ao,cg,bw⟩
 ·exact show(ρ n).size+0=_ from iF (cp 0x100120020 aa) (cp 0x2401020 aa)
 ·have:=(bd.1 n ao).size;exact show 0+_<=_ from cp 0x3E87C240040107D1E09021 aa this
 intro k loc ag hI;refine aB λae=>?_;obtain⟨ws,ms,bS,cn,eQ,rfl,av,ay,sG,hw,ar,hl,ck,le⟩:=hI;refine ae ?_;rw[abp];have g1:=ck.push (o:=.list []);refine al (m:=cH _) aa (al (Dy (QW (cB av) (MK g1 λm hm=>(hw m hm).1) cP)) (al (m:=truth _) aa (bZ ?_)));rcases PV ws with rfl|⟨k8,m,rfl⟩
 ·show Wp _ (G2 (d+2) _) _;rw[abz];exact bZ ⟨aa,g1,le.new⟩
 rw[PW] at *;rw[aK (show(!(k8++[m]).isEmpty)=aw by cases k8 <;> rfl),abq];have iz:(ag++[.list []])[σ.length]? =I (.list (k8.map V.ref++[.ref m])):=by rw[dY]at av;exact cB av
 have g2:=g1.rY (o:=.list (k8.map V.ref)) iz;refine aB λae=>?_;obtain⟨E5,VO,VN⟩:=hw m (iH _ b9);obtain⟨_,_,em⟩:=id E5;obtain⟨t,aP⟩:=O.top em;obtain⟨w,eF⟩:=aP.bg O E5;obtain⟨Qq,ex⟩:=id ak;have cV:(ρ t).size=(ρ m).size:=by rw[S.jl O aP E5]
 have fD:kG ρ k8+(ρ t).size=k:=by rw[cV,<-ar,Df];rfl
 have dA:=T.pos (ρ t);have sB:GS G ρ x N k8:=λq aH=>hw q (jG _ aH);refine ae (al (ly iz aa) (al (S5 iz aE) (al (w_top g2 aP) (al (AQ (g2 t _ eF) (g2 x _ ex)) (al (m:=truth _) aa (d3 (by rw[rG];exact λq=>VN (q ▸ aP)) ?_))))));unfold OI;have f1:((ag++[Mine.Internal.O.list []]).set σ.length (Mine.Internal.O.list (k8.map V.ref)))[σ.length]? =I (.list (k8.map V.ref)):=fV iz;have f2:((ag++[Mine.Internal.O.list []]).set σ.length (Mine.Internal.O.list (k8.map V.ref)))[σ.length+1]? =I (.list (ms.map V.ref)):=ef (by exact gv (jY _)) (cB ay);have cM:cc σ ((ag++[Mine.Internal.O.list []]).set σ.length (Mine.Internal.O.list (k8.map V.ref))):=le.new.jJ (bx _);generalize (ag++[Mine.Internal.O.list []]).set σ.length (Mine.Internal.O.list (k8.map V.ref))=b6 at g2 f1 f2 cM;have rT:GU (HoldsI σ G ρ n x N) (λr ag=>Wp ag (dN r) λv bH=>v=.bool aS/\bU bH G/\cc σ bH) k (bE.next,[I (.ref n),I (.ref x),I (.ref σ.length),I (.ref (σ.length+1)),I (.ref t),cn,eQ,U,U]) b6:=
  ⟨kG ρ k8,by exact cb 0xC10900101421084C520022 aa fD dA,k8,ms,_,_,_,aa,f1,f2,sG,sB,aa,by exact fq 0xFA1F09880080A7300220003E87C2520021 aa hl fD,g2,cM⟩
 have no:∀{s:Str},(s==Str.ofString "record")=aS->(gP.bg w U).word=s->Wp b6 ((cL (aC (d+2)) "word" (.ref t)>>=λRD=>cmp .Eq RD (V.str "record")>>=λRC=>truth RC>>=λZN=>M.cond ZN (cmp .NotIn (.ref t) (.ref (σ.length+1))>>=λRB=>truth RB>>=λZM=>M.cond ZM (pure aw:M Bool) (pure aS:M Bool)) (pure aS:M Bool))) λb τ=>b=aS/\τ=b6:=λ{s} az hw=>by
  refine al (fW (g2 t _ eF)) (al fm (al (m:=truth _) aa (d3 (by rw[hw];exact az) (bZ ⟨aa,aa⟩))))
 induction w with
 |bo=>exact Wp.step (no (by decide +kernel) aa) λb τ a8=>by obtain⟨au,lK⟩:=a8;subst au lK;exact bZ rT
 |num=>exact Wp.step (no (by decide +kernel) aa) λb τ a8=>by obtain⟨au,lK⟩:=a8;subst au lK;exact bZ rT
 |aQ r=>
  refine aB λae=>?_;obtain⟨dC,Ys⟩:=(g2 t _ eF).inst;obtain⟨c,aA⟩:=QR (x:=t) ⟨_,_,Ys⟩ (MK g2 sG);refine ae (Wp.step (P:=λb τ=>b = !c/\τ=b6) (al (fW (g2 t _ eF)) (al fm (al (m:=truth _) aa (gD (show(Str.ofString "record" == Str.ofString "record")=aw by decide +kernel) (al (Dx f2 aA) (al (m:=truth _) aa ?_)))))) λb bH a8=>?_)
  ·induction c with
   |true=>exact bZ ⟨aa,aa⟩
   |false=>exact bZ ⟨aa,aa⟩
  ·obtain⟨au,lK⟩:=a8;subst au lK
   induction c with
   |true=>exact bZ rT
   |false=>
    refine aB λae=>?_;obtain⟨aD,last,w,aX⟩:=Row.ex O S (O.aQ eF);exact ae (VG O S bd sA EK g2 aE eF (by rw[cV];exact VO) aX ak fD f1 f2 sG sB hl cM (α:=V) (K:=λaf=>M.bad) (Q:=λaf aJ=>True))
end
section
variable {n m t x y:Nat}{b:Option Nat}{v:V}{τ:Nat->R}{now:V}
theorem Top.self(e:G x=I aF)(au:aF.s8=U)(h:Top G x t):t=x:=((Top.here e au).uniq h).symm
theorem Iu(O:bV G)(S:bb bK bR G)(bd:d7 1000 bK bR G)(g:bU σ G)(aE:0<σ.length)(ak:G x=I (.bg .bo U))(a9:G y=I (.bg w U))(cv:x≠y)(he:bK x=bK y) :
  Wp σ (bc (d+4) "become" [.ref x,.ref y,now]) λv ag=>v=.none/\bU ag (put G x (.bg .bo (I y)))/\cc σ ag:=by
 rw[abK];refine Wp.step (P:=λc ag=>c=aS/\bU ag G/\cc σ ag) ?_ λc ag a8=>?_
 ·refine al (fW (g y _ a9)) (al fm (al (m:=truth _) aa ?_))
  induction w with
  |bo=>exact d3 (by decide +kernel) (bZ ⟨aa,g,.refl⟩)
  |num=>exact d3 (by decide +kernel) (bZ ⟨aa,g,.refl⟩)
  |aQ r=>
   refine gD (show(Str.ofString "record" == Str.ofString "record")=aw by decide +kernel) (Wp.step (Ip (N:=(bK x).size) O S bd g aE ⟨_,_,a9⟩ ⟨_,ak⟩ (λaf=>bx _) (λh=>(C7 ⟨_,_,ak⟩ h).elim) (by rw[he];exact bx _) λh=>cv (Top.self a9 aa h)) λv ag a8=>?_);obtain⟨aM,ck,le⟩:=a8;subst aM;exact al (m:=truth _) aa (d3 aa (bZ ⟨aa,ck,le⟩))
 ·obtain⟨aA,ck,le⟩:=a8;refine d3 aA ?_;refine aB λae=>?_;obtain⟨b6,e,g2,cM⟩:=yX (d:=d+3) ck ak (I y);exact ae (al (m:=dT _ _ _ _) e (bZ ⟨aa,g2,le.trans cM⟩))
theorem wD{α:Type}{l:List α}{i:Nat}{p:α}(h:l.reverse[i]? =I p):(l.reverse.take (i+1)).reverse=p::(l.reverse.take i).reverse:=by
 rw[jg,h,PI];rfl
theorem Ir{aD:jF}{ls:List (Str×Nat)}{fK q1 cy:Nat}(O:bV G)(S:bb bK bR G)(bd:d7 1000 bK bR G)(g:bU σ G)(aE:0<σ.length)(ak:G x=I (.tail .bo U))
  (aZ:σ[fK]? =I (.dict cy (cu aD))) (hl:σ[q1]? =I (.list (ls.map λp=>V.str p.1))) (uO:∀p∈ls,(c8 λt r=>lk aD p.1=I (t,p.2)/\G t=I (.tail (.cF p.1 p.2 r) U))) (he:bR x=de (vals bK ls) (bR y)) :
  Wp σ (bc (d+4) "become_row" [.ref x,.ref fK,.ref q1,.ref y,now]) λv ag=>v=.none/\(c8 λh a3=>eH (Chain G y ls h a3) (bU ag (put a3 x (.tail .bo (I h)))) (cc σ ag)):=by
 rw[abL];have Mc:∀p∈ls,dF (cu aD) (.inr p.1)=I (.ref (((lk aD p.1).getD (0,0)).1)):=λp hp=>by
  refine aB λae=>?_;obtain⟨t,r,e,_⟩:=uO p hp;refine ae ?_;rw[rQ,e];rfl
 refine al (nw hl) (jz (l:=ls.map λp=>V.str p.1) (J:=λτ=>τ[q1]? =I (.list (ls.map λp=>V.str p.1))) aa (nf λaf h=>h) (λi loc ag=>bU ag G/\cc σ ag/\(∃o,loc=[I (.ref x),I (.ref fK),I (.ref q1),I (.ref y),I now,o,U,U,U,U,U])) (λi loc ag h=>h.2.1.list hl) ⟨g,.refl,_,aa⟩ ?_ ?_)
 ·rintro i v loc ag aM ⟨ck,le,o,rfl⟩;rw[abN];replace aM:=e6 ▸ aM;refine aB λae=>?_;obtain⟨p,hp,rfl⟩:=eU.mp aM;have hp:=ee hp;obtain⟨t,r,av,ay⟩:=uO p hp;obtain⟨ar,_,_⟩:=O.cF ay;have cV:1+(bK p.2).size<=(bR x).size:=by rw[he];exact Dg (p:=(p.1,bK p.2)) (ez.mpr ⟨p,hp,aa⟩)
  refine ae (al (lz (key:=.inr p.1) (le.dict aZ) aa (Mc p hp)) ?_);rw[av];refine al (ua (ck t _ ay)) (Wp.step (Ip (N:=(bR x).size) O S bd ck (d4 aE le.len) ar ⟨_,ak⟩ (λh=>(C7 h ⟨_,_,ak⟩).elim) (λaf=>bx _) (by exact bF 0x14810148108021 aa cV) λh=>?_) λc i7 a8=>?_)
  ·obtain⟨w,e⟩:=h.bg O ar;replace e:=ak ▸ e;cases e
  ·obtain⟨aA,Xa,mI⟩:=a8;subst aA;exact al (m:=truth _) aa (d3 aa (bZ ⟨Xa,le.trans mI,_,aa⟩))
 ·rintro loc ag ⟨ck,le,o,rfl⟩;rw[abP];refine al (JT (le.list hl)) (jz (l:=(ls.map λp=>V.str p.1).reverse) (J:=λτ=>τ[q1]? =I (.list (ls.map λp=>V.str p.1))) aa (Qx (λaf h=>h) aa) (λi loc ag=>c8 λh a3=>hA (Chain G y (ls.reverse.take i).reverse h a3) (bU ag a3) (cc σ ag) ((∃o,loc=[I (.ref x),I (.ref fK),I (.ref q1),I (.ref y),I now,o,I (.ref h),U,U,U,U]))) (λi loc ag a8=>by obtain⟨_,_,_,_,l,_⟩:=a8;exact l.list hl) ⟨y,G,.nil,ck,le,_,aa⟩ ?_ ?_)
  ·rintro i v loc b6 aM ⟨h,gF,c,g2,cM,o,rfl⟩;rw[abM];replace aM:=e6 ▸ (j1 (vR ..)) ▸ aM;refine aB λae=>?_;obtain⟨p,hp,rfl⟩:=eU.mp aM;have lN:p∈ls:=B5.mp (ee hp);obtain⟨t,r,av,ay⟩:=uO p lN;have aI:=lz (v:=.str p.1) (key:=.inr p.1) (cM.dict aZ) aa (Mc p lN);replace aI:=av ▸ aI;have eF:=g2 t _ (c.same ay);obtain⟨u,aY⟩:=r5 (d:=d+3) eF;refine ae (al aI (al (ua eF) (al aI (al aY ?_))));refine aB λae=>?_;obtain⟨n,dq,dB,ao,g3,dW⟩:=w_field (d:=d+1) g2 (d4 aE cM.len) p.1 p.2 h u;refine ae (al (m:=bc _ _ _) dB (bZ ⟨n,_,?_,g3,cM.trans dW,_,aa⟩));rw[wD hp];exact .cons c ao
  ·rintro loc b6 ⟨h,gF,c,g2,cM,o,rfl⟩;rw[abO];replace c:=(PH ..) ▸ (iG ..) ▸ (j1 (qr ..)) ▸ (bC ..) ▸ (qr ..) ▸ c;refine aB λae=>?_;obtain⟨dq,dB,g3,dW⟩:=yX (d:=d+3) g2 (c.same ak) (I h);exact ae (al (m:=dT _ _ _ _) dB (bZ ⟨aa,h,gF,c,g3,cM.trans dW⟩))
theorem Bg:∀ss:List Str,allStrs (ss.map V.str)=I ss:=by
 intro cO
 induction cO with
 |nil=>exact aa
 |cons s ss Bg=>
  refine(?_:(allStrs (ss.map V.str)).map (s :: ·)=_);rw[Bg];rfl
theorem wk:zi (ss.map V.str)=I ((fg ss).map V.str):=by unfold zi;rw[Bg];rfl
theorem kc:(cu aD).map (λp=>h7 p.1)=(aD.map (·.1)).map V.str:=by unfold cu;rw[gw,gw];rfl
theorem kK:lk (kinds aD) l=(lk aD l).map (·.2):=D6
theorem qX{gn α:Type}[DecidableEq gn] {aD:List (gn×α)}{l:gn}:(lk aD l).isSome=aw↔l∈aD.map (·.1):=by
 rw[Option.isSome_iff_ne_none,ne_eq,nB];exact Classical.not_not
theorem y7:(dF (cu aD) (.inr l)).isSome=(lk aD l).isSome:=by rw[rQ,aeZ]
theorem zP{x y:Str}:∀{l:List Str},y∈iM x l↔y=x\/y∈l:=by
 intro cO
 induction cO with
 |nil=>
  refine(?_:y∈[x]↔_);rw[bN];exact⟨.inl,λh=>h.elim id λh=>nomatch h⟩
 |cons z l zP=>
  rw[uc];by_cases c:strLt z x=aw
  ·rw[aK c,List.mem_cons,zP,List.mem_cons];exact⟨λh=>h.elim (λh=>.inr (.inl h)) λh=>h.elim .inl λh=>.inr (.inr h),λh=>h.elim (λh=>.inr (.inl h)) λh=>h.elim .inl λh=>.inr (.inr h)⟩
  ·rw[aR c,List.mem_cons]
theorem qV{y:Str}:∀{l:List Str},y∈fg l↔y∈l:=by
 intro cO
 induction cO with
 |nil=>exact HT
 |cons x l qV=>
  rw[show fg (x::l)=iM x (fg l) from aa,zP,qV,List.mem_cons]
theorem DR{x:Str}:∀{l:List Str},x∉l->l.Nodup->(iM x l).Nodup:=by
 intro cO
 induction cO with
 |nil=>intro _ _;exact hV.mpr ⟨List.not_mem_nil,mr⟩
 |cons z l DR=>
  intro ak aF;rw[uc];rw[hV]at aF;by_cases c:strLt z x=aw
  ·rw[aK c,hV,zP];exact⟨λh=>h.elim (λh=>ak (h ▸ b9)) aF.1,DR (λh=>ak (dz _ h)) aF.2⟩
  ·rw[aR c,hV,hV];exact⟨ak,aF⟩
theorem DQ:∀{l:List Str},l.Nodup->(fg l).Nodup:=by
 intro cO
 induction cO with
 |nil=>intro _;exact mr
 |cons x l DQ=>
  intro aF;rw[hV]at aF;exact DR (λh=>aF.1 (qV.mp h)) (DQ aF.2)
theorem D8{x:Str}:∀{l:List Str},(iM x l).length=l.length+1:=by
 intro cO
 induction cO with
 |nil=>exact aa
 |cons z l D8=>
  rw[uc];by_cases c:strLt z x=aw
  ·rw[aK c,pe,D8];rfl
  ·rw[aR c];rfl
theorem si:∀{l:List Str},(fg l).length=l.length:=by
 intro cO
 induction cO with
 |nil=>exact aa
 |cons x l si=>
  rw[show fg (x::l)=iM x (fg l) from aa,D8,si];rfl
theorem QC{aD gs:jF}{la c2 fK iP cy fI:Nat}{w w':TW}(g:bU σ G)(aV:G la=I (.tail w U))(au:G c2=I (.tail w' U))(aZ:σ[fK]? =I (.dict cy (cu aD)))(hg:σ[iP]? =I (.dict fI (cu gs)))
  (hl:aD.length+gs.length<64) (h1:∀l,(lk aD l).isSome=aw->(lk gs l).isSome=aS->w'≠.fin) (h2:∀l,(lk gs l).isSome=aw->(lk aD l).isSome=aS->w≠.fin) :
  Wp σ (bc (d+1) "need_room" [.ref fK,.ref la,.ref iP,.ref c2]) λv ag=>v=.none/\bU ag G/\cc σ ag:=by
 rw[aaH];have no:∀{w:TW},w≠.fin->(w.word==Str.ofString "end")=aS:=λ{w} h=>by
  induction w using TW.casesOn with
  |fin=>exact absurd aa h
  |bo=>decide +kernel
  |cF l k r=>exact(show(Str.ofString "label" == Str.ofString "end")=aS by decide +kernel)
 refine al (zx aZ) (al (zx (cB hg)) (al (DA (cB cP) cP ?_) (al (wH cP ?_ (by rw[kc,kc,<-dY];exact wk)) ?_)))
 ·rw[kc,kc,bC,bC,bC,bC];have:sizeLine=16777216:=rfl;exact cb 0x31480082000001F09823103C1084A400021 aa hl this
 ·rw[kc,kc,dp,bC,bC,bC,bC];exact hl
 rw[kc,kc];have le:cc σ (σ++[.list ((aD.map (·.1)).map V.str)]++[.list ((gs.map (·.1)).map V.str)]++[.list ((aD.map (·.1)).map V.str++(gs.map (·.1)).map V.str)]++[.list ((fg (aD.map (·.1)++gs.map (·.1))).map V.str)]):=cc.push.new.new.new;have ck:=g.push (o:=.list ((aD.map (·.1)).map V.str)) |>.push (o:=.list ((gs.map (·.1)).map V.str)) |>.push (o:=.list ((aD.map (·.1)).map V.str++(gs.map (·.1)).map V.str)) |>.push (o:=.list ((fg (aD.map (·.1)++gs.map (·.1))).map V.str));have pU:(σ++[.list ((aD.map (·.1)).map V.str)]++[.list ((gs.map (·.1)).map V.str)]++[.list ((aD.map (·.1)).map V.str++(gs.map (·.1)).map V.str)]++[.list ((fg (aD.map (·.1)++gs.map (·.1))).map V.str)])[(σ++[.list ((aD.map (·.1)).map V.str)]++[.list ((gs.map (·.1)).map V.str)]++[.list ((aD.map (·.1)).map V.str++(gs.map (·.1)).map V.str)]:aN).length]? =some (.list ((fg (aD.map (·.1)++gs.map (·.1))).map V.str)):=cP;generalize (σ++[O.list ((aD.map (·.1)).map V.str)]++[O.list ((gs.map (·.1)).map V.str)]++[O.list ((aD.map (·.1)).map V.str++(gs.map (·.1)).map V.str)]:aN).length=ae at pU ⊢;generalize (σ++[O.list ((aD.map (·.1)).map V.str)]++[O.list ((gs.map (·.1)).map V.str)]++[O.list ((aD.map (·.1)).map V.str++(gs.map (·.1)).map V.str)]++[O.list ((fg (aD.map (·.1)++gs.map (·.1))).map V.str)]:aN)=b6 at pU le ck ⊢;refine al (nw pU) (jz (l:=(fg (aD.map (·.1)++gs.map (·.1))).map V.str) (J:=λτ=>τ=b6) aa (nf λτ h=>by rw[h];exact pU) (λi loc ag=>ag=b6/\(∃o,loc=[I (.ref fK),I (.ref la),I (.ref iP),I (.ref c2),o,U,U,U])) (λi loc ag h=>h.1) ⟨aa,_,aa⟩ ?_ ?_)
 ·rintro i v loc ag aM ⟨rfl,o,rfl⟩;rw[aaI];rw[e6]at aM;obtain⟨l,fv,rfl⟩:=eU.mp aM;have LQ:(lk aD l).isSome=aw\/(lk gs l).isSome=aw:=(gb.mp (qV.mp (ee fv))).imp qX.mpr qX.mpr;refine Wp.step (P:=λc τ=>c=aS/\τ=ag) ?_ λc τ a8=>?_
  ·refine al (Dw (key:=.inr l) (le.dict hg) aa) (al (m:=truth _) aa ?_);rw[y7]
   induction aH:(lk gs l).isSome with
   |true=>exact d3 aa (bZ ⟨aa,aa⟩)
   |false=>exact gD aa (al (fW (ck c2 _ au)) (al fm (al (m:=truth _) aa (d3 (no (h1 l (LQ.resolve_right (by rw[aH];exact nofun)) aH)) (bZ ⟨aa,aa⟩)))))
  ·obtain⟨aA,lK⟩:=a8;subst lK;refine d3 aA ?_;unfold Oy;refine Wp.step (P:=λc bH=>c=aS/\bH=τ) ?_ λc bH a8=>?_
   ·refine al (Dw (key:=.inr l) (le.dict aZ) aa) (al (m:=truth _) aa ?_);rw[y7]
    induction aH:(lk aD l).isSome with
    |true=>exact d3 aa (bZ ⟨aa,aa⟩)
    |false=>exact gD aa (al (fW (ck la _ aV)) (al fm (al (m:=truth _) aa (d3 (no (h2 l (LQ.resolve_left (by rw[aH];exact nofun)) aH)) (bZ ⟨aa,aa⟩)))))
   ·obtain⟨aA,Vf⟩:=a8;subst Vf;exact d3 aA (bZ ⟨aa,_,aa⟩)
 ·rintro loc ag ⟨rfl,o,rfl⟩;rw[aaJ];exact bZ ⟨aa,ck,le⟩
end
section
variable {n m t x y a b:Nat}{v:V}{τ:Nat->R}{now:V}
noncomputable def T.row:T->R
 |.aQ r=>r
 |_=>.nil
def Rec(G:dr)(n r:Nat):Prop:=(∃t,Top G n t/\G t=I (.bg (.aQ r) U))
theorem Rec.eE(O:bV G)(h:Rec G n r):cq G n:=by
 obtain⟨t,aP,e⟩:=h
 induction aP with
 |here _ _=>exact⟨_,_,e⟩
 |@there _ m _ aF aG b h=>
  induction aF with
  |bg w b=>exact⟨_,_,aG⟩
  |tail w c=>
   have b:c=I m:=b;subst b;obtain⟨_,ay⟩:=h.tail O (O.dj aG);replace ay:=e ▸ ay;cases ay
theorem Rec.sol(O:bV G)(S:bb ρ τ G)(h:Rec G n r):ρ n=.aQ (τ r):=by
 obtain⟨t,aP,e⟩:=id h;rw[S.jl O aP (h.eE O)];exact(S.bg e).1
theorem bV.SY(O:bV G)(h:Top G n t):∀{r b},G n=I (.bg (.aQ r) b)->(∃bI,G t=I (.bg (.aQ bI) U)):=by
 induction h with
 |@here n aF e au=>intro r b aG;replace aG:=e ▸ aG;cases aG;cases au;exact⟨_,e⟩
 |@there n m t aF e au h aj=>
  intro r b aG;replace aG:=e ▸ aG;cases aG;cases au;obtain⟨_,_,ay⟩:=O.cO e;exact aj ay
theorem Rec.ex{r:Nat}{b:Option Nat}(O:bV G)(e:G n=I (.bg (.aQ r) b)):(∃bI,Rec G n bI):=by
 obtain⟨t,aP⟩:=O.top e;obtain⟨bI,aG⟩:=O.SY aP e;exact⟨bI,t,aP,aG⟩
noncomputable def cnt(ds:List Str):R->Nat
 |.nil=>0
 |.b5 _=>0
 |.fld l _ r=>(if l∈ds then 0 else 1)+cnt ds r
theorem Ze{ds:List Str}{r:R}:cnt ds r<=r.len:=by
 induction r using R.ind with
 |aE=>exact bx _
 |h1 n=>exact bx _
 |h2 l t r aj=>
  refine(?_:(if l∈ds then 0 else 1)+cnt ds r<=1+r.len);by_cases h:l∈ds
  ·rw[aK h];exact bF 0xA1080800802029021 aa aj
  ·rw[aR h];exact bF 0xA1080810802029021 aa aj
theorem Zf:cnt (ds++[l]) r<=cnt ds r:=by
 induction r using R.ind with
 |aE=>exact bx _
 |h1 n=>exact bx _
 |h2 m t r aj=>
  refine(?_:(if m∈ds++[l] then 0 else 1)+cnt (ds++[l]) r<=(if m∈ds then 0 else 1)+cnt ds r);by_cases h:m∈ds
  ·rw[aK h,aK (jG _ h)];exact bF 0xA0080800802029021 aa aj
  ·rw[aR h];by_cases h':m∈ds++[l]
   ·rw[aK h'];exact bF 0xA1080800802029021 aa aj
   ·rw[aR h'];exact bF 0xA1080810802029021 aa aj
theorem Zd(hl:r.look l≠U)(hd:l∉ds):cnt (ds++[l]) r<cnt ds r:=by
 induction r using R.ind with
 |aE=>exact absurd aa hl
 |h1 n=>exact absurd aa hl
 |h2 m t r aj=>
  refine(?_:(if m∈ds++[l] then 0 else 1)+cnt (ds++[l]) r<(if m∈ds then 0 else 1)+cnt ds r);have h2:=Zf (ds:=ds) (l:=l) (r:=r);by_cases e:m=l
  ·subst e;rw[aK (iH _ b9),aR hd];exact bF 0x508401090010002029021 aa h2
  ·rw[R.sf]at hl;rw[aR e]at hl;have h1:=aj hl;by_cases h:m∈ds
   ·rw[aK h,aK (jG _ h)];exact bF 0x2802008480080010142120021 aa h1
   ·rw[aR h];by_cases h':m∈ds++[l]
    ·rw[aK h'];exact bF 0x2842008480080010142120021 aa h1
    ·rw[aR h'];exact bF 0x2842008481080010142120021 aa h1
theorem Cs:∀ss:List Str,j5 σ (.str s) (ss.map V.str)=I (decide (s∈ss)):=by
 intro cO
 induction cO with
 |nil=>
  rw[jf (List.not_mem_nil)];rfl
 |cons y ss Cs=>
  refine(?_:(match ej σ (.str y) (.str s),j5 σ (.str s) (ss.map V.str) with|some e,some t=>I (e || t)|_,_=>U)=_);rw[Cs];refine(?_:I ((y==s) || decide (s∈ss))=_);by_cases e:y=s
  ·subst e;rw[k6,m6 (b9)];rfl
  ·rw[rG.mpr e,afU];congr 1;exact decide_eq_decide.mpr ⟨dz _,λh=>(List.mem_cons.mp h).resolve_left λq=>e q.symm⟩
theorem y6:∀ss:List Str,gS f (ss.map V.str)=I (ss.map PyData.str):=by
 intro cO
 induction cO with
 |nil=>exact aa
 |cons s ss y6=>
  refine(?_:(match ox f (.str s),gS f (ss.map V.str) with|some d,some ds=>I (d::ds)|_,_=>U)=_);rw[y6];rfl
theorem QV{k j:Nat}{ss:List Str}(h:σ[k]? =I (.list (ss.map V.str)))(h':σ[j]? =I (.list [])):ej σ (.ref k) (.ref j)=I ss.isEmpty:=by
 unfold ej;rw[show toPy σ (.ref k)=_ from pn (k:=3) h,show toPy σ (.ref j)=_ from pn (k:=3) h',y6]
 induction ss using List.casesOn with
 |nil=>rfl
 |cons s ss=>
  refine(?_:(if min (PyData.list (PyData.str s::ss.map PyData.str)).depth (PyData.list []).depth<=200 then I (PyData.eqv (.list (.str s::ss.map .str)) (.list [])) else U)=_);rw[aK (b0 (B2 _ _) (by decide +kernel))];rfl
def Oq(a b:Nat)(ds:List Str)(ρ:Nat->T)(τ:Nat->R):Prop:=∀l∈ds,(ρ a).row.look l=(ρ b).row.look l
def JoinOk(s d:Nat):Prop:=∀{σ:aN}{G:dr}{bK:Nat->T}{bR:Nat->R}{a b:Nat}{now:V},bV G->c6 G->bb bK bR G->d7 1000 bK bR G->bU σ G->0<σ.length->cq G a->cq G b->bK a=bK b->(bK a).size<=s ->
 Wp σ (bc d "join" [.ref a,.ref b,now]) λv ag=>v=.none/\(∃a3,eH (Step G a3 (λρ af=>ρ a=ρ b)) (bU ag a3) (cc σ ag))
def Z6(σ:aN)(G:dr)(bK:Nat->T)(bR:Nat->R)(a b:Nat)(now:V)(k:Nat)(loc:Loc)(ag:aN):Prop:=
 (Pm λ(ds:List Str) (bS:Option V) (cn:Option V) (eQ:Option V) (lD:Option V) (qO:Option V) (a3:dr) (aU:Nat->T) (bH:Nat->R)=>Pq (loc=[I (.ref a),I (.ref b),I now,I (.ref σ.length),bS,cn,eQ,lD,qO,U,U,U,U]) (ag[σ.length]? =I (.list (ds.map V.str))) (Step G a3 (Oq a b ds)) (bU ag a3) (cc σ ag) (bb aU bH a3) (Agree aU bH bK bR G) (d7 1000 aU bH a3) (k=cnt ds (bK a).row) (ds.length+k<=30))
def Z5(σ:aN)(G:dr)(a b:Nat)(v:V)(ag:aN):Prop:=v=.none/\(c8 λa3 ds=>hA (Step G a3 (Oq a b ds)) (bU ag a3) (cc σ ag) ((Pn λbf bO aD gs la c2 w w'=>eH (Rec a3 a bf) (Rec a3 b bO) (hQ a3 bf bO aD gs la c2 w w'))))
theorem zu(O:bV G)(S:bb ρ τ G)(bd:d7 1000 ρ τ G)(aX:Row G r aD last w):aD.length<=30:=by
 have h1:=(bd.2 r (aX.lI O)).len;rw[(aX.sol O S).1,D9]at h1;unfold vals kinds at h1;rw[bC,bC]at h1;exact bF 0x7BC120400F782520021 aa h1
theorem QB{s bf bO:Nat}(Hh:JoinOk (s-2) (d+2))(O:bV G)(H:c6 G)(S:bb bK bR G)(bd:d7 1000 bK bR G)(g:bU σ G)(aE:0<σ.length)(aV:G a=I (.bg (.aQ bf) U))(au:G b=I (.bg (.aQ bO) U))(he:bK a=bK b)(az:(bK a).size<=s) :
  Wp σ (bc (d+3) "join_shared" [.ref a,.ref b,now]) (Z5 σ G a b):=by
 rw[aaY];refine al (m:=cH _) aa (Of (Z6 σ G bK bR a b now) (k:=cnt [] (bK a).row) ⟨[],U,U,U,U,U,G,bK,bR,aa,cP,Step.same O H (λaf=>nofun),g.push,.push,S,.refl,bd,aa,?_⟩ ?_)
 ·have h1:bK a=.aQ (bR bf):=(S.bg aV).1;have h2:=Ze (ds:=[]) (r:=(bK a).row);have h3:=(bd.2 bf (O.aQ aV)).len;rw[h1]at h2 ⊢;show 0+_<=_;exact b0 (by rw[kx];exact h2) h3
 intro k loc ag dh;refine aB λae=>?_;obtain⟨ds,bS,cn,eQ,lD,qO,a3,aU,bH,rfl,p5,st,ck,le,bG,A,Bc,ar,hlen⟩:=dh;refine ae ?_;rw[aaW];refine al (m:=truth _) aa (bZ ?_);rw[aK aa,aaX];have et:=st.ok;have dA:0<ag.length:=d4 aE le.len;refine aB λae=>?_;obtain⟨_,cG⟩:=st.grow.bg aV;obtain⟨_,dJ⟩:=st.grow.bg au;obtain⟨ny,nO⟩:=Rec.ex et cG;obtain⟨qM,nN⟩:=Rec.ex et dJ;obtain⟨gT,nI,eta⟩:=id nO;obtain⟨dj,sD,ib⟩:=id nN;obtain⟨aD,la,w,iR⟩:=Row.ex et bG (et.aQ eta);obtain⟨gs,c2,w',nM⟩:=Row.ex et bG (et.aQ ib);have wY:=(iR.sol et bG).2.1;have wX:=(nM.sol et bG).2.1;have qZ:=zu et bG Bc iR;have ux:=zu et bG Bc nM;refine ae (al (tU ck dA nI eta iR wY (by exact cp 0x3E8F0481003DE09021 aa qZ)) (al gI (al (tU ck.push (by rw[dp];exact bF 0xA400420080202042008021 aa dA) sD ib nM wX (by exact cp 0x3E8F0481003DE09021 aa ux)) (al gI ?_))));have g0:(ag++[.dict aD.length (cu aD)]:aN).length=ag.length+1:=by simp
 rw[g0];have av:(ag++[.dict aD.length (cu aD)]++[.dict gs.length (cu gs)]:aN)[ag.length]? =I (.dict aD.length (cu aD)):=cB cP;have ay:(ag++[.dict aD.length (cu aD)]++[.dict gs.length (cu gs)]:aN)[ag.length+1]? =I (.dict gs.length (cu gs)):=by rw[<-g0];exact cP
 have u6:(ag++[.dict aD.length (cu aD)]++[.dict gs.length (cu gs)]:aN)[σ.length]? =I (.list (ds.map V.str)):=cB (cB p5);have g2:=(ck.push (o:=.dict aD.length (cu aD))).push (o:=.dict gs.length (cu gs));have cM:cc σ (ag++[.dict aD.length (cu aD)]++[.dict gs.length (cu gs)]):=le.new.new;generalize (ag++[Mine.Internal.O.dict aD.length (cu aD)]++[Mine.Internal.O.dict gs.length (cu gs)]:aN)=b6 at av ay u6 g2 cM ⊢
 let keep:Str->Bool:=λl=>(lk gs l).isSome && !decide (l∈ds)
 refine al (Du av) (th (l:=(cu aD).map λp=>h7 p.1) (ur:=[U,U,I (.ref σ.length),I (.ref (ag.length+1))]) aa (Cn λτ lK=>by subst lK;unfold my;rw[av]) aa0 (aa1 ..) ?_ (λloc=>(∃o,loc=[U,o,I (.ref σ.length),I (.ref (ag.length+1))])) ⟨_,aa⟩ (λv=>match v with|.str l=>if keep l=aw then I (.str l) else U|_=>U) ?_ ?_)
 ·rw[kc,bC,bC];exact b0 qZ (by decide +kernel)
 ·intro v loc aM dh;refine aB λae=>?_;obtain⟨o,rfl⟩:=dh;rw[kc]at aM;obtain⟨l,_,rfl⟩:=ez.mp aM;refine ae ?_;refine⟨_,by rw[aa3];rfl,⟨_,aa⟩,keep l,?_,?_⟩
  ·rw[aaZ];refine(a4 (Td (key:=.inr l) ay aa)).trans ((a4 (m:=truth _) aa).trans ?_);rw[y7];show(M.cond (lk gs l).isSome _ _) b6=.ok ((lk gs l).isSome && !decide (l∈ds)) b6
   induction (lk gs l).isSome with
   |false=>rfl
   |true=>
    refine(a4 (Dx u6 (Cs ds))).trans ((a4 (m:=truth _) aa).trans ?_);cases decide (l∈ds) <;> rfl
  ·induction h9:keep l with
   |true=>exact⟨.str l,by rw[aa2];rfl,by show(if keep l=aw then _ else _)=_;rw[h9];rfl⟩
   |false=>show(if keep l=aw then _ else _)=_;rw[h9];rfl
 have nT:((cu aD).map λp=>h7 p.1).filterMap (λv=>match v with|.str l=>if keep l=aw then I (V.str l) else U|_=>U)=((aD.map (·.1)).filter keep).map V.str:=by
  rw[kc];generalize aD.map (·.1)=ls
  induction ls with
  |nil=>rfl
  |cons l ls aj=>
   rw[ea,HN,afz];dsimp only;by_cases h9:keep l=aw
   ·rw[aK h9,aK h9];exact ff (V.str l :: ·) aj
   ·rw[aR h9,aR h9];exact aj
 rw[nT];generalize Fb:(aD.map (·.1)).filter keep=nD;have VZ:nD.length<=30:=by rw[<-Fb];exact b0 (afx _ _) (by rw[bC];exact qZ)
 refine al (wH cP (by rw[bC];exact cp 0x20782109001003DE09021 aa VZ) wk) (al (m:=cH _) aa (al (r6 (QV (cB cP) cP)) (al (m:=truth _) aa ?_)))
 induction fY:fg nD using List.casesOn with
 |nil=>
  have WQ:nD=[]:=afA (by rw[<-si,fY];rfl);have Sr:∀{ρ τ},bb ρ τ a3->∀m i j,lk (kinds aD) m=I i->lk (kinds gs) m=I j->ρ i=ρ j:=λ{ρ τ} S m i j h1 h2=>by
   have hm:m∈ds:=by
    by_cases hd:m∈ds
    ·exact hd
    ·have:m∈nD:=by
      rw[<-Fb,PM];refine⟨qX.mp ?_,?_⟩
      ·rw[kK]at h1
       induction h:lk aD m with
       |none=>rw[h]at h1;exact a5 h1
       |some _=>rfl
      ·show((lk gs m).isSome && !decide (m∈ds))=aw;rw[kK]at h2
       induction h:lk gs m with
       |none=>rw[h]at h2;exact a5 h2
       |some _=>rw[jf hd];rfl
     rw[WQ]at this;cases this
   have h3:=st.back S m hm;rw[nO.sol et S,nN.sol et S]at h3;have h3:(τ ny).look m=(τ qM).look m:=h3;rw[iR.look et S,nM.look et S,h1,h2]at h3;exact gm h3
  refine gD aa (bZ ?_);exact bZ ⟨aa,a3,ds,st,g2.push.push.push,cM.new.new.new,ny,qM,aD,gs,la,c2,w,w',nO,nN,iR,nM,et,Sr⟩
 |cons l KT=>
  refine d3 aa ?_;unfold OC;have ju:l∈nD:=qV.mp (by rw[fY];exact b9);rw[<-Fb,PM]at ju;refine aB λae=>?_;obtain⟨oQ,gh⟩:=ju;have gh:((lk gs l).isSome && !decide (l∈ds))=aw:=gh;rw[Bool.and_eq_true]at gh;have VX:l∉ds:=by intro h;rw[m6 h]at gh;exact qw gh.2
  obtain⟨⟨t1,i⟩,h1⟩:=m7.mp (qX.mpr oQ);obtain⟨⟨bp,j⟩,h2⟩:=m7.mp gh.1;obtain⟨cR,eZ⟩:=iR.ent _ (kJ h1);obtain⟨h0,n2⟩:=nM.ent _ (kJ h2);have eZ:a3 t1=I (.tail (.cF l i cR) U):=eZ;have n2:a3 bp=I (.tail (.cF l j h0) U):=n2;have f1:dF (cu aD) (.inr l)=I (.ref t1):=by rw[rQ,h1];rfl
  have f2:dF (cu gs) (.inr l)=I (.ref bp):=by rw[rQ,h2];rfl
  refine ae ?_;generalize Ac:(b6++[Mine.Internal.O.list (nD.map V.str)]++[Mine.Internal.O.list ((l::KT).map V.str)]++[Mine.Internal.O.list []]:aN)=dq;have sJ:∀{n o},b6[n]? =I o->dq[n]? =I o:=λh=>by subst Ac;exact cB (cB (cB h))
  have dB:dq[(b6++[Mine.Internal.O.list (nD.map V.str)]:aN).length]? =I (.list (V.str l::KT.map V.str)):=by subst Ac;exact cB cP
  have g3:bU dq a3:=g2.le sJ;have dW:cc σ dq:=by subst Ac;exact cM.new.new.new
  refine al (ir (i:=0) dB (by decide) aa) (al (ly (sJ u6) aa) (al (oD (sJ u6) aE (by rw[bC];have:sizeLine=16777216:=rfl;exact cb 0xC10900104000003E130460F782520021 aa hlen this)) ?_));have KS:=cE p5;have iz:(dq.set σ.length (.list (ds.map V.str++[.str l])))[ag.length]? =I (.dict aD.length (cu aD)):=ef (by exact gv KS) (sJ av);have oT:(dq.set σ.length (.list (ds.map V.str++[.str l])))[ag.length+1]? =I (.dict gs.length (cu gs)):=ef (by exact λq=>er (bF 0x42108021280811942120021 aa KS q)) (sJ ay);have Nf:(dq.set σ.length (.list (ds.map V.str++[.str l])))[σ.length]? =I (.list ((ds++[l]).map V.str)):=by rw[dY];exact fV (sJ u6)
  have dk:=g3.rY (o:=.list (ds.map V.str++[.str l])) (sJ u6);have d1:cc σ (dq.set σ.length (.list (ds.map V.str++[.str l]))):=dW.jJ (bx _);generalize (dq.set σ.length (Mine.Internal.O.list (ds.map V.str++[.str l])):aN)=iI at iz oT Nf dk d1 ⊢;have Dt:aU a=.aQ (bH ny):=nO.sol et bG;have SZ:aU b=.aQ (bH qM):=nN.sol et bG;have Nh:aU a=aU b:=by rw[A.1 a ⟨_,_,aV⟩,A.1 b ⟨_,_,au⟩,he]
  have D3:(bH ny).look l=I (aU i):=by rw[iR.look et bG,kK,h1];rfl
  have UE:(bH qM).look l=I (aU j):=by rw[nM.look et bG,kK,h2];rfl
  have kT:aU i=aU j:=by
   rw[Dt,SZ]at Nh;rw[T.zv Nh,UE]at D3;exact(gm D3).symm
  have cV:(aU i).size<=s-2:=by
   have d8:1+(aU i).size<=(bH ny).size:=by
    rw[(iR.sol et bG).1];exact Dg (p:=(l,aU i)) (ez.mpr ⟨(l,i),ez.mpr ⟨_,kJ h1,aa⟩,aa⟩)
   have eD:(aU a).size=1+(bH ny).size:=by rw[Dt];rfl
   rw[A.1 a ⟨_,_,aV⟩]at eD;exact Q9 d8 eD (by assumption)
  refine al (lz (key:=.inr l) iz aa f1) (al (ua (dk _ _ eZ)) (al (lz (key:=.inr l) oT aa f2) (al (ua (dk _ _ n2)) ?_)));refine Wp.step (Hh et st.gen bG Bc dk (d4 aE d1.len) (et.cF eZ).1 (et.cF n2).1 kT cV) ?_;intro k9 hb dh;refine aB λae=>?_;obtain⟨_,oh,pv,fc,hn⟩:=dh;have lE:oh t1=I (.tail (.cF l i cR) U):=by obtain⟨cT,e⟩:=pv.grow.tail eZ;rw[(pv.ok.cF e).2.2]at e;exact e
  have mH:oh bp=I (.tail (.cF l j h0) U):=by obtain⟨cT,e⟩:=pv.grow.tail n2;rw[(pv.ok.cF e).2.2]at e;exact e
  obtain⟨jk,pN⟩:=r5 (d:=d+2) (fc _ _ lE);obtain⟨jj,xh⟩:=r5 (d:=d+2) (fc _ _ mH);obtain⟨B9,YN,mQ,w5⟩:=yW (d:=d+2) fc lE (min jk jj);obtain⟨tQ,YM,W3,K2⟩:=yW (d:=d+2) mQ mH (min jk jj);refine ae (al (lz (key:=.inr l) (hn.dict iz) aa f1) (al pN (al (lz (key:=.inr l) (hn.dict oT) aa f2) (al xh (al (m:=oX _ _) aa (al (lz (key:=.inr l) (hn.dict iz) aa f1) (al (m:=dT _ _ _ _) YN (al (lz (key:=.inr l) ((hn.trans w5).dict oT) aa f2) (al (m:=dT _ _ _ _) YM (bZ ?_))))))))));refine aB λae=>?_;obtain⟨Qc,Qa,vq,aek,kn⟩:=pv.ext bG kT;have E7:(bK a).row.look l≠U:=by
   rw[<-A.1 a ⟨_,_,aV⟩,Dt];show(bH ny).look l≠U;rw[D3];exact nofun
  have fu:=Zd E7 VX;refine ae ?_;refine⟨cnt (ds++[l]) (bK a).row,by rw[ar];exact fu,ds++[l],_,_,_,_,_,oh,Qc,Qa,aa,(hn.trans (w5.trans K2)).list Nf,?_,W3,d1.trans (hn.trans (w5.trans K2)),vq,A.trans st.grow aek,kn 1000 Bc,aa,by rw[dp];exact show ds.length+1+_<=_ from fq 0x7BC138426000202842700420F78243002129023 aa ar hlen fu⟩;refine st.trans pv (λ{ρ τ aU bH} e3 gk q=>⟨λm hm=>q m (jG _ hm),λgN=>?_⟩) λ{ρ τ} e3 m hm=>?_
  ·have q:=q l (iH _ b9);rw[<-gk.1 a ⟨_,_,aV⟩,<-gk.1 b ⟨_,_,au⟩,nO.sol et gN,nN.sol et gN]at q;have q:(bH ny).look l=(bH qM).look l:=q;rw[iR.look et gN,nM.look et gN,kK,kK,h1,h2]at q;exact gm q
  ·rcases gb.mp hm with hm|hm
   ·exact st.back (pv.sol e3) m hm
   ·rw[bN.mp hm];have gN:=pv.sol e3;rw[nO.sol et gN,nN.sol et gN];show(τ ny).look l=(τ qM).look l;rw[iR.look et gN,nM.look et gN,kK,kK,h1,h2];exact ff I (pv.back e3)
end
section
variable {n m t x y a b:Nat}{v:V}{τ:Nat->R}{now:V}
def t6(aD gs:jF):List Str:=fg ((aD.map (·.1)).filter λl=>!(lk gs l).isSome)
def lr(aD gs:jF):List (Str×Nat):=(t6 aD gs).map λl=>(l,((lk aD l).getD (0,0)).2)
theorem D5{f:Str->Nat}:∀{xs:List Str}{m:Str},lk (xs.map λl=>(l,f l)) m=if m∈xs then I (f m) else U:=by
 intro cO
 induction cO with
 |nil=>intro m;exact(aR List.not_mem_nil).symm
 |cons x xs D5=>
  intro m;refine(?_:(if x=m then I (f x) else lk (xs.map λl=>(l,f l)) m)=_);by_cases e:x=m
  ·subst e;rw[aK aa,aK b9]
  ·rw[aR e,D5];by_cases h:m∈xs
   ·rw[aK h,aK (dz _ h)]
   ·rw[aR h,aR (λq=>(List.mem_cons.mp q).elim (λq=>e q.symm) h)]
theorem D0:l∈t6 aD gs↔(lk aD l).isSome=aw/\(lk gs l).isSome=aS:=by
 unfold t6;rw[qV,PM,qX,Bool.not_eq_true']
theorem CX:(lr aD gs).map (·.1)=t6 aD gs:=by
 unfold lr;rw[gw];exact PN _
theorem UR:(lk (kinds aD) l).isSome=(lk aD l).isSome:=by rw[kK,aeZ]
theorem Lb(h:(lk aD l).isSome=aS):lk (kinds aD) l=U:=by
 rw[kK]
 induction e:lk aD l with
 |none=>rfl
 |some p=>rw[e]at h;exact kD h
theorem za{aD gs:jF}(aF:(aD.map (·.1)).Nodup):jB aD gs (lr aD gs):=by
 refine⟨by rw[CX];exact DQ (aF.filter _),λm=>?_⟩;unfold lr;rw[D5,UR,kK];by_cases h:m∈t6 aD gs
 ·refine aB λae=>?_;obtain⟨h1,h2⟩:=D0.mp h;obtain⟨p,e⟩:=m7.mp h1;refine ae ?_;rw[aK h,h2,e];rfl
 ·rw[aR h]
  induction h2:(lk gs m).isSome with
  |true=>rfl
  |false=>
   induction e:lk aD m with
   |none=>rfl
   |some p=>exact absurd (D0.mpr ⟨by rw[e];rfl,h2⟩) h
theorem zb(aX:Row G r aD last w):∀p∈lr aD gs,(c8 λt bI=>lk aD p.1=I (t,p.2)/\G t=I (.tail (.cF p.1 p.2 bI) U)):=λp hp=>by
 refine aB λae=>?_;obtain⟨l,hl,rfl⟩:=ez.mp hp;obtain⟨⟨t,k⟩,e⟩:=m7.mp (D0.mp hl).1;obtain⟨bI,aG⟩:=aX.ent _ (kJ e);refine ae ⟨t,bI,?_,?_⟩
 ·refine(?_:lk aD l=I (t,((lk aD l).getD (0,0)).2));rw[e];rfl
 ·refine(?_:G t=I (.tail (.cF l ((lk aD l).getD (0,0)).2 bI) U));rw[e];exact aG
theorem bU.drop(g:bU σ (put G z aF))(hz:G z=U):bU σ G:=λn fB e=>g n fB (by rw[d6 (λq=>by rw[q,hz]at e;exact a5 e)];exact e)
theorem NB{C:Cfg}{elt target:Expr}{ifs:List Expr}{scope:Scope}{ns:cC}{loc:Loc}{aD gs:jF}{fK iP cy fI:Nat}{α:Type}{K:V->M α}{Q:α->aN->Prop}(nP:hs scope.kind scope.names=aw)(g4:fL ns loc scope.names=pure [U,U,I (.ref iP)])
  (Ww:∀o v,bindTo (fJ (cx ns scope.names)) target v [U,o,I (.ref iP)]=pure [U,I v,I (.ref iP)]) (Wg:∀v,ev C elt (cx ns scope.names) [U,I v,I (.ref iP)]=pure v)
  (Vt:∀v,tests C ifs (cx ns scope.names) [U,I v,I (.ref iP)]=(bD (I (V.ref iP))>>=λt=>cmp .NotIn v t>>=λt=>truth t>>=λb=>(pure b:M Bool))) (hl:aD.length<=30)
  (av:σ[fK]? =I (.dict cy (cu aD))) (ay:σ[iP]? =I (.dict fI (cu gs))) (fin:∀{ag:aN}{k:Nat},ag[k]? =I (.list ((t6 aD gs).map V.str))->(∀{n:Nat}{o:O},σ[n]? =I o->ag[n]? =I o)->cc σ ag->Wp ag (K (.ref k)) Q) :
  Wp σ (eY (.ref fK)>>=λs=>iW C elt target ifs scope s ns loc>>=λt=>mT t>>=K) Q:=by
 refine al (Du av) (th (l:=(cu aD).map λp=>h7 p.1) aa (Cn λτ lK=>by subst lK;unfold my;rw[av]) nP g4 ?_ (λloc=>(∃o,loc=[U,o,I (.ref iP)])) ⟨_,aa⟩ (λv=>match v with|.str l=>if (!(lk gs l).isSome)=aw then I (.str l) else U|_=>U) ?_ ?_)
 ·rw[kc,bC,bC];exact b0 hl (by decide +kernel)
 ·rintro v loc aM ⟨o,rfl⟩;rw[kc]at aM;obtain⟨l,_,rfl⟩:=ez.mp aM;refine⟨_,by rw[Ww];rfl,⟨_,aa⟩,!(lk gs l).isSome,?_,?_⟩
  ·rw[Vt];refine(a4 (m:=bD _) aa).trans ((a4 (Dw (key:=.inr l) ay aa)).trans ?_);rw[y7];rfl
  ·induction h:(lk gs l).isSome with
   |true=>refine(?_:(if (!(lk gs l).isSome)=aw then _ else _)=_);rw[h];rfl
   |false=>exact⟨.str l,by rw[Wg];rfl,by refine(?_:(if (!(lk gs l).isSome)=aw then _ else _)=_);rw[h];rfl⟩
 have nT:((cu aD).map λp=>h7 p.1).filterMap (λv=>match v with|.str l=>if (!(lk gs l).isSome)=aw then I (V.str l) else U|_=>U)=((aD.map (·.1)).filter λl=>!(lk gs l).isSome).map V.str:=by
  rw[kc];generalize aD.map (·.1)=ls
  induction ls with
  |nil=>rfl
  |cons l ls aj=>
   rw[ea,HN,afz];dsimp only;by_cases h9:(!(lk gs l).isSome)=aw
   ·rw[aK h9,aK h9];exact ff (V.str l :: ·) aj
   ·rw[aR h9,aR h9];exact aj
 rw[nT];exact al (wH cP (by rw[bC];exact i5 (afx _ _) (by rw[bC];exact cp 0x20782109001003DE09021 aa hl)) wk) (fin cP (λh=>cB (cB h)) cc.push.new)
def Pd(σ:aN)(G:dr)(x y:Nat)(ls:List (Str×Nat))(v:V)(ag:aN):Prop:=(c8 λh a3=>eH (Chain G y ls h a3) (bU ag (put a3 x (.tail .bo (I h)))) (cc σ ag))
theorem Ii{c2 fK iP cy fI y:Nat}{aD gs:jF}{bS cn:V}(VT:gs.length<=30)(Fm:∀p∈lr gs aD,(c8 λt bI=>lk gs p.1=I (t,p.2)/\G t=I (.tail (.cF p.1 p.2 bI) U)))(O:bV G)(S:bb bK bR G)(bd:d7 1000 bK bR G)(g:bU σ G)(aE:0<σ.length)
  (av:σ[fK]? =I (.dict cy (cu aD))) (ay:σ[iP]? =I (.dict fI (cu gs))) (ak:G x=I (.tail .bo U)) (he:bR x=de (vals bK (lr gs aD)) (bR y)) :
  Wp σ (vz (d+4) bS cn now (I (.ref fK)) (I (.ref x)) (I (.ref iP)) (I (.ref c2)) (.ref y)) λv ag=>v=.none/\Pd σ G x y (lr gs aD) v ag:=by
 unfold vz;refine al (m:=bD _) aa (al (fW (g x _ ak)) (al fm (al (m:=truth _) aa (gD (show(Str.ofString "unknown" == Str.ofString "unknown")=aw by decide +kernel) (al (m:=bD _) aa (al (m:=bD _) aa (al (m:=bD _) aa ?_)))))));refine NB abe (abf ..) (λo v=>abh ..) (λv=>abg ..) (λv=>abd ..) VT ay av λ{ag k} ar hl le=>?_;refine Wp.step (Ir (ls:=lr gs aD) O S bd (g.le hl) (d4 aE le.len) ak (hl ay) ?_ Fm he) λv i7 a8=>by obtain⟨_,h,a3,c,ck,mI⟩:=a8;exact bZ ⟨aa,h,a3,c,ck,le.trans mI⟩
 rw[ar,<-CX,gw];rfl
theorem Ij{fK iP cy fI y:Nat}{aD gs:jF}{bS cn eQ:V}(oQ:aD.length<=30)(Fm:∀p∈lr aD gs,(c8 λt bI=>lk aD p.1=I (t,p.2)/\G t=I (.tail (.cF p.1 p.2 bI) U)))(O:bV G)(S:bb bK bR G)(bd:d7 1000 bK bR G)(g:bU σ G)(aE:0<σ.length)
  (av:σ[fK]? =I (.dict cy (cu aD))) (ay:σ[iP]? =I (.dict fI (cu gs))) (ak:G x=I (.tail .bo U)) (he:bR x=de (vals bK (lr aD gs)) (bR y)) {Q:V->aN->Prop}
  (next:∀{v ag},Pd σ G x y (lr aD gs) v ag->Wp ag (vz (d+4) bS cn now (I (.ref fK)) (I eQ) (I (.ref iP)) (I (.ref x)) (.ref y)) Q) :
  Wp σ (ym (d+4) bS cn now (I (.ref fK)) (I eQ) (I (.ref iP)) (I (.ref x)) (.ref y)) Q:=by
 unfold ym;refine al (m:=bD _) aa (al (fW (g x _ ak)) (al fm (al (m:=truth _) aa (gD (show(Str.ofString "unknown" == Str.ofString "unknown")=aw by decide +kernel) (al (m:=bD _) aa (al (m:=bD _) aa (al (m:=bD _) aa ?_)))))));refine NB aa9 (aba ..) (λo v=>abc ..) (λv=>abb ..) (λv=>aa8 ..) oQ av ay λ{ag k} ar hl le=>?_;refine Wp.step (Ir (ls:=lr aD gs) O S bd (g.le hl) (d4 aE le.len) ak (hl av) ?_ Fm he) λv i7 a8=>by obtain⟨_,h,a3,c,ck,mI⟩:=a8;exact next (v:=v) ⟨h,a3,c,ck,le.trans mI⟩
 rw[ar,<-CX,gw];rfl
theorem yY(aV:iD σ la (.tail w U))(au:iD σ c2 (.tail w' U)):(bD (I (V.ref la))>>=λRT=>cL (aC d) "word" RT>>=λRS=>cmp .Eq RS (V.str "end")>>=λRR=>truth RR>>=λZP=>M.cond ZP (bD (I (V.ref c2))>>=λCU=>cL (aC d) "word" CU>>=λCT=>cmp .Eq CT (V.str "end")>>=λCS=>truth CS>>=λGJ=>M.cond GJ (pure aw:M Bool) (pure aS:M Bool)) (pure aS:M Bool)) σ=.ok ((w.word==Str.ofString "end")&&(w'.word==Str.ofString "end")) σ:=by
 refine(a4 (m:=bD _) aa).trans ((a4 (fW aV)).trans ((a4 fm).trans ((a4 (m:=truth _) aa).trans ?_)));refine(?_:(M.cond (w.word==Str.ofString "end") _ _) σ=_)
 induction w.word==Str.ofString "end" with
 |false=>rfl
 |true=>
  refine(?_:(bD (I (V.ref c2))>>=λCU=>cL (aC d) "word" CU>>=λCT=>cmp .Eq CT (V.str "end")>>=λCS=>truth CS>>=λGJ=>M.cond GJ (pure aw:M Bool) (pure aS:M Bool)) σ=_);refine(a4 (m:=bD _) (a:=V.ref c2) (ag:=σ) aa).trans ((a4 (fW au)).trans ((a4 fm).trans ((a4 (m:=truth _) aa).trans ?_)));refine(?_:(M.cond (w'.word==Str.ofString "end") _ _) σ=_);cases w'.word==Str.ofString "end" <;> rfl
theorem Row.new(h:Row G r aD last w)(hz:G z=U):Row (put G z aF) r aD last w:=by
 have k:∀{n fB},G n=I fB->put G z aF n=I fB:=λe=>by rw[d6 (λq=>by rw[q,hz]at e;exact a5 e)];exact e
 induction h with
 |stop aP e n=>exact .stop (CF hz aP) (k e) n
 |more aP e _ aj=>exact .more (CF hz aP) (k e) aj
theorem QD(t:hQ G bf bO aD gs la c2 w w')(iR:Rec G a bf)(nM:Rec G b bO)(H:c6 G)(S:bb bK bR G)(bd:d7 1000 bK bR G)(g:bU σ G)(aE:0<σ.length)(he:bR bf=bR bO) :
  Wp σ (bc (d+5) "join_rests" [.ref a,.ref b,now]) λv ag=>v=.none/\(∃a3,eH (Step G a3 (λaf τ=>τ bf=τ bO)) (bU ag a3) (cc σ ag)):=by
 rw[aa7];have O:=t.o;refine aB λae=>?_;obtain⟨gT,nI,eta⟩:=id iR;obtain⟨dj,sD,ib⟩:=id nM;have wY:=(t.a.sol O S).2.1;have wX:=(t.b.sol O S).2.1;have qZ:=zu O S bd t.a;have ux:=zu O S bd t.b;have cG:=t.a.at.1;have dJ:=t.b.at.1;refine ae (al (tU g aE nI eta t.a wY (by exact cp 0x3E8F0481003DE09021 aa qZ)) ?_);rw[abj];refine al (m:=Pure.pure _) aa ?_;rw[abl];have g0:(σ++[.dict aD.length (cu aD)]:aN).length=σ.length+1:=by simp
 refine al (tU g.push (by exact bF 0x1021004010042501023 aa g0) sD ib t.b wX (by exact cp 0x3E8F0481003DE09021 aa ux)) ?_;rw[abi];refine al (m:=Pure.pure _) aa ?_;rw[abk,g0];have av:(σ++[.dict aD.length (cu aD)]++[.dict gs.length (cu gs)]:aN)[σ.length]? =I (.dict aD.length (cu aD)):=cB cP;have ay:(σ++[.dict aD.length (cu aD)]++[.dict gs.length (cu gs)]:aN)[σ.length+1]? =I (.dict gs.length (cu gs)):=by rw[<-g0];exact cP
 have g2:=(g.push (o:=.dict aD.length (cu aD))).push (o:=.dict gs.length (cu gs));have cM:cc σ (σ++[.dict aD.length (cu aD)]++[.dict gs.length (cu gs)]):=cc.push.new;generalize (σ++[Mine.Internal.O.dict aD.length (cu aD)]++[Mine.Internal.O.dict gs.length (cu gs)]:aN)=b6 at av ay g2 cM ⊢;refine al (m:=bD _) aa (al (m:=bD _) aa (al (m:=bD _) aa (al (m:=bD _) aa (Wp.step (QC g2 cG dJ av ay (by exact bF 0x40F0421290000801EF04A1083DE09021 aa qZ ux) ?_ ?_) ?_))))
 ·intro l h1 h2 hw;subst hw;obtain⟨p,e⟩:=m7.mp h1;have:=t.uo S he (m:=l) (i:=p.2) (by rw[kK,e];rfl) (Lb h2);rw[show bR c2=.nil from(S.tail dJ).2.1]at this;exact a5 this
 ·intro l h1 h2 hw;subst hw;obtain⟨p,e⟩:=m7.mp h1;have:=t.symm.uo S he.symm (m:=l) (i:=p.2) (by rw[kK,e];rfl) (Lb h2);rw[show bR la=.nil from(S.tail cG).2.1]at this;exact a5 this
 rintro _ dq ⟨_,g3,dW⟩;replace av:=dW.dict av;replace ay:=dW.dict ay;have dW:=cM.trans dW;refine al (m:=bD _) aa (al (m:=bD _) aa (al (AQ (g3 la _ cG) (g3 c2 _ dJ)) (al (m:=truth _) aa (tg (λaH=>?_) λaH=>?_))))
 ·have aH:la=c2:=by simpa using aH
  exact bZ ⟨aa,G,Step.same O H λ{ρ τ} bG=>t.NO S he (by rw[aH]) (λaf=>by rw[aH]) bG,g3,dW⟩
 have aH:la≠c2:=by simpa using aH
 have h3:0<dq.length:=d4 aE dW.len;have tW:(Str.ofString "unknown" == Str.ofString "end")=aS:=by decide +kernel
 have Nc:(Str.ofString "end" == Str.ofString "end")=aw:=by decide +kernel
 have M4:(Str.ofString "end" == Str.ofString "unknown")=aS:=by decide +kernel
 unfold OD
 induction w with
 |cF l k r=>exact absurd aa (t.a.at.2 l k r)
 |fin=>
  induction w' with
  |cF l k r=>exact absurd aa (t.b.at.2 l k r)
  |fin=>
   refine aB λae=>?_;obtain⟨jk,pN⟩:=r5 (d:=d+4) (g3 _ _ cG);obtain⟨jj,xh⟩:=r5 (d:=d+4) (g3 _ _ dJ);obtain⟨iI,eM,dk,d1⟩:=yW (d:=d+4) g3 cG (min jk jj);obtain⟨hb,mS,fc,hn⟩:=yX (d:=d+4) dk dJ (I la);have ao:∀{ρ τ},bb ρ τ G->τ c2=τ la:=λ{ρ τ} S=>by rw[show τ la=.nil from(S.tail cG).2.1,show τ c2=.nil from(S.tail dJ).2.1]
   have st:=Step.Xc O H ⟨dJ,aa,aa,la,.here cG aa,aH⟩ ⟨_,_,cG⟩ nofun ao;refine ae (al (yY (g3 _ _ cG) (g3 _ _ dJ)) (gD (by decide +kernel) (al (m:=bD _) aa (al pN (al (m:=bD _) aa (al xh (al (m:=oX _ _) aa (al (m:=bD _) aa (al (m:=dT _ _ _ _) eM (al (m:=bD _) aa (al (m:=bD _) aa (al (m:=dT _ _ _ _) mS (bZ ⟨aa,_,?_,fc,dW.trans (d1.trans hn)⟩)))))))))))));exact⟨st.grow,st.ok,st.gen,st.sol,λbG=>t.NO S he (ao S).symm (λS=>(ao S).symm) (st.sol bG),λbG af=>st.ext bG aL⟩
  |bo=>
   refine aB λae=>?_;obtain⟨z,iI,eM,hz,dk,d1⟩:=yV (d:=d+2) g3 h3;have dk:=dk.drop hz;obtain⟨cI,c4⟩:=t.NN H S he (za wY);refine ae (al (yY (g3 _ _ cG) (g3 _ _ dJ)) (d3 (by decide +kernel) ?_));unfold Bp;refine al (m:=bc _ _ _) eM (al (m:=bD _) aa (al (fW (dk _ _ cG)) (al fm (al (m:=truth _) aa (gD Nc (al (m:=bD _) aa ?_))))));unfold yn;refine al (m:=bD _) aa (al (fW (dk _ _ dJ)) (al fm (al (m:=truth _) aa (d3 tW ?_))));refine Ij qZ (zb t.a) O S bd dk (d4 h3 d1.len) (d1.dict av) (d1.dict ay) dJ cI λ{v hb} a8=>?_;obtain⟨h,oh,c,fc,hn⟩:=a8;have x2:put oh c2 (.tail .bo (I h)) la=I (.tail .fin U):=by rw[d6 aH];exact c.same cG
   unfold vz;exact al (m:=bD _) aa (al (fW (fc _ _ x2)) (al fm (al (m:=truth _) aa (d3 M4 (bZ ⟨aa,_,c4 c,fc,dW.trans (d1.trans hn)⟩)))))
 |bo=>
  refine aB λae=>?_;obtain⟨z,iI,eM,hz,dk,d1⟩:=yV (d:=d+2) g3 h3;have bY:=d4 h3 d1.len;refine ae ?_
  induction w' with
  |cF l k r=>exact absurd aa (t.b.at.2 l k r)
  |fin=>
   have dk:=dk.drop hz;obtain⟨cI,c4⟩:=t.symm.NN H S he.symm (za wX);refine al (yY (g3 _ _ cG) (g3 _ _ dJ)) (d3 (by decide +kernel) ?_);unfold Bp;refine al (m:=bc _ _ _) eM (al (m:=bD _) aa (al (fW (dk _ _ cG)) (al fm (al (m:=truth _) aa (d3 tW ?_)))));unfold yn;refine al (m:=bD _) aa (al (fW (dk _ _ dJ)) (al fm (al (m:=truth _) aa (gD Nc (al (m:=bD _) aa ?_)))));unfold ym;refine al (m:=bD _) aa (al (fW (dk _ _ dJ)) (al fm (al (m:=truth _) aa (d3 M4 ?_))));refine(Ii ux (zb t.b) O S bd dk bY (d1.dict av) (d1.dict ay) cG cI).mono λv hb a8=>?_;obtain⟨aM,h,oh,c,fc,hn⟩:=a8;have st:=c4 c;exact⟨aM,_,⟨st.grow,st.ok,st.gen,st.sol,λbG=>(st.back bG).symm,λbG p=>st.ext bG p.symm⟩,fc,dW.trans (d1.trans hn)⟩
  |bo=>
   refine aB λae=>?_;obtain⟨⟨eA,e3,gk,iA,j9,oE,ar⟩,cI⟩:=t.Zn H S he aH hz (za wY) (za wX);have kB:∀{n aF},G n=I aF->put G z (.tail .bo U) n=I aF:=λe=>by rw[d6 (λq=>by rw[q,hz]at e;exact a5 e)];exact e
   refine ae (al (yY (g3 _ _ cG) (g3 _ _ dJ)) (d3 (by decide +kernel) ?_));unfold Bp;refine al (m:=bc _ _ _) eM (al (m:=bD _) aa (al (fW (dk _ _ (kB cG))) (al fm (al (m:=truth _) aa (d3 tW ?_)))));unfold yn;refine al (m:=bD _) aa (al (fW (dk _ _ (kB dJ))) (al fm (al (m:=truth _) aa (d3 tW ?_))));refine Ij qZ (zb (t.a.new hz)) (O.new hz aa aL:bV (put G z (.tail .bo U))) e3 (iA 1000 bd) dk bY (d1.dict av) (d1.dict ay) (kB dJ) j9.1 λ{v hb} a8=>?_;obtain⟨h,oh,c,fc,hn⟩:=a8;refine aB λae=>?_;obtain⟨s1,c4⟩:=cI c;obtain⟨eI,mu,gN,hy,lU⟩:=s1.ext e3 j9;have oS:put oh c2 (.tail .bo (I h)) la=I (.tail .bo U):=by rw[d6 aH];exact c.same (kB cG)
   refine ae ?_;refine(Ii (y:=z) ux (λp hp=>?_) s1.ok gN (lU 1000 (iA 1000 bd)) fc (d4 bY hn.len) ((d1.trans hn).dict av) ((d1.trans hn).dict ay) oS ?_).mono λv B9 a8=>by obtain⟨aM,h',ag1,fG,mQ,w5⟩:=a8;exact⟨aM,_,c4 fG,mQ,dW.trans (d1.trans (hn.trans w5))⟩
   ·refine aB λae=>?_;obtain⟨eu,bI,d8,eD⟩:=zb (t.b.new hz (aF:=.tail .bo U)) p hp;refine ae ⟨eu,bI,d8,?_⟩;rw[d6 (λq=>by rw[q,kB dJ]at eD;cases eD)];exact c.same eD
   ·rw[hy.2 la ⟨_,_,kB cG⟩,hy.2 z ⟨_,_,dK⟩,Cv hy ar];exact oE
end
section
variable {n m t x y a b:Nat}{v:V}{τ:Nat->R}{now:V}
theorem Im(O:bV G)(H:c6 G)(g:bU σ G)(aV:Top G a gT)(au:Top G b dj)(cG:G gT=I (.bg w U))(dJ:G dj=I (.bg w' U))(az:∀{ρ τ},bb ρ τ G->ρ gT=ρ dj)(hw:∀r,w'=.aQ r->(∃bI,w=.aQ bI)) :
  Wp σ (Bo (d+1) (.ref a) (.ref b) now) λv ag=>v=.none/\(∃a3,eH (Step G a3 (λaf aJ=>True)) (bU ag a3) (cc σ ag)):=by
 unfold Bo;refine al (w_top g aV) (al (w_top g au) (al (T2 (g _ _ cG) (g _ _ dJ)) (al (m:=truth _) aa (tg (λaH=>?_) λaH=>?_))))
 ·have aH:gT≠dj:=by simpa using aH
  refine aB λae=>?_;obtain⟨jk,pN⟩:=r5 (d:=d+1) (g _ _ cG);obtain⟨jj,xh⟩:=r5 (d:=d+1) (g _ _ dJ);obtain⟨iI,eM,dk,d1⟩:=yW (d:=d+1) g cG (min jk jj);obtain⟨hb,mS,fc,hn⟩:=yX (d:=d+1) dk dJ (I gT);refine ae (al pN (al xh (al (m:=oX _ _) aa (al (m:=dT _ _ _ _) eM (al (m:=dT _ _ _ _) mS (bZ ⟨aa,_,?_,fc,d1.trans hn⟩))))));exact Step.Xd O H ⟨dJ,aa,aa,gT,.here cG aa,aH⟩ ⟨_,_,cG⟩ (λr e=>by obtain⟨bI,rfl⟩:=hw r e;exact⟨_,_,cG⟩) λS=>(az S).symm
 ·exact bZ ⟨aa,G,Step.same O H λaf=>aL,g,.refl⟩
theorem H7{w w':lX}:(w.word==w'.word)=aw↔(w=.bo/\w'=.bo)\/(w=.num/\w'=.num)\/(c8 λr bI=>w=.aQ r/\w'=.aQ bI):=by
 have s:∀a:Str,(a==a)=aw:=λa=>k6 a;have no:∀{b:Bool}{P:Prop},b=aS->¬P->(b=aw↔P):=λh hp=>⟨λe=>(by rw[h]at e;exact fw e),λp=>absurd p hp⟩
 induction w with
 |bo=>
  induction w' with
  |bo=>exact⟨λaf=>.inl ⟨aa,aa⟩,λaf=>s _⟩
  |num=>exact no (by decide +kernel:(Str.ofString "unknown" == Str.ofString "number")=aS) (by rintro(⟨_,e⟩|⟨e,_⟩|⟨_,_,e,_⟩) <;> cases e)
  |aQ r=>exact no (by decide +kernel:(Str.ofString "unknown" == Str.ofString "record")=aS) (by rintro(⟨_,e⟩|⟨e,_⟩|⟨_,_,e,_⟩) <;> cases e)
 |num=>
  induction w' with
  |bo=>exact no (by decide +kernel:(Str.ofString "number" == Str.ofString "unknown")=aS) (by rintro(⟨e,_⟩|⟨_,e⟩|⟨_,_,e,_⟩) <;> cases e)
  |num=>exact⟨λaf=>.inr (.inl ⟨aa,aa⟩),λaf=>s _⟩
  |aQ r=>exact no (by decide +kernel:(Str.ofString "number" == Str.ofString "record")=aS) (by rintro(⟨e,_⟩|⟨_,e⟩|⟨_,_,e,_⟩) <;> cases e)
 |aQ q=>
  induction w' with
  |bo=>exact no (by decide +kernel:(Str.ofString "record" == Str.ofString "unknown")=aS) (by rintro(⟨e,_⟩|⟨e,_⟩|⟨_,_,_,e⟩) <;> cases e)
  |num=>exact no (by decide +kernel:(Str.ofString "record" == Str.ofString "number")=aS) (by rintro(⟨e,_⟩|⟨e,_⟩|⟨_,_,_,e⟩) <;> cases e)
  |aQ r=>exact⟨λaf=>.inr (.inr ⟨q,r,aa,aa⟩),λaf=>s _⟩
theorem QJ:∀s d,2*s+6<=d->JoinOk s d:=by
 intro s
 induction s using Nat.strongRecOn with
 |_ s aj=>
  intro d hd σ G bK bR a b now O H S bd g aE aV au he az;refine aB λae=>?_;obtain⟨d,rfl⟩:(∃e,d=e+6):=⟨d-6,by exact rS (b0 (qp _ _) ‹_›)⟩;obtain⟨_,_,cG⟩:=id aV;obtain⟨_,_,dJ⟩:=id au;obtain⟨gT,nI⟩:=O.top cG;obtain⟨dj,sD⟩:=O.top dJ;obtain⟨w,eta⟩:=nI.bg O aV;obtain⟨w',ib⟩:=sD.bg O au;have oz:∀{ρ τ},bb ρ τ G->ρ a=ρ gT:=λS=>S.jl O nI aV;have pq:∀{ρ τ},bb ρ τ G->ρ b=ρ dj:=λS=>S.jl O sD au;have het:bK gT=bK dj:=by rw[<-oz S,<-pq S,he]
  refine ae ?_;rw[aa6];refine al (w_top g nI) (al (w_top g sD) (al (AQ (g _ _ eta) (g _ _ ib)) (al (m:=truth _) aa (tg (λaH=>?_) λaH=>?_))))
  ·have aH:gT=dj:=by simpa using aH
   exact bZ ⟨aa,G,Step.same O H λS=>by rw[oz S,pq S,aH],g,.refl⟩
  have aH:gT≠dj:=by simpa using aH
  unfold OB;refine al (fW (g _ _ eta)) (al fm (al (m:=truth _) aa (tg (λhw=>?_) λhw=>?_)))
  ·obtain rfl:w=.bo:=by
    rcases H7 (w':=.bo).mp hw with h|h|⟨_,_,_,h⟩
    ·exact h.1
    ·cases h.2
    ·cases h
   have st:=Step.kl O H S ⟨eta,aa,aa,dj,.here ib aa,aH.symm⟩ ⟨_,_,ib⟩ het;refine Wp.step (Iu (d:=d+1) O S bd g aE eta ib aH het) λv ag ⟨_,ck,le⟩=>bZ ⟨aa,_,?_,ck,le⟩;exact⟨st.grow,st.ok,st.gen,st.sol,λbG=>by rw[oz (st.sol bG),pq (st.sol bG)];exact st.back bG,λbG p=>st.ext bG (by rw[<-oz bG,<-pq bG];exact p)⟩
  refine al (fW (g _ _ ib)) (al fm (al (m:=truth _) aa (tg (λsB=>?_) λsB=>?_)))
  ·obtain rfl:w'=.bo:=by
    rcases H7 (w':=.bo).mp sB with h|h|⟨_,_,_,h⟩
    ·exact h.1
    ·cases h.2
    ·cases h
   have st:=Step.kl O H S ⟨ib,aa,aa,gT,.here eta aa,aH⟩ ⟨_,_,eta⟩ het.symm;refine Wp.step (Iu (d:=d+1) O S bd g aE ib eta aH.symm het.symm) λv ag ⟨_,ck,le⟩=>bZ ⟨aa,_,?_,ck,le⟩;exact⟨st.grow,st.ok,st.gen,st.sol,λbG=>by rw[oz (st.sol bG),pq (st.sol bG)];exact(st.back bG).symm,λbG p=>st.ext bG (by rw[<-oz bG,<-pq bG];exact p.symm)⟩
  refine al (fW (g _ _ eta)) (al (fW (g _ _ ib)) (al S7 (al (m:=truth _) aa ?_)));have v1:=(S.bg eta).1;have v2:=(S.bg ib).1
  induction w with
  |bo=>exact absurd hw (by show ¬(Str.ofString "unknown" == Str.ofString "unknown")=aS;decide +kernel)
  |num=>
   induction w' with
   |bo=>exact absurd sB (by show ¬(Str.ofString "unknown" == Str.ofString "unknown")=aS;decide +kernel)
   |aQ r=>
    rw[show bK gT=.num from v1,show bK dj=.aQ (bR r) from v2]at het;cases het
   |num=>
    refine d3 (show(!(Str.ofString "number" == Str.ofString "number"))=aS by decide +kernel) (al (fW (g _ _ eta)) (al fm (al (m:=truth _) aa (d3 (show(Str.ofString "number" == Str.ofString "record")=aS by decide +kernel) ?_))));have e0:∀{ρ τ},bb ρ τ G->ρ gT=ρ dj:=λ{ρ τ} S=>by rw[show ρ gT=.num from(S.bg eta).1,show ρ dj=.num from(S.bg ib).1]
    refine(Im (d:=d+4) O H g (.here eta aa) (.here ib aa) eta ib e0 nofun).mono λv ag ⟨aM,a3,st,ck,le⟩=>⟨aM,a3,?_,ck,le⟩;exact⟨st.grow,st.ok,st.gen,st.sol,λbG=>by rw[oz (st.sol bG),pq (st.sol bG)];exact e0 (st.sol bG),λbG af=>st.ext bG aL⟩
  |aQ bf=>
   induction w' with
   |bo=>exact absurd sB (by show ¬(Str.ofString "unknown" == Str.ofString "unknown")=aS;decide +kernel)
   |num=>
    rw[show bK gT=.aQ (bR bf) from v1,show bK dj=.num from v2]at het;cases het
   |aQ bO=>
    refine d3 (show(!(Str.ofString "record" == Str.ofString "record"))=aS by decide +kernel) (al (fW (g _ _ eta)) (al fm (al (m:=truth _) aa (gD (show(Str.ofString "record" == Str.ofString "record")=aw by decide +kernel) ?_))));have cV:(bK gT).size<=s:=by rw[<-oz S];exact az
    have h2:2<=s\/s=1:=by
     have:=T.pos (bK gT);exact(Nat.eq_or_lt_of_le (b0 this (by assumption))).symm.imp id j1
    have Hh:JoinOk (s-2) (d+4):=by
     rcases h2 with h2|h2
     ·exact aj (s-2) (by exact r0 ‹_›) (d+4) (RX hd h2)
     ·subst h2;intro σ G bK bR a b now _ _ _ _ _ _ _ _ _ h;have:=T.pos (bK a);exact absurd ‹_<=0› (B0 ‹1<=_›)
    refine Wp.step (QB (d:=d+2) Hh O H S bd g aE eta ib het cV) λaf cJ a8=>?_;obtain⟨_,tG,ds,jI,g1,dG,ny,qM,aD,gs,la,c2,w,w',nO,nN,two⟩:=a8;refine aB λae=>?_;obtain⟨Cc,yS,mW,e5,eO⟩:=jI.ext S (λl af=>by rw[het]);have av:yS ny=yS qM:=by
     have h1:=nO.sol jI.ok mW;have h2:=nN.sol jI.ok mW;rw[e5.1 gT ⟨_,_,eta⟩]at h1;rw[e5.1 dj ⟨_,_,ib⟩,<-het,h1]at h2;exact T.zv h2
    refine ae (Wp.step (QD (d:=d) two nO nN jI.gen mW (eO 1000 bd) g1 (d4 aE dG.len) av) λaf b6 a8=>?_);obtain⟨_,gF,pw,g2,cM⟩:=a8;have kF:Step G gF (λρ af=>ρ gT=ρ dj):=by
     refine jI.trans pw (λ{ρ τ aU bH} bG A q=>⟨λl af=>by rw[q],λkp=>?_⟩) λ{ρ τ} bG=>?_
     ·have h1:=nO.sol jI.ok kp;have h2:=nN.sol jI.ok kp;rw[A.1 gT ⟨_,_,eta⟩]at h1;rw[A.1 dj ⟨_,_,ib⟩,<-q,h1]at h2;exact T.zv h2
     ·have kp:=pw.sol bG;rw[nO.sol jI.ok kp,nN.sol jI.ok kp,pw.back bG]
    refine aB λae=>?_;obtain⟨_,AX⟩:=kF.grow.bg eta;obtain⟨_,Ng⟩:=kF.grow.bg ib;obtain⟨agd,Ry,LG,Yu⟩:=Rec.ex kF.ok AX;obtain⟨agc,Rx,LF,Yt⟩:=Rec.ex kF.ok Ng;have e0:∀{ρ τ},bb ρ τ gF->ρ Ry=ρ Rx:=λ{ρ τ} bG=>by
     rw[<-bG.jl kF.ok LG ⟨_,_,AX⟩,<-bG.jl kF.ok LF ⟨_,_,Ng⟩];exact kF.back bG
    refine ae ((Im (d:=d+4) kF.ok kF.gen g2 LG LF Yu Yt e0 λr af=>⟨_,aa⟩).mono λv ag ⟨aM,a3,st,ck,le⟩=>⟨aM,a3,?_,ck,dG.trans (cM.trans le)⟩);have fin:=kF.trans (Q:=λρ af=>ρ gT=ρ dj) st (λaf aJ q=>⟨q,λaf=>aL⟩) λbG=>kF.back (st.sol bG);exact⟨fin.grow,fin.ok,fin.gen,fin.sol,λbG=>by rw[oz (fin.sol bG),pq (fin.sol bG)];exact fin.back bG,λbG p=>fin.ext bG (by rw[<-oz bG,<-pq bG];exact p)⟩
end
inductive Form where
 |num(z:Int)
 |bu(i:Nat)
 |make(ls:List Str)
 |get(l:Str)
 |put(l:Str)
 |sum
 |call(f:Str)
noncomputable def gp(p:Str×V):V:=.tup [.str p.1,p.2]
def cf:Form->List V->V
 |.num z,_=>.tup [.str "number",.int z]
 |.bu i,_=>.tup [.str "input",.int i]
 |.make ls,ps=>.tup [.str "make",.tup ((ls.zip ps).map gp)]
 |.get l,ps=>.tup (.str "get" :: (ps++[.str l]))
 |.put l,ps=>.tup [.str "put",ps[0]?.getD .none,.str l,ps[1]?.getD .none]
 |.sum,ps=>.tup (.str "sum" :: ps)
 |.call f,ps=>.tup [.str "call",.str f,.tup ps]
def ie:Form->List V->Prop
 |.num _,ps=>ps=[]
 |.bu _,ps=>ps=[]
 |.make ls,ps=>ps.length=ls.length/\ls.length<=30/\ls.Nodup
 |.get _,ps=>ps.length=1
 |.put _,ps=>ps.length=2
 |.sum,ps=>ps.length=2
 |.call _,ps=>ps.length<=30
theorem ZU(h:ie f ps):ps.length<=30:=by
 induction f with
 |num z=>rw[show ps=[] from h];exact eV _
 |bu i=>rw[show ps=[] from h];exact eV _
 |make ls=>rw[h.1];exact h.2.1
 |get l=>rw[show ps.length=1 from h];decide
 |put l=>rw[show ps.length=2 from h];decide
 |sum=>rw[show ps.length=2 from h];decide
 |call f=>exact h
def f9(σ ag:aN):Prop:=(∃l,ag=σ++l)
section
variable {n k:Nat}{v x y:V}{w w':Str}{l ps:List V}
theorem f9.refl:f9 σ σ:=⟨[],(vU _).symm⟩
theorem f9.trans(h:f9 σ ag)(h':f9 ag i7):f9 σ i7:=by
 obtain⟨l,rfl⟩:=h;obtain⟨m,rfl⟩:=h';exact⟨l++m,pg ..⟩
theorem f9.push:f9 σ (σ++[o]):=⟨_,aa⟩
theorem f9.new(h:f9 σ ag):f9 σ (ag++[o]):=h.trans .push
theorem f9.at(h:f9 σ ag)(e:σ[n]? =I o):ag[n]? =I o:=by
 obtain⟨l,rfl⟩:=h;rw[pf (cE e)];exact e
theorem f9.len(h:f9 σ ag):σ.length<=ag.length:=by
 obtain⟨l,rfl⟩:=h;rw[dp];exact ha ..
theorem f9.z2(h:f9 σ ag):cc σ ag:=⟨h.len,λe af=>h.at e⟩
theorem Og{α:Type}{m:M α}{a:α}(h:Wp σ m λr τ=>r=a/\τ=ag):m σ=.ok a ag:=by
 obtain⟨_,_,e,rfl,rfl⟩:=h;exact e
theorem mD{β:Type}{m gK:M β}:(cmp .Eq (.str w) (.str w)>>=λt=>truth t>>=λb=>M.cond b m gK) σ=m σ:=by
 show(M.cond (w==w) m gK) σ=_;rw[k6];rfl
theorem eL{β:Type}{m gK:M β}(h:(w==w')=aS):(cmp .Eq (.str w) (.str w')>>=λt=>truth t>>=λb=>M.cond b m gK) σ=gK σ:=by
 show(M.cond (w==w') m gK) σ=_;rw[h];rfl
theorem Kd:(cmp .Eq (.str w) (.str w)>>=λeb=>truth eb>>=λlV=>M.cond lV (pure aw:M Bool) (cmp .Eq (.str w) (.str w')>>=λgy=>truth gy>>=λn4=>M.cond n4 (pure aw:M Bool) (pure aS:M Bool))) σ=.ok aw σ:=mD
theorem Tw{w':Str}(h:(w==w')=aS):(cmp .Eq (.str w) (.str w')>>=λeb=>truth eb>>=λlV=>M.cond lV (pure aw:M Bool) (cmp .Eq (.str w) (.str w)>>=λgy=>truth gy>>=λn4=>M.cond n4 (pure aw:M Bool) (pure aS:M Bool))) σ=.ok aw σ:=(eL h).trans mD
theorem wN{u:Str}(h:(w==w')=aS)(h':(w==u)=aS):(cmp .Eq (.str w) (.str w')>>=λeb=>truth eb>>=λlV=>M.cond lV (pure aw:M Bool) (cmp .Eq (.str w) (.str u)>>=λgy=>truth gy>>=λn4=>M.cond n4 (pure aw:M Bool) (pure aS:M Bool))) σ=.ok aS σ:=(eL h).trans (eL h')
theorem Go{β:Type}{m gK:M β}{b:Bool}(h:b=aw):(M.cond b m gK) σ=m σ:=by subst h;rfl
theorem s6{β:Type}{m gK:M β}{b:Bool}(h:b=aS):(M.cond b m gK) σ=gK σ:=by subst h;rfl
theorem rN{α:Type}:∀{l:List α},l.length=2->(c8 λp q=>l=[p,q])
 |[p,q],_=>⟨p,q,aa⟩
theorem Cq{f:Form}(h:ie f ps):bc (d+1) "parts_of" [cf f ps] σ=.ok (.ref σ.length) (σ++[.list ps]):=by
 rw[aaA]
 induction f with
 |num z=>
  subst h;refine(a4 gI).trans ((eL (by decide +kernel)).trans ?_);unfold tj vx yl Bl;refine(eL (by decide +kernel)).trans ((eL (by decide +kernel)).trans ((a4 (wN (by decide +kernel) (by decide +kernel))).trans ((s6 aa).trans ((eL (by decide +kernel)).trans aa))))
 |bu i=>
  subst h;refine(a4 gI).trans ((eL (by decide +kernel)).trans ?_);unfold tj vx yl Bl;refine(eL (by decide +kernel)).trans ((eL (by decide +kernel)).trans ((a4 (wN (by decide +kernel) (by decide +kernel))).trans ((s6 aa).trans ((eL (by decide +kernel)).trans aa))))
 |make ls=>
  refine(a4 gI).trans (mD.trans ((a4 qK).trans ((a4 (m:=eY _) aa).trans (Og ?_))));refine th (l:=(ls.zip ps).map gp) aa mx aaC (aaD ..) ?_ (λloc=>c8 λa b=>loc=[U,a,b]) ⟨_,_,aa⟩ (λv=>match v with|.tup [_,p]=>I p|_=>U) ?_ (bZ ⟨aa,?_⟩)
  ·rw[bC,yJ];exact b0 (HD _ _) (b0 h.2.1 (by decide +kernel))
  ·rintro v loc aM ⟨a,b,rfl⟩;obtain⟨p,_,rfl⟩:=ez.mp aM;exact⟨_,by rw[gp,aaF];rfl,⟨_,_,aa⟩,aw,by rw[aaB];rfl,p.2,by rw[aaE];rfl,aa⟩
  ·have e:((ls.zip ps).map gp).filterMap (λv=>match v with|.tup [_,p]=>I p|_=>U)=ps:=by
    rw[yL];exact(sW (h:=λp:Str×V=>p.2) λq af=>aa).trans (afu (by rw[h.1];exact bx _))
   rw[e]
 |get l=>
  obtain⟨p,rfl⟩:(∃p,ps=[p]):=HJ.mp h;refine(a4 gI).trans ((eL (by decide +kernel)).trans ?_);unfold tj;exact mD.trans ((a4 qK).trans aa)
 |put l=>
  obtain⟨p,q,rfl⟩:(c8 λp q=>ps=[p,q]):=rN h;refine(a4 gI).trans ((eL (by decide +kernel)).trans ?_);unfold tj vx;exact(eL (by decide +kernel)).trans (mD.trans ((a4 qK).trans ((a4 (wJ (i:=3) (by decide) aa)).trans aa)))
 |sum=>
  obtain⟨p,q,rfl⟩:(c8 λp q=>ps=[p,q]):=rN h;refine(a4 gI).trans ((eL (by decide +kernel)).trans ?_);unfold tj vx yl;exact(eL (by decide +kernel)).trans ((eL (by decide +kernel)).trans ((a4 Kd).trans ((Go aa).trans aa)))
 |call f=>
  refine(a4 gI).trans ((eL (by decide +kernel)).trans ?_);unfold tj vx yl Bl;exact(eL (by decide +kernel)).trans ((eL (by decide +kernel)).trans ((a4 (wN (by decide +kernel) (by decide +kernel))).trans ((s6 aa).trans (mD.trans ((a4 wK).trans aa)))))
noncomputable abbrev Place:=List Int
noncomputable def jo(q:Place):V:=.tup (q.map V.int)
noncomputable def flat:Nat->List (List Place)->List Place
 |_,[]=>[]
 |k,o::ca=>o.map (λq=>(k:Int)::q)++flat (k+1) ca
def iC:Nat->V->List Place->Prop
 |0,_,_=>False
 |n+1,v,os=>(jE λ(f:Form) (ps:List V) (ca:List (List Place))=>mn (v=cf f ps) (ie f ps) (ca.length=ps.length) ((∀(i:Nat) (p:V) (o:List Place),ps[i]? =I p->ca[i]? =I o->iC n p o)) (os=flat 0 ca++[[]]))
inductive i2:V->Place->V->Prop
 |nil{v:V}:i2 v [] v
 |cons{f:Form}{ps:List V}{i:Nat}{p w:V}{q:Place}:ie f ps->ps[i]? =some p->i2 p q w->i2 (cf f ps) ((i:Int)::q) w
theorem FO:∀{ca:List (List Place)}{k:Nat},flat k (ca++[o])=flat k ca++o.map (λq=>((k+ca.length:Nat):Int)::q):=by
 intro cO
 induction cO with
 |nil=>
  intro k;refine(?_:o.map _++[]=_);rw[vU];rfl
 |cons o' ca FO=>
  intro k;refine(?_:o'.map _++flat (k+1) (ca++[o])=(o'.map _++flat (k+1) ca)++_);rw[FO,pg,pe,pd,qq 1]
theorem p1:∀{ca:List (List Place)}{k:Nat},q∈flat k ca↔(jE λi o r=>eH (ca[i]? =I o) (r∈o) (q=((k+i:Nat):Int)::r)):=by
 intro cO
 induction cO with
 |nil=>intro k;exact⟨λh=>(nomatch h),λa8=>by obtain⟨i,o,r,h,_,_⟩:=a8;exact a5 h⟩
 |cons o ca p1=>
  intro k;refine(?_:q∈o.map _++flat (k+1) ca↔_);rw[gb,p1,ez]
  constructor
  ·rintro(⟨r,aX,rfl⟩|⟨i,o',r,h1,h2,rfl⟩)
   ·exact⟨0,o,r,aa,aX,aa⟩
   ·exact⟨i+1,o',r,h1,h2,by rw[pd,qq 1]⟩
  ·rintro⟨i,o',r,h1,h2,rfl⟩
   induction i with
   |zero=>cases h1;exact .inl ⟨r,h2,aa⟩
   |succ i=>exact .inr ⟨i,o',r,h1,h2,by rw[pd,qq 1]⟩
theorem Xm{o:List Place}{ca:List (List Place)}{k i:Nat}(h:ca[i]? =I o):o.length<=(flat k ca).length:=by
 induction ca generalizing k i with
 |nil=>exact a5 h
 |cons o' ca aj=>
  refine(?_:_<=(o'.map _++flat (k+1) ca).length);rw[dp,bC]
  induction i with
  |zero=>cases h;exact ha ..
  |succ i=>have:=aj (k:=k+1) h;exact cb 0xA60102029021 aa this
theorem Xl:(flat 0 (ca.take i)).length<=(flat 0 ca).length:=by
 have h:∀(ca:List (List Place)) (i k:Nat),(flat k (ca.take i)).length<=(flat k ca).length:=by
  intro ca
  induction ca with
  |nil=>intro i k;rw[afl];exact bx _
  |cons o ca aj=>
   intro i k
   induction i with
   |zero=>exact eV _
   |succ i=>
    refine(?_:(o.map _++flat (k+1) (ca.take i)).length<=(o.map _++flat (k+1) ca).length);rw[dp,dp];have:=aj i (k+1);exact cb 0x298043002029021 aa this
 exact h _ _ _
theorem OZ:∀{n:Nat}{v:V}{os:List Place},iC n v os->∀q∈os,q.length<=n:=by
 intro n
 induction n with
 |zero=>intro v os h;exact h.elim
 |succ n aj=>
  rintro v os ⟨f,ps,ca,_,_,hl,aA,rfl⟩ q aH;rcases gb.mp aH with aH|aH
  ·obtain⟨i,o,r,h1,h2,rfl⟩:=p1.mp aH;have aI:i<ps.length:=by rw[<-hl];exact cE h1
   have:=aj (aA i _ o (cD aI) h1) r h2;exact show r.length+1<=n+1 from bF 0x21280212002029021 aa this
  ·rw[bN.mp aH];exact eV _
theorem QF:∀{n d:Nat}{σ:aN}{v:V}{os:List Place},iC n v os->os.length<=100000->n<=1000->n+1<=d->Wp σ (bc d "places_of" [v]) λr ag=>(∃k,eH (r=.ref k) (ag[k]? =I (.list (os.map jo))) (f9 σ ag)):=by
 intro n
 induction n with
 |zero=>intro d σ v os h;exact h.elim
 |succ n aj=>
  intro d σ v os h hlen ao hd;obtain⟨f,ps,ca,rfl,dQ,hl,aA,rfl⟩:=h;obtain⟨d,rfl⟩:(∃e,d=e+2):=⟨d-2,by exact rS (b0 (qp _ _) ‹_›)⟩;rw[dp]at hlen;have hlen:(flat 0 ca).length+1<=100000:=hlen;have fY:sizeLine=16777216:=rfl;rw[aaq];refine al (m:=cH _) aa (al (Cq dQ) (al (J0 cP) ?_));refine jz (l:=ps.mapIdx λ(i:Nat) x=>V.tup [.int i,x]) (J:=λτ=>τ[(σ++[O.list []]:aN).length]? =I (.list ps)) aap (Ic λaf h=>h)
   (λi loc ag=>jE λfK bS cn=>eH (loc=[I (cf f ps),I (.ref fK),bS,cn,U,U,U]) (ag[fK]? =I (.list ((flat 0 (ca.take i)).map jo))) (f9 (σ++[.list []]++[.list ps]) ag)) (λi loc ag a8=>by obtain⟨_,_,_,_,_,a⟩:=a8;exact a.at cP) ⟨_,_,_,aa,cB cP,.refl⟩ ?_ ?_
  ·rintro i v loc ag aM ⟨fK,bS,cn,rfl,hN,a⟩;rw[HM]at aM;obtain⟨p,hp,rfl⟩:=eU.mp aM;have aI:i<ca.length:=by rw[hl];exact cE hp
   have ho:ca[i]? =I ca[i]:=cD aI;have pP:=Xm (k:=0) ho;have gX:=Xl (ca:=ca) (i:=i+1);have lM:flat 0 (ca.take (i+1))=flat 0 (ca.take i)++ca[i].map (λq=>(i:Int)::q):=by
    rw[jg,ho];show flat 0 (ca.take i++[ca[i]])=_;rw[FO,rI,Nat.min_eq_left (by exact k7 aI),kx]
   rw[aar];refine Wp.step (aj (aA i p _ hp ho) (by exact bF 0x61A83E12840428420186A0F842120021 aa hlen pP) (by exact cp 0x1F47824083E8F042120021 aa ao) (by exact bF 0x4250042400402094010842400021 aa hd)) ?_;rintro _ cJ ⟨iQ,rfl,av,a1⟩;refine al (nw av) (th (l:=ca[i].map jo) aa (nf λτ h=>by rw[h];exact av) aat (aau ..) ?_ (λloc=>(∃o,loc=[U,o,I (.int i)])) ⟨_,aa⟩ (λv=>match v with|.tup q=>I (.tup (.int i::q))|_=>U) ?_ ?_)
   ·rw[bC,fY];exact bF 0x4000003E12840428420186A0F842120021 aa hlen pP
   ·rintro v loc aM ⟨o,rfl⟩;obtain⟨q,aH,rfl⟩:=ez.mp aM;refine⟨_,by rw[aaw];rfl,⟨_,aa⟩,aw,by rw[aas];rfl,_,?_,aa⟩;rw[aav];refine(a4 (a:=V.tup (.int i::q.map V.int)) (ag:=cJ) ?_).trans aa;show(if [V.int i].length+(q.map V.int).length<=sizeLine then pure (V.tup ([V.int i]++q.map V.int)) else M.bad:M V) cJ=_;rw[aK (by rw[bC,fY];have:=OZ (aA i p _ hp ho) q aH;exact show 1+q.length<=_ from bF 0x4000003E12842008085087E8F042120021 aa ao this)];rfl
   ·have nT:(ca[i].map jo).filterMap (λv=>match v with|.tup q=>I (V.tup (.int i::q))|_=>U)=(ca[i].map λq=>(i:Int)::q).map jo:=by
     rw[yL,gw];exact sW λq af=>aa
    rw[nT];rw[lM,dp,bC]at gX;refine al (DA (cB (a1.at hN)) cP (by rw[bC,bC,bC,fY];exact cb 0x4000003E131401010C500420186A0F842120021 aa hlen gX)) (bZ ⟨_,_,_,aa,?_,a.trans (a1.trans (f9.push.new))⟩);rw[lM,dY];exact cP
  ·rintro loc ag ⟨fK,bS,cn,rfl,hN,a⟩;rw[aax];rw[HI,<-hl,iG]at hN;refine al (m:=cH _) aa (al (DA (cB hN) cP (by rw[bC,fY];exact show _+1<=_ from cp 0x2000001F0842400400186A0F842120021 aa hlen)) (bZ ⟨_,aa,?_,f9.push.new.trans (a.trans f9.push.new)⟩));rw[dY];exact cP
end
section
variable {n k:Nat}{v x y:V}{w w':Str}{l ps:List V}
theorem QN{v w:V}{q:Place}(h:i2 v q w)(aH:q.length<=1000):Wp σ (bc (d+2) "at_place" [v,jo q]) λr ag=>r=w/\f9 σ ag:=by
 rw[abT];refine al (m:=eY _) aa (jz (l:=q.map V.int) (J:=λaf=>True) aa mx (λi loc ag=>c8 λw' o=>eH (loc=[I w',I (jo q),o,U]) (i2 w' (q.drop i) w) (f9 σ ag)) (λaf aJ b3 eW=>aL) ⟨_,_,aa,h,.refl⟩ ?_ ?_)
 ·rintro i u loc ag aY ⟨w',o,rfl,h',a⟩;replace aY:=e6 ▸ aY;obtain⟨z,hz,rfl⟩:=eU.mp aY;have hd:q.drop i=z::q.drop (i+1):=by
   rw[yM (cE hz)];congr 1;exact gm ((cD (cE hz)).symm.trans hz)
  replace h':=hd ▸ h'
  cases h' with
  |cons dQ hp gi=>
   rw[abU];exact al (Cq dQ) (al (ir (i:=_) cP (i6 _) (by rw[Int.toNat_natCast];exact hp)) (bZ ⟨_,_,aa,gi,a.new⟩))
 ·rintro loc ag ⟨w',o,rfl,h',a⟩;replace h':=(List.drop_length ..) ▸ (bC ..) ▸ h';rw[abV]
  cases h' with
  |nil=>exact bZ ⟨aa,a⟩
noncomputable def C0:V->Str
 |.str s=>s
 |_ => ""
noncomputable def FL:V->Str
 |.tup (.str s::_)=>s
 |_ => ""
noncomputable def Dc:V->V
 |.tup [_,p]=>p
 |_=>.none
def YZ(w:Str)(r:List V):Option (Form×List V):=
 if w = "number" then (match r with|[.int z]=>I (.num z,[])|_=>U)
 else if w = "input" then (match r with|[.int i]=>I (.bu i.toNat,[])|_=>U)
 else if w = "make" then (match r with|[.tup ps]=>I (.make (ps.map FL),ps.map Dc)|_=>U)
 else if w = "get" then (match r with|[p,q]=>I (.get (C0 q),[p])|_=>U)
 else if w = "put" then (match r with|[p,l,q]=>I (.put (C0 l),[p,q])|_=>U)
 else if w = "sum" then I (.sum,r)
 else if w = "call" then (match r with|[f,.tup ps]=>I (.call (C0 f),ps)|_=>U)
 else U
def dec:V->Option (Form×List V)
 |.tup (.str w::r)=>YZ w r
 |_=>U
theorem Gj(h:ie f ps):dec (cf f ps)=I (f,ps):=by
 induction f with
 |num z=>subst h;rfl
 |bu i=>subst h;rfl
 |make ls=>
  have av:((ls.zip ps).map gp).map FL=ls:=by rw[gw];exact afv (by rw[h.1];exact bx _)
  have ay:((ls.zip ps).map gp).map Dc=ps:=by rw[gw];exact afu (by rw[h.1];exact bx _)
  refine(?_:I (Form.make (((ls.zip ps).map gp).map FL),((ls.zip ps).map gp).map Dc)=_);rw[av,ay]
 |get l=>
  obtain⟨p,rfl⟩:(∃p,ps=[p]):=HJ.mp h;rfl
 |put l=>
  obtain⟨p,q,rfl⟩:=rN h;rfl
 |sum=>rfl
 |call f=>rfl
theorem mk_inj(h:ie f ps)(h':ie hM hk)(e:cf f ps=cf hM hk):f=hM/\ps=hk:=by
 have h1:=Gj h;replace h1:=Gj h' ▸ e ▸ h1;cases h1;exact⟨aa,aa⟩
theorem i2.uniq(h:i2 v q u)(h':i2 v q hE):u=hE:=by
 generalize aM:v=v' at h'
 induction h generalizing v' with
 |nil=>subst aM;cases h';rfl
 |@cons f ps i p w q dQ hp h aj=>
  cases h' with
  |cons iT mM gi=>
   obtain⟨rfl,rfl⟩:=mk_inj dQ iT aM;replace mM:=hp ▸ mM;cases mM;exact aj _ aa gi
theorem RW(h:[a,b].Sublist o):[i::a,i::b].Sublist (o.map λq=>i::q):=h.map (λq=>i::q)
theorem RZ{o:List Place}{ca:List (List Place)}{k i:Nat}(h:ca[i]? =I o):(o.map λq=>((k+i:Nat):Int)::q).Sublist (flat k ca):=by
 induction ca generalizing k i with
 |nil=>exact a5 h
 |cons o' ca aj=>
  refine(?_:List.Sublist _ (o'.map _++flat (k+1) ca))
  induction i using Nat.casesOn with
  |zero=>cases h;exact afm _ _
  |succ i=>
   have:=aj (k:=k+1) h;rw[pd,qq 1]at this;exact this.trans (List.sublist_append_right _ _)
theorem FP:∀{ca:List (List Place)}{k:Nat},(∀o∈ca,o.Nodup)->(flat k ca).Nodup:=by
 intro cO
 induction cO with
 |nil=>intro k _;exact mr
 |cons o ca FP=>
  intro k h;refine(?_:(o.map _++flat (k+1) ca).Nodup);rw[rH];refine⟨?_,FP λo' ho=>h o' (dz _ ho),?_⟩
  ·have:=h o b9;exact ahb _ (λa b pW q=>pW (kz q).2) this
  ·intro a aV b au e;obtain⟨r,_,rfl⟩:=ez.mp aV;obtain⟨i,o',bI,_,_,rfl⟩:=p1.mp au;have:=(kz e).1;have:(k:Int)=((k+1+i:Nat):Int):=this;exact absurd (yN this) (gv (d4 (jY _) (ha ..)))
theorem iC.nodup:∀{n:Nat}{v:V}{os:List Place},iC n v os->os.Nodup:=by
 intro n
 induction n with
 |zero=>intro v os h;exact h.elim
 |succ n aj=>
  rintro v os ⟨f,ps,ca,_,_,hl,aA,rfl⟩;rw[rH];refine⟨FP λo ho=>?_,hV.mpr ⟨List.not_mem_nil,mr⟩,λa aV b au e=>?_⟩
  ·obtain⟨i,aI,rfl⟩:=m8.mp ho;exact aj (aA i _ _ (cD (by rw[<-hl];exact aI)) (cD aI))
  ·obtain⟨i,o',bI,_,_,rfl⟩:=p1.mp aV;rw[bN.mp au]at e;exact NA e
theorem iC.last{n:Nat}{v:V}{os:List Place}(h:iC n v os):[]∈os:=by
 induction n with
 |zero=>exact h.elim
 |succ n=>
  obtain⟨f,ps,ca,_,_,hl,aA,rfl⟩:=h;exact iH _ b9
theorem iC.at:∀{n:Nat}{v:V}{os:List Place},iC n v os->∀q∈os,(c8 λf ps=>eH (ie f ps) (i2 v q (cf f ps)) (∀j,j<ps.length->[q++[(j:Int)],q].Sublist os)):=by
 intro n
 induction n with
 |zero=>intro v os h;exact h.elim
 |succ n aj=>
  intro v os dh q aH;refine aB λae=>?_;obtain⟨f,ps,ca,rfl,dQ,hl,aA,rfl⟩:=dh;rcases gb.mp aH with aH|aH
  ·skip
   obtain⟨i,o,r,h1,h2,rfl⟩:=p1.mp aH;have aI:i<ps.length:=by rw[<-hl];exact cE h1
   have hp:ps[i]? =I ps[i]:=cD aI;obtain⟨hM,hk,iT,df,az⟩:=aj (aA i _ o hp h1) r h2;refine ae ?_;rw[kx];refine⟨hM,hk,iT,.cons dQ hp df,λj bh=>?_⟩;have h3:=RZ (k:=0) h1;replace h3:=(kx ..) ▸ h3;exact((RW (az j bh)).trans h3).trans (afm _ _)
  ·refine ae ?_;rw[bN.mp aH];refine⟨f,ps,dQ,.nil,λj bh=>?_⟩;have rb:j<ca.length:=by rw[hl];exact bh
   have h1:ca[j]? =I ca[j]:=cD rb;exact aha (List.singleton_sublist.mpr (p1.mpr ⟨j,_,[],h1,(aA j _ _ (cD bh) h1).last,by rw[kx]⟩:[(j:Int)]∈flat 0 ca)) (ag9 _)
theorem ahead{os:List Place}{a q:Place}{i:Nat}(aF:os.Nodup)(h:[a,q].Sublist os)(aH:os[i]? =I q):a∈os.take i:=by
 have e:os=os.take i++q::os.drop (i+1):=by
  have:=vP i os;rw[yM (cE aH),gm ((cD (cE aH)).symm.trans aH)]at this;exact this.symm
 rw[e]at h aF;obtain⟨lH,kL,ay,s1,s2⟩:=List.sublist_append_iff.mp h;rw[rH]at aF
 induction lH using List.casesOn with
 |nil=>
  have ay:[a,q]=kL:=ay;subst ay;have uM:q∉os.drop (i+1):=(hV.mp aF.2.1).1
  cases s2 with
  |cons _ s=>exact absurd (s.subset (dz _ b9)) uM
  |cons_cons _ s=>exact absurd (s.subset b9) uM
 |cons b lH=>
  have:a=b:=(kz ay).1;subst this;exact s1.subset b9
end
section
variable {n m x y a b B:Nat}{v:V}{τ:Nat->R}
structure iY(G a3:dr)(x:Nat)(P:(Nat->T)->(Nat->R)->T->Prop):Prop where
 grow:Grows G a3
 ok:bV a3
 gen:c6 a3
 eE:cq a3 x
 sol:∀{ρ τ},bb ρ τ a3->bb ρ τ G
 back:∀{ρ τ},bb ρ τ a3->P ρ τ (ρ x)
 ext:∀{ρ τ t},bb ρ τ G->P ρ τ t->(c8 λaU bH=>hA (bb aU bH a3) (Agree aU bH ρ τ G) (aU x=t) (∀B,d7 B ρ τ G->dS B t->d7 B aU bH a3))
theorem d7.mono(h:d7 B ρ τ G)(au:B<=Hu):d7 Hu ρ τ G:=⟨λn ao=>(h.1 n ao).mono au,λn ao=>let r:=h.2 n ao;⟨b0 r.size au,r.len,r.ec⟩⟩
def oY(σ:aN)(G:dr)(P:(Nat->T)->(Nat->R)->T->Prop)(v:V)(ag:aN):Prop:=(c8 λx a3=>hA (v=.ref x) (iY G a3 x P) (bU ag a3) (cc σ ag))
theorem MT(h:0<B):dS B .num:=⟨h,aL⟩
theorem MR(h:dS B t):0<B:=d4 (T.pos t) h.size
theorem iY.num(O:bV G)(H:c6 G)(ao:G n=U):iY G (put G n (.bg .num U)) n λaf aJ t=>t=.num where
 grow:=g7 ao
 ok:=O.new ao aa aL
 gen:=H.gq O ao
 eE:=⟨_,_,dK⟩
 sol:=λS=>((bb.gq ao).mp S).1
 back:=λS=>((bb.gq ao).mp S).2
 ext:=λ{ρ τ t} S p=>⟨upd ρ n t,τ,S.qa O ao (by refine(?_:upd ρ n t n=.num);rw[fy];exact p),mU ao,fy,λB hB aZ=>rp ao hB aZ⟩
theorem iY.same(O:bV G)(H:c6 G)(ak:cq G x):iY G G x λρ af t=>t=ρ x where
 grow:=.refl
 ok:=O
 gen:=H
 eE:=ak
 sol:=id
 back:=λaf=>aa
 ext:=λ{ρ τ t} S p=>⟨ρ,τ,S,.refl,p.symm,λB hB af=>hB⟩
theorem Step.Rq(s:Step G a3 P)(s':iY a3 iE x kq)(h:∀{ρ τ aU bH t},bb ρ τ G->Agree aU bH ρ τ G->Q ρ τ t->P ρ τ/\(bb aU bH a3->kq aU bH t))(au:∀{ρ τ},bb ρ τ iE->Q ρ τ (ρ x)):iY G iE x Q where
 grow:=s.grow.trans s'.grow
 ok:=s'.ok
 gen:=s'.gen
 eE:=s'.eE
 sol:=λS=>s.sol (s'.sol S)
 back:=au
 ext:=λ{ρ τ t} S q=>by
  refine aB λae=>?_;obtain⟨a7,eA,e3,gk,iA⟩:=s.ext S (h S .refl q).1;obtain⟨eI,mu,gN,hy,e,lU⟩:=s'.ext e3 ((h S gk q).2 e3);exact ae ⟨eI,mu,gN,gk.trans s.grow hy,e,λB hB aZ=>lU B (iA B hB) aZ⟩
theorem iY.then(s:iY G a3 x P)(s':Step a3 iE kq)(t:T)(aP:∀{B},dS B t\/∀{ρ τ},P ρ τ t->d7 B ρ τ G->dS B t)(h:∀{ρ τ aU bH},bb ρ τ G->Agree aU bH ρ τ G->Q ρ τ->P ρ τ t/\(bb aU bH a3->aU x=t->kq aU bH))(au:∀{ρ τ},bb ρ τ iE->Q ρ τ):Step G iE Q where
 grow:=s.grow.trans s'.grow
 ok:=s'.ok
 gen:=s'.gen
 sol:=λS=>s.sol (s'.sol S)
 back:=au
 ext:=λ{ρ τ} S q=>by
  refine aB λae=>?_;obtain⟨a7,eA,e3,gk,e,iA⟩:=s.ext S (h S .refl q).1;obtain⟨eI,mu,gN,hy,lU⟩:=s'.ext e3 ((h S gk q).2 e3 e);exact ae ⟨eI,mu,gN,gk.trans s.grow hy,λB hB=>lU B (iA B hB (aP.elim id λf=>f (h S .refl q).1 hB))⟩
theorem Cr(O:bV G)(H:c6 G)(g:bU σ G)(aE:0<σ.length):Wp σ (el (aC (d+1)) "Spot" [(V.str "number"),.int now,V.none]) (oY σ G λaf aJ t=>t=.num):=by
 refine aB λae=>?_;obtain⟨n,ag,e,ao,ck,le⟩:=rL (d:=d) g aE .num now;exact ae (jR e ⟨n,_,aa,iY.num O H ao,ck,le⟩)
theorem Io{now:Int}(J:JoinOk B (d+1))(hB:B<=1000)(O:bV G)(H:c6 G)(S:bb bK bR G)(bd:d7 B bK bR G)(g:bU σ G)(aE:0<σ.length)(aV:cq G a)(he:bK a=.num)
  (next:∀{v ag a3},Step G a3 (λρ af=>ρ a=.num)->bU ag a3->cc σ ag->Wp ag (K v) Q):Wp σ (el (aC (d+1)) "Spot" [(V.str "number"),.int now,V.none]>>=λs=>bc (d+1) "join" [.ref a,s,.int now]>>=K) Q:=by
 refine Wp.step (Cr O H g aE) ?_;intro k9 cJ dh;refine aB λae=>?_;obtain⟨x,tG,rfl,s1,g1,dG⟩:=dh;obtain⟨Cc,yS,mW,e5,av,eO⟩:=s1.ext S aa;have Mx:0<B:=MR (bd.1 a aV:dS B (bK a));have cG:Cc a=.num:=by rw[e5.1 a aV];exact he
 refine ae (Wp.step (J s1.ok s1.gen mW ((eO B bd (MT Mx)).mono hB) g1 (d4 aE dG.len) (s1.grow.eE aV) s1.eE (by rw[cG,av]) (by rw[cG];exact Mx)) ?_);intro v b6 dh;refine aB λae=>?_;obtain⟨_,gF,s2,g2,cM⟩:=dh;refine ae (next (s1.then s2 .num ?_ (λ{ρ τ aU bH} S A q=>⟨aa,λaf e=>?_⟩) λ{ρ τ} S=>?_) g2 (dG.trans cM))
 ·exact .inr λ{ρ τ} _ au=>MT (MR (au.1 a aV))
 ·rw[A.1 a aV,q,e]
 ·rw[s2.back S];exact s1.back (s2.sol S)
def got(G:dr)(l:Str)(cK rs f s:Nat):dr:=put (put (put (put G cK (.bg .bo U)) rs (.tail .bo U)) f (.tail (.cF l cK rs) U)) s (.bg (.aQ f) U)
structure Got(G:dr)(cK rs f s:Nat):Prop where
 a:G cK=U
 b:put G cK (.bg .bo U) rs=U
 c:∀l,put (put G cK (.bg .bo U)) rs (.tail .bo U) f=U/\put (put (put G cK (.bg .bo U)) rs (.tail .bo U)) f (.tail (.cF l cK rs) U) s=U
variable {l:Str}{cK rs f s:Nat}
theorem r7(h:put G n aF m=U):m≠n/\G m=U:=by
 by_cases e:m=n
 ·subst e;rw[dK]at h;exact fU h
 ·rw[d6 e]at h;exact⟨e,h⟩
theorem Got.ne(h:Got G cK rs f s):rs≠cK/\f≠cK/\f≠rs/\s≠cK/\s≠rs/\s≠f:=by
 obtain⟨h1,h2⟩:=h.c "";have cI:=r7 h1;have c4:=r7 cI.2;have kZ:=r7 h2;have ve:=r7 kZ.2;have Gl:=r7 ve.2;exact⟨(r7 h.b).1,c4.1,cI.1,Gl.1,ve.1,kZ.1⟩
theorem Got.ok(h:Got G cK rs f s)(O:bV G)(H:c6 G):Grows G (got G l cK rs f s)/\bV (got G l cK rs f s)/\c6 (got G l cK rs f s):=by
 have qd:bV (put G cK (.bg .bo U)):=O.new h.a aa aL;have m0:bV (put (put G cK (.bg .bo U)) rs (.tail .bo U)):=qd.new h.b aa aL;have m2:=(H.gq O h.a (w:=.bo)).DS qd h.b;have xe:dy (put (put G cK (.bg .bo U)) rs (.tail .bo U)) rs:=⟨_,_,dK⟩;have Bw:bV (put (put (put G cK (.bg .bo U)) rs (.tail .bo U)) f (.tail (.cF l cK rs) U)):=m0.new (h.c l).1 aa ⟨((g7 h.b).eE ⟨_,_,dK⟩:cq (put (put G cK (.bg .bo U)) rs (.tail .bo U)) cK),xe⟩;have tE:=m2.DT m0 (h.c l).1 xe (l:=l) (k:=cK) λE=>by rw[E.hX dK];rfl
 exact⟨(g7 h.a).trans ((g7 h.b).trans ((g7 (h.c l).1).trans (g7 (h.c l).2))),Bw.new (h.c l).2 aa ⟨_,_,dK⟩,tE.gq Bw (h.c l).2⟩
theorem Got.sol(h:Got G cK rs f s)(S:bb ρ τ (got G l cK rs f s)):bb ρ τ G/\(τ rs).up/\(τ rs).look l=U/\ρ s=.aQ ((τ rs).ins l (ρ cK)):=by
 refine aB λae=>?_;obtain⟨rA,dB⟩:=(bb.gq (h.c l).2).mp S;obtain⟨yj,_,ay⟩:=(bb.iO (h.c l).1).mp rA;obtain⟨mW,av,_⟩:=(bb.iO h.b).mp yj;obtain⟨Z8,_⟩:=(bb.gq h.a).mp mW;exact ae ⟨Z8,av,ay.1,by rw[show ρ s=.aQ (τ f) from dB,ay.2]⟩
theorem Got.ext(h:Got G cK rs f s)(O:bV G)(S:bb ρ τ G)(aY:r.up)(hl:r.look l=U) :
  (c8 λaU bH=>vJ (bb aU bH (got G l cK rs f s)) (Agree aU bH ρ τ G) (aU cK=t) (bH rs=r) (aU s=.aQ (r.ins l t)) (∀B,d7 B ρ τ G->dS B (.aQ (r.ins l t))->d7 B aU bH (got G l cK rs f s))):=by
 have qd:bV (put G cK (.bg .bo U)):=O.new h.a aa aL;have m0:bV (put (put G cK (.bg .bo U)) rs (.tail .bo U)):=qd.new h.b aa aL;have xe:dy (put (put G cK (.bg .bo U)) rs (.tail .bo U)) rs:=⟨_,_,dK⟩;have Bw:bV (put (put (put G cK (.bg .bo U)) rs (.tail .bo U)) f (.tail (.cF l cK rs) U)):=m0.new (h.c l).1 aa ⟨((g7 h.b).eE ⟨_,_,dK⟩:cq (put (put G cK (.bg .bo U)) rs (.tail .bo U)) cK),xe⟩;refine aB λae=>?_;obtain⟨eZ,n2,nA,uk,pI,qU⟩:=h.ne;have yj:bb (upd ρ cK t) (upd τ rs r) (put (put G cK (.bg .bo U)) rs (.tail .bo U)):=(S.qa O h.a aL:bb (upd ρ cK t) τ (put G cK (.bg .bo U))).n5 qd h.b aY aL;have av:(upd τ rs r) rs=r:=fy;have rA:=yj.n5 m0 (h.c l).1 (w:=.cF l cK rs) (r:=(upd τ rs r rs).ins l (upd ρ cK t cK)) (R.lh (by rw[av];exact aY) (by rw[av];exact hl)) (wm (h.c l).1 xe (by rw[av];exact hl));rw[av,(fy:(upd ρ cK t) cK=t)]at rA;have G0:=rA.qa Bw (h.c l).2 (w:=.aQ f) (t:=.aQ (r.ins l t)) (by refine(?_:upd _ s _ s=T.aQ (upd (upd τ rs r) f (r.ins l t) f));rw[fy,fy]);refine ae ⟨_,_,G0,?_,by rw[lg uk.symm,fy],by rw[lg nA.symm,fy],fy,λB hB aZ=>?_⟩
 ·exact(mU (τ:=τ) h.a).trans (g7 h.a) ((lW (ρ:=upd ρ cK t) h.b).trans (g7 h.b) ((lW (h.c l).1).trans (g7 (h.c l).1) (mU (h.c l).2)))
 ·have aX:=aZ.aQ;exact rp (h.c l).2 (p9 (h.c l).1 (p9 h.b (rp h.a hB aX.ins.1) aX.ins.2) aX) aZ
def BH(a:Nat)(l:Str)(ρ:Nat->T)(τ:Nat->R)(t:T):Prop:=(∃r:R,eH r.up (r.look l=U) (ρ a=.aQ (r.ins l t)))
def Bk(a c:Nat)(l:Str)(ρ:Nat->T)(τ:Nat->R)(t:T):Prop:=(c8 λ(r:R) (u:T)=>hA r.up (r.look l=U) (ρ a=.aQ (r.ins l u)) (t=.aQ (r.ins l (ρ c))))
theorem Iv{now:Int}{u:T}{r:R}(J:JoinOk B (d+2))(hB:B<=1000)(O:bV G)(H:c6 G)(S:bb bK bR G)(bd:d7 B bK bR G)(g:bU σ G)(aE:0<σ.length)(aV:cq G a)(aY:r.up)(hl:r.look l=U)(he:bK a=.aQ (r.ins l u)){α:Type}{K:V->V->M α}{Q:α->aN->Prop}
  {du:M V}{eR:M V}(fN:∀{ag},cc σ ag->du ag=.ok (.ref a) ag) (xu:∀{ag},cc σ ag->eR ag=.ok (.str l) ag)
  (next:∀{cK rs f s ag a3},Got G cK rs f s->Step (got G l cK rs f s) a3 (λρ af=>ρ a=ρ s)->bU ag a3->cc σ ag->Wp ag (K (.ref cK) (.ref rs)) Q) :
  Wp σ (bc (d+2) "unknown_kind" []>>=λI4=>bc (d+2) "unknown_rest" []>>=λI3=>du>>=λRH=>eR>>=λRG=>bc (d+2) "field" [RG,I4,.int now,I3]>>=λRF=>el (aC (d+2)) "Spot" [(V.str "record"),.int now,RF]>>=λRE=>bc (d+2) "join" [RH,RE,.int now]>>=λaf6=>K I4 I3) Q:=by
 refine aB λae=>?_;obtain⟨cK,cJ,av,eZ,g1,dG⟩:=Cp (d:=d) g aE;have h1:=d4 aE dG.len;obtain⟨rs,b6,ay,n2,g2,cM⟩:=yV (d:=d) g1 h1;have h2:=d4 h1 cM.len;obtain⟨f,dq,dB,nA,g3,dW⟩:=w_field (d:=d) g2 h2 l cK rs now;have h3:=d4 h2 dW.len;obtain⟨s,iI,eM,uk,dk,d1⟩:=rL (d:=d+1) g3 h3 (.aQ f) now;have bY:=d4 h3 d1.len;have hg:Got G cK rs f s:=⟨eZ,n2,λl'=>⟨nA,by
  obtain⟨q,eD⟩:=r7 uk;rw[d6 q];exact eD⟩⟩
 have Ef:=dG.trans cM;refine ae (al (m:=bc _ _ _) av (al (m:=bc _ _ _) ay (al (fN Ef) (al (xu Ef) (al (m:=bc _ _ _) dB (al (m:=el _ _ _) eM ?_))))));refine aB λae=>?_;obtain⟨ia,Ha,rE⟩:=hg.ok (l:=l) O H;obtain⟨aU,bH,bG,A,d8,eD,mE,yc⟩:=hg.ext (l:=l) (t:=u) O S aY hl;have aZ:dS B (.aQ (r.ins l u)):=by rw[<-he];exact bd.1 a aV
 have cG:aU a=.aQ (r.ins l u):=by rw[A.1 a aV];exact he
 refine ae (Wp.step (J Ha rE bG ((yc B bd aZ).mono hB) dk bY (ia.eE aV) ⟨_,_,dK⟩ (by rw[cG,mE]) (by rw[cG];exact aZ.size)) ?_);intro v hb dh;refine aB λae=>?_;obtain⟨_,oh,Sz,fc,hn⟩:=dh;exact ae (next hg Sz fc (Ef.trans (dW.trans (d1.trans hn))))
theorem Got.get(hg:Got G cK rs f s)(O:bV G)(H:c6 G)(aV:cq G a)(st:Step (got G l cK rs f s) a3 (λρ af=>ρ a=ρ s)):iY G a3 cK (BH a l):=by
 refine aB λae=>?_;obtain⟨ia,Ha,rE⟩:=hg.ok (l:=l) O H;have Lv:cq (got G l cK rs f s) cK:=by
  obtain⟨eZ,n2,nA,uk,pI,qU⟩:=hg.ne;refine⟨.bo,U,?_⟩;unfold got;rw[d6 uk.symm,d6 n2.symm,d6 eZ.symm,dK]
 refine ae ⟨ia.trans st.grow,st.ok,st.gen,st.grow.eE Lv,λS=>(hg.sol (st.sol S)).1,λ{ρ τ} S=>?_,λ{ρ τ t} S a8=>?_⟩
 ·refine aB λae=>?_;obtain⟨_,h1,h2,h3⟩:=hg.sol (st.sol S);exact ae ⟨τ rs,h1,h2,by rw[st.back S,h3]⟩
 ·obtain⟨r,aY,hl,he⟩:=a8;refine aB λae=>?_;obtain⟨aU,bH,bG,A,d8,eD,mE,yc⟩:=hg.ext (l:=l) (t:=t) O S aY hl;obtain⟨j2,mv,kp,hC,cT⟩:=st.ext bG (by rw[A.1 a aV,he,mE]);refine ae ?_;exact⟨j2,mv,kp,A.trans ia hC,by rw[hC.1 cK Lv];exact d8,λB hB af=>cT B (yc B hB (by rw[<-he];exact hB.1 a aV))⟩
theorem Got.put{c nX x:Nat}(hg:Got G cK rs f s)(O:bV G)(H:c6 G)(aV:cq G a)(aA:cq G c)(st:Step (got G l cK rs f s) a3 (λρ af=>ρ a=ρ s))(aZ:a3 nX=U)(ak:Mine.Internal.put a3 nX (.tail (.cF l c rs) U) x=U) :
  iY G (Mine.Internal.put (Mine.Internal.put a3 nX (.tail (.cF l c rs) U)) x (.bg (.aQ nX) U)) x (Bk a c l):=by
 refine aB λae=>?_;obtain⟨ia,Ha,rE⟩:=hg.ok (l:=l) O H;have Lm:dy (got G l cK rs f s) rs:=by
  obtain⟨eZ,n2,nA,uk,pI,qU⟩:=hg.ne;refine⟨.bo,U,?_⟩;unfold got;rw[d6 pI.symm,d6 nA.symm,dK]
 have Ex:=st.grow.lI Lm;have G9:bV (Mine.Internal.put a3 nX (.tail (.cF l c rs) U)):=st.ok.new aZ aa ⟨(st.grow.eE (ia.eE aA)),Ex⟩;have ad3:=st.gen.DT st.ok aZ Ex (l:=l) (k:=c) λE=>(λS=>(hg.sol (st.sol S)).2.2.1:∀{ρ τ},bb ρ τ a3->(τ rs).look l=U) E.sol;refine ae ⟨ia.trans (st.grow.trans ((g7 aZ).trans (g7 ak))),G9.new ak aa ⟨_,_,dK⟩,ad3.gq G9 ak,⟨_,_,dK⟩,λS=>?_,λ{ρ τ} S=>?_,λ{ρ τ t} S a8=>?_⟩
 ·exact(hg.sol (st.sol ((bb.iO aZ).mp ((bb.gq ak).mp S).1).1)).1
 ·refine aB λae=>?_;obtain⟨vq,mS⟩:=(bb.gq ak).mp S;obtain⟨bG,_,eM⟩:=(bb.iO aZ).mp vq;obtain⟨_,h1,h2,h3⟩:=hg.sol (st.sol bG);exact ae ⟨τ rs,ρ cK,h1,h2,by rw[st.back bG,h3],by rw[show ρ x=.aQ (τ nX) from mS,eM.2]⟩
 ·obtain⟨r,u,aY,hl,he,aP⟩:=a8;refine aB λae=>?_;obtain⟨aU,bH,bG,A,d8,eD,mE,yc⟩:=hg.ext (l:=l) (t:=u) O S aY hl;obtain⟨j2,mv,kp,hC,cT⟩:=st.ext bG (by rw[A.1 a aV,he,mE]);have av:mv rs=r:=by rw[hC.2 rs Lm];exact eD
  have vq:=kp.n5 st.ok aZ (w:=.cF l c rs) (r:=(mv rs).ins l (j2 c)) (R.lh (by rw[av];exact aY) (by rw[av];exact hl)) (wm aZ Ex (by rw[av];exact hl));rw[av,(by rw[hC.1 c (ia.eE aA),A.1 c aA]:j2 c=ρ c)]at vq;have Z7:=vq.qa G9 ak (w:=.aQ nX) (t:=t) (by refine(?_:upd j2 x t x=.aQ (upd mv nX (r.ins l (ρ c)) nX));rw[fy,fy];exact aP);refine ae ⟨_,_,Z7,A.trans ia (hC.trans st.grow ((lW aZ).trans (g7 aZ) (mU ak))),fy,λB hB Fg=>?_⟩;refine rp ak (p9 aZ (cT B (yc B hB (by rw[<-he];exact hB.1 a aV))) ?_) Fg;rw[aP]at Fg;exact Fg.aQ
theorem Chain.made(O:bV G)(H:c6 G)(he:G e=U)(ar:∀p∈ls,cq G p.2)(aF:(ls.map (·.1)).Nodup)(c:Chain (Mine.Internal.put G e (.tail .fin U)) e ls h a3)(ak:a3 x=U) :
  iY G (Mine.Internal.put a3 x (.bg (.aQ h) U)) x λρ af t=>t=.aQ (de (vals ρ ls) .nil):=by
 have qd:bV (Mine.Internal.put G e (.tail .fin U)):=O.new he aa aL;have Ga:dy (Mine.Internal.put G e (.tail .fin U)) e:=⟨_,_,dK⟩;have ia:=g7 (aF:=.tail .fin U) he;have nR:∀p∈ls,cq (Mine.Internal.put G e (.tail .fin U)) p.2:=λp hp=>ia.eE (ar p hp);obtain⟨et,a8⟩:=c.ok qd Ga nR;have zM:∀{ρ τ},bb ρ τ (Mine.Internal.put G e (.tail .fin U))->τ e=.nil:=λS=>(S.tail dK).2.1;have Kp:∀{ls:List Str}{r:R},r=.nil->Off ls r:=λq l af=>by rw[q];rfl
 have hT:c6 a3:=by
  refine aB λae=>?_;obtain⟨ρ,τ,E⟩:=H.KC O he;obtain⟨bH,bG,A,ut,us,_⟩:=c.ext qd Ga nR aF E.sol (Kp (zM E.sol));refine ae ?_;exact⟨ρ,bH,bG,λq=>E.vs (us q),λq=>by rw[A.2 _ ⟨_,_,ut q⟩];exact E.hX (ut q)⟩
 refine⟨ia.trans (c.grow.trans (g7 ak)),et.new ak aa a8,hT.gq et ak,⟨_,_,dK⟩,λS=>?_,λ{ρ τ} S=>?_,λ{ρ τ t} S aP=>?_⟩
 ·exact((bb.iO he).mp (c.sol ((bb.gq ak).mp S).1).1).1
 ·refine aB λae=>?_;obtain⟨bG,av⟩:=(bb.gq ak).mp S;obtain⟨kp,ay,_⟩:=c.sol bG;refine ae ?_;rw[show ρ x=.aQ (τ h) from av,ay,zM kp]
 ·have mW:bb ρ (upd τ e .nil) (Mine.Internal.put G e (.tail .fin U)):=S.n5 O he aL fy;refine aB λae=>?_;obtain⟨bH,bG,A,_,_,b⟩:=c.ext qd Ga nR aF mW (Kp (zM mW));have yj:=bG.qa et ak (w:=.aQ h) (t:=t) (by refine(?_:upd ρ x t x=_);rw[fy,(by rw[(c.sol bG).2.1,zM (c.sol bG).1]:bH h=de (vals ρ ls) .nil)];exact aP);refine ae ⟨_,_,yj,(lW he).trans ia (A.trans c.grow (mU ak)),fy,λB hB aZ=>rp ak (b B (p9 he hB ⟨eV _,by decide,aL⟩) ?_) aZ⟩;rw[aP]at aZ;rw[fy];exact aZ.aQ
end
mutual
noncomputable def T.pr:T->V
 |.num=>.tup [.str "number"]
 |.var n=>.tup [.str "blank",.int n]
 |.aQ r=>.tup [.str "record",.tup r.h4,r.iN]
noncomputable def R.h4:R->List V
 |.nil=>[]
 |.b5 _=>[]
 |.fld l t r=>.tup [.str l,t.pr]::r.h4
noncomputable def R.iN:R->V
 |.nil=>.none
 |.b5 n=>.int n
 |.fld _ _ r=>r.iN
end
noncomputable def R.fl:R->List (Str×T)
 |.nil=>[]
 |.b5 _=>[]
 |.fld l t r=>(l,t)::r.fl
noncomputable def R.dx:R->R
 |.nil=>.nil
 |.b5 n=>.b5 n
 |.fld _ _ r=>r.dx
noncomputable def d0:List (Str×T)->R->R
 |[],e=>e
 |p::ps,e=>.fld p.1 p.2 (d0 ps e)
theorem um(r:R):d0 r.fl r.dx=r:=by
 induction r using R.ind with
 |aE=>rfl
 |h1 n=>rfl
 |h2 l t r aj=>refine(?_:R.fld l t (d0 r.fl r.dx)=_);rw[aj]
theorem DG(r:R):r.h4=r.fl.map λp=>V.tup [.str p.1,p.2.pr]:=by
 induction r using R.ind with
 |aE=>rfl
 |h1 n=>rfl
 |h2 l t r aj=>refine(?_:V.tup [.str l,t.pr]::r.h4=_);rw[aj];rfl
theorem DH(r:R):r.iN=r.dx.iN:=by
 induction r using R.ind with
 |aE=>rfl
 |h1 n=>rfl
 |h2 l t r aj=>exact aj
theorem M8(r:R):r.dx=.nil\/(∃n,r.dx=.b5 n):=by
 induction r using R.ind with
 |aE=>exact .inl aa
 |h1 n=>exact .inr ⟨n,aa⟩
 |h2 l t r aj=>exact aj
mutual
noncomputable def T.eK(sp:Nat->Bool):T->Prop
 |.num=>True
 |.var n=>sp n=aw
 |.aQ r=>r.eK sp
noncomputable def R.eK(sp:Nat->Bool):R->Prop
 |.nil=>True
 |.b5 n=>sp n=aS
 |.fld _ t r=>t.eK sp/\r.eK sp
end
mutual
noncomputable def T.dup:T->Prop
 |.num=>True
 |.var _=>True
 |.aQ r=>r.dup
noncomputable def R.dup:R->Prop
 |.nil=>True
 |.b5 _=>True
 |.fld l t r=>r.over l/\t.dup/\r.dup
end
theorem R.rk{r:R}(h:r.dup):r.up:=by
 induction r using R.ind with
 |aE=>trivial
 |h1 n=>trivial
 |h2 l t r aj=>exact⟨h.1,aj h.2.2⟩
theorem R.zX{l:Str}{r:R}(aY:r.up)(ho:r.over l):r.look l=U:=by
 induction h:r.look l with
 |none=>rfl
 |some _=>have:=R.ug aY ho (m:=l) (by rw[h];exact nofun);rw[C4]at this;exact fw this
theorem R.Uy{f:Nat->T}{g:Nat->R}{l:Str}{r:R}(h:r.c5 f g)(hl:r.look l=U)(hg:∀n,r.dx=.b5 n->(g n).look l=U):(r.sub f g).look l=U:=by
 induction r using R.ind with
 |aE=>rfl
 |h1 n=>exact hg n aa
 |h2 m t r aj=>
  obtain⟨_,h2,h3⟩:=h;rw[R.sf]at hl;by_cases e:m=l
  ·rw[aK e]at hl;exact fU hl
  ·rw[aR e]at hl;show((r.sub f g).ins m (t.sub f g)).look l=U;rw[R.iv h3,aR e];exact aj h2 hl hg
theorem T.Dh(h:p∈r.fl):p.2.size<(T.aQ r).size:=by
 refine(?_:p.2.size<1+r.size)
 induction r using R.ind with
 |aE=>cases h
 |h1 n=>cases h
 |h2 l t r aj=>
  refine(?_:p.2.size<1+(1+t.size+r.size));rcases List.mem_cons.mp h with e|h
  ·subst e;exact show t.size<_ from bF 0x1481080010802120020 aa
  ·have:=aj h;exact cb 0x5304200042008480080A10802120021 aa this
noncomputable abbrev m4:=List (Nat×Nat)
section
variable {n m x y a b B:Nat}{v:V}{τ:Nat->R}{sp:Nat->Bool}{bM dX vj:m4}{bk:Nat->T}{a6:Nat->R}
def On(sp:Nat->Bool)(bM:m4)(ρ:Nat->T)(τ:Nat->R)(bk:Nat->T)(a6:Nat->R):Prop:=∀p∈bM,(sp p.1=aw->bk p.1=ρ p.2)/\(sp p.1=aS->a6 p.1=τ p.2)
def k4(sp:Nat->Bool)(G:dr)(bM:m4):Prop:=∀p∈bM,(sp p.1=aw->G p.2=I (.bg .bo U))/\(sp p.1=aS->G p.2=I (.tail .bo U))
structure FS(sp:Nat->Bool)(G a3:dr)(bM dX:m4)(val:(Nat->T)->(Nat->R)->(Nat->T)->(Nat->R)->Prop)(c5:(Nat->T)->(Nat->R)->Prop)(fit:Nat->(Nat->T)->(Nat->R)->Prop):Prop where
 same:∀{n aF},G n=I aF->a3 n=I aF
 ok:bV a3
 gen:c6 a3
 iB:k4 sp a3 dX
 aF:(dX.map (·.1)).Nodup
 ble:∀p∈bM,p∈dX
 sol:∀{ρ τ},bb ρ τ a3->bb ρ τ G
 back:∀{ρ τ bk a6},bb ρ τ a3->On sp dX ρ τ bk a6->val ρ τ bk a6/\c5 bk a6
 ext:∀{ρ τ bk a6},bb ρ τ G->On sp bM ρ τ bk a6->(∀n,(a6 n).up)->c5 bk a6->(c8 λaU bH=>hA (bb aU bH a3) (Agree aU bH ρ τ G) (On sp dX aU bH bk a6) (∀B,d7 B ρ τ G->fit B bk a6->d7 B aU bH a3))
variable {val yZ:(Nat->T)->(Nat->R)->(Nat->T)->(Nat->R)->Prop}{c5 vm:(Nat->T)->(Nat->R)->Prop}{fit AJ:Nat->(Nat->T)->(Nat->R)->Prop}
theorem FS.grow(h:FS sp G a3 bM dX val c5 fit):Grows G a3:=⟨λe=>⟨_,h.same e⟩,λe=>⟨_,h.same e⟩⟩
theorem FS.trans(h:FS sp G a3 bM dX val c5 fit)(h':FS sp a3 iE dX vj yZ vm AJ):FS sp G iE bM vj (λρ τ bk a6=>val ρ τ bk a6/\yZ ρ τ bk a6) (λbk a6=>c5 bk a6/\vm bk a6) (λB bk a6=>fit B bk a6/\AJ B bk a6) where
 same:=λe=>h'.same (h.same e)
 ok:=h'.ok
 gen:=h'.gen
 iB:=h'.iB
 aF:=h'.aF
 ble:=λp hp=>h'.ble p (h.ble p hp)
 sol:=λS=>h.sol (h'.sol S)
 back:=λS dP=>by
  refine aB λae=>?_;obtain⟨v2,a2⟩:=h'.back S dP;obtain⟨v1,a1⟩:=h.back (h'.sol S) λp hp=>dP p (h'.ble p hp);exact ae ⟨⟨v1,v2⟩,a1,a2⟩
 ext:=λS dP aY aV=>by
  refine aB λae=>?_;obtain⟨a7,eA,e3,gk,r9,iA⟩:=h.ext S dP aY aV.1;obtain⟨eI,mu,gN,hy,TG,lU⟩:=h'.ext e3 r9 aY aV.2;exact ae ⟨eI,mu,gN,gk.trans h.grow hy,TG,λB hB aZ=>lU B (iA B hB aZ.1) aZ.2⟩
theorem FS.weak(h:FS sp G a3 bM dX val c5 fit)(aM:∀{ρ τ bk a6},bb ρ τ a3->On sp dX ρ τ bk a6->val ρ τ bk a6->c5 bk a6->yZ ρ τ bk a6/\vm bk a6)(aV:∀{bk a6},vm bk a6->c5 bk a6)(aZ:∀{B bk a6},vm bk a6->AJ B bk a6->fit B bk a6):FS sp G a3 bM dX yZ vm AJ:=
 {h with
  back:=λS dP=>by obtain⟨a,b⟩:=h.back S dP;exact aM S dP a b
  ext:=λS dP aY Mn=>by
   refine aB λae=>?_;obtain⟨a7,eA,e3,gk,r9,iA⟩:=h.ext S dP aY (aV Mn);refine ae ?_;exact⟨a7,eA,e3,gk,r9,λB hB rd=>iA B hB (aZ Mn rd)⟩ }
theorem k4.same(h:k4 sp G bM)(az:∀{n aF},G n=I aF->a3 n=I aF):k4 sp a3 bM:=λp hp=>⟨λe=>az ((h p hp).1 e),λe=>az ((h p hp).2 e)⟩
theorem lu(ao:G n=U):∀{m fB},G m=I fB->put G n aF m=I fB:=λe=>by rw[d6 (λq=>by rw[q,ao]at e;exact a5 e)];exact e
def rx(x:Nat)(t:T)(ρ:Nat->T)(τ:Nat->R)(bk:Nat->T)(a6:Nat->R):Prop:=ρ x=t.sub bk a6
def rv(x:Nat)(r:R)(ρ:Nat->T)(τ:Nat->R)(bk:Nat->T)(a6:Nat->R):Prop:=τ x=r.sub bk a6
def qg(t:T)(B:Nat)(bk:Nat->T)(a6:Nat->R):Prop:=dS B (t.sub bk a6)
def rF(r:R)(B:Nat)(bk:Nat->T)(a6:Nat->R):Prop:=kr B (r.sub bk a6)
theorem FS.TT(O:bV G)(H:c6 G)(au:k4 sp G bM)(aF:(bM.map (·.1)).Nodup)(ao:G n=U):FS sp G (put G n (.bg .num U)) bM bM (rx n .num) (T.num.c5) (qg .num) where
 same:=lu ao
 ok:=O.new ao aa aL
 gen:=H.gq O ao
 iB:=au.same (lu ao)
 aF:=aF
 ble:=λaf h=>h
 sol:=λS=>((bb.gq ao).mp S).1
 back:=λS af=>⟨((bb.gq ao).mp S).2,aL⟩
 ext:=λ{ρ τ bk a6} S dP _ _=>⟨upd ρ n .num,τ,S.qa O ao fy,mU ao,λp hp=>⟨λe=>by rw[(mU (ρ:=ρ) (τ:=τ) ao).1 p.2 ⟨_,_,(au p hp).1 e⟩];exact(dP p hp).1 e,(dP p hp).2⟩,λB hB aZ=>rp ao hB aZ⟩
theorem FS.TL(O:bV G)(H:c6 G)(au:k4 sp G bM)(aF:(bM.map (·.1)).Nodup)(ak:(k,x)∈bM)(ar:sp k=aw):FS sp G G bM bM (rx x (.var k)) ((T.var k).c5) (qg (.var k)) where
 same:=id
 ok:=O
 gen:=H
 iB:=au
 aF:=aF
 ble:=λaf h=>h
 sol:=id
 back:=λS dP=>⟨((dP _ ak).1 ar).symm,aL⟩
 ext:=λ{ρ τ bk a6} S dP _ _=>⟨ρ,τ,S,.refl,dP,λB hB af=>hB⟩
theorem FS.TK(O:bV G)(H:c6 G)(au:k4 sp G bM)(aF:(bM.map (·.1)).Nodup)(ak:(k,x)∈bM)(ar:sp k=aS):FS sp G G bM bM (rv x (.b5 k)) ((R.b5 k).c5) (rF (.b5 k)) where
 same:=id
 ok:=O
 gen:=H
 iB:=au
 aF:=aF
 ble:=λaf h=>h
 sol:=id
 back:=λ{ρ τ bk a6} S dP=>by
  have e:=(dP _ ak).2 ar;refine⟨e.symm,?_⟩;show(a6 k).up;rw[e];exact(S.tail ((au _ ak).2 ar)).1
 ext:=λ{ρ τ bk a6} S dP _ _=>⟨ρ,τ,S,.refl,dP,λB hB af=>hB⟩
theorem Kj(A:Agree aU bH ρ τ G)(au:k4 sp G bM)(dP:On sp bM ρ τ bk a6)(h1:sp k=aw->bk k=aU x)(h2:sp k=aS->a6 k=bH x):On sp (bM++[(k,x)]) aU bH bk a6:=λp hp=>by
 rcases gb.mp hp with hp|hp
 ·exact⟨λe=>by rw[A.1 p.2 ⟨_,_,(au p hp).1 e⟩];exact(dP p hp).1 e,λe=>by rw[A.2 p.2 ⟨_,_,(au p hp).2 e⟩];exact(dP p hp).2 e⟩
 ·rw[bN.mp hp];exact⟨h1,h2⟩
theorem Kw(aF:(bM.map (·.1)).Nodup)(ar:lk bM k=U):((bM++[(k,x)]).map (·.1)).Nodup:=by
 rw[dY,rH];refine⟨aF,hV.mpr ⟨List.not_mem_nil,mr⟩,λa aV b au e=>?_⟩;rw[e,(bN.mp au:b=k)]at aV;exact nB.mp ar aV
theorem FS.gq(O:bV G)(H:c6 G)(au:k4 sp G bM)(aF:(bM.map (·.1)).Nodup)(ao:lk bM k=U)(ar:sp k=aw)(ak:G x=U):FS sp G (put G x (.bg .bo U)) bM (bM++[(k,x)]) (rx x (.var k)) ((T.var k).c5) (qg (.var k)) where
 same:=lu ak
 ok:=O.new ak aa aL
 gen:=H.gq O ak
 iB:=λp hp=>by
  rcases gb.mp hp with hp|hp
  ·exact au.same (lu ak) p hp
  ·rw[bN.mp hp];exact⟨λaf=>dK,λe=>by rw[ar]at e;exact kD e⟩
 aF:=Kw aF ao
 ble:=λp h=>jG _ h
 sol:=λS=>((bb.gq ak).mp S).1
 back:=λS dP=>⟨((dP (k,x) (iH _ b9)).1 ar).symm,aL⟩
 ext:=λ{ρ τ bk a6} S dP _ _=>⟨upd ρ x (bk k),τ,S.qa O ak aL,mU ak,Kj (mU ak) au dP (λaf=>fy.symm) (λe=>by rw[ar]at e;exact kD e),λB hB aZ=>rp ak hB aZ⟩
theorem FS.iO(O:bV G)(H:c6 G)(au:k4 sp G bM)(aF:(bM.map (·.1)).Nodup)(ao:lk bM k=U)(ar:sp k=aS)(ak:G x=U):FS sp G (put G x (.tail .bo U)) bM (bM++[(k,x)]) (rv x (.b5 k)) ((R.b5 k).c5) (rF (.b5 k)) where
 same:=lu ak
 ok:=O.new ak aa aL
 gen:=H.DS O ak
 iB:=λp hp=>by
  rcases gb.mp hp with hp|hp
  ·exact au.same (lu ak) p hp
  ·rw[bN.mp hp];exact⟨λe=>(by rw[ar]at e;exact fw e),λaf=>dK⟩
 aF:=Kw aF ao
 ble:=λp h=>jG _ h
 sol:=λS=>((bb.iO ak).mp S).1
 back:=λ{ρ τ bk a6} S dP=>by
  have e:=(dP (k,x) (iH _ b9)).2 ar;refine⟨e.symm,?_⟩;show(a6 k).up;rw[e];exact(S.tail dK).1
 ext:=λ{ρ τ bk a6} S dP aY _=>⟨ρ,upd τ x (a6 k),S.n5 O ak (aY k) aL,lW ak,Kj (lW ak) au dP (λe=>by rw[ar]at e;exact fw e) (λaf=>fy.symm),λB hB aZ=>p9 ak hB aZ⟩
theorem FS.fin(O:bV G)(H:c6 G)(au:k4 sp G bM)(aF:(bM.map (·.1)).Nodup)(ak:G x=U):FS sp G (put G x (.tail .fin U)) bM bM (rv x .nil) (R.nil.c5) (rF .nil) where
 same:=lu ak
 ok:=O.new ak aa aL
 gen:=H.KC O ak
 iB:=au.same (lu ak)
 aF:=aF
 ble:=λp h=>h
 sol:=λS=>((bb.iO ak).mp S).1
 back:=λS dP=>⟨((bb.iO ak).mp S).2.2,aL⟩
 ext:=λ{ρ τ bk a6} S dP aY _=>⟨ρ,upd τ x .nil,S.n5 O ak aL fy,lW ak,λp hp=>⟨(dP p hp).1,λe=>by rw[(lW (ρ:=ρ) (τ:=τ) ak).2 p.2 ⟨_,_,(au p hp).2 e⟩];exact(dP p hp).2 e⟩,λB hB aZ=>p9 ak hB aZ⟩
theorem Kk(A:Agree aU bH ρ τ G)(au:k4 sp G bM)(dP:On sp bM ρ τ bk a6):On sp bM aU bH bk a6:=λp hp=>⟨λe=>by rw[A.1 p.2 ⟨_,_,(au p hp).1 e⟩];exact(dP p hp).1 e,λe=>by rw[A.2 p.2 ⟨_,_,(au p hp).2 e⟩];exact(dP p hp).2 e⟩
theorem FS.cF{k h:Nat}{l:Str}{t:T}{r:R}(s:FS sp G a3 bM dX (λρ τ bk a6=>rv h r ρ τ bk a6/\rx k t ρ τ bk a6) (λbk a6=>r.c5 bk a6/\t.c5 bk a6) (λB bk a6=>rF r B bk a6/\qg t B bk a6))(ar:cq a3 k)(a8:dy a3 h)(aX:r.look l=U)(az:∀n,r.dx=.b5 n->(∃x,(n,x)∈dX/\sp n=aS))(ak:a3 x=U) :
  FS sp G (put a3 x (.tail (.cF l k h) U)) bM dX (rv x (.fld l t r)) ((R.fld l t r).c5) (rF (.fld l t r)) where
 same:=λe=>lu ak (s.same e)
 ok:=s.ok.new ak aa ⟨ar,a8⟩
 gen:=s.gen.DT s.ok ak a8 λ{ρ τ} E=>by
  have dP:On sp dX ρ τ (λn=>ρ ((lk dX n).getD 0)) (λn=>τ ((lk dX n).getD 0)):=λp hp=>by
   dsimp only;rw[uu s.aF (show(p.1,p.2)∈dX from hp)];exact⟨λaf=>aa,λaf=>aa⟩
  refine aB λae=>?_;obtain⟨⟨v1,_⟩,a1,_⟩:=s.back E.sol dP;refine ae ?_;rw[show τ h=_ from v1];refine R.Uy a1 aX λn ao=>?_;refine aB λae=>?_;obtain⟨x,ak,nK⟩:=az n ao;refine ae ?_;show(τ ((lk dX n).getD 0)).look l=U;rw[uu s.aF ak,show(I x).getD 0=x from aa,E.hX ((s.iB _ ak).2 nK)];rfl
 iB:=s.iB.same (lu ak)
 aF:=s.aF
 ble:=s.ble
 sol:=λS=>s.sol ((bb.iO ak).mp S).1
 back:=λ{ρ τ bk a6} S dP=>by
  refine aB λae=>?_;obtain⟨bG,_,av,ay⟩:=(bb.iO ak).mp S;obtain⟨⟨v1,v2⟩,a1,a2⟩:=s.back bG dP;rw[show τ h=_ from v1]at av;refine ae ?_;exact⟨by show τ x=(r.sub bk a6).ins l (t.sub bk a6);rw[ay,show τ h=_ from v1,show ρ k=_ from v2],a2,a1,av⟩
 ext:=λ{ρ τ bk a6} S dP aY aV=>by
  refine aB λae=>?_;obtain⟨a2,a1,mV⟩:=aV;obtain⟨aU,bH,bG,A,wQ,cT⟩:=s.ext S dP aY ⟨a1,a2⟩;obtain⟨⟨v1,v2⟩,_⟩:=s.back bG wQ;obtain⟨_,_,xZ⟩:=id a8;have gh:(bH h).look l=U:=by rw[show bH h=_ from v1];exact mV
  refine ae ⟨aU,upd bH x ((bH h).ins l (aU k)),bG.n5 s.ok ak (R.lh (bG.tail xZ).1 gh) (wm ak a8 gh),A.trans s.grow (lW ak),Kk (lW ak) s.iB wQ,λB hB aZ=>?_⟩;have aZ:kr B ((r.sub bk a6).ins l (t.sub bk a6)):=aZ;exact p9 ak (cT B hB ⟨aZ.ins.2,aZ.ins.1⟩) (by rw[show bH h=_ from v1,show aU k=_ from v2];exact aZ)
theorem FS.aQ(s:FS sp G a3 bM dX (rv h r) (r.c5) (rF r))(a8:dy a3 h)(ak:a3 x=U) :
  FS sp G (put a3 x (.bg (.aQ h) U)) bM dX (rx x (.aQ r)) ((T.aQ r).c5) (qg (.aQ r)) where
 same:=λe=>lu ak (s.same e)
 ok:=s.ok.new ak aa a8
 gen:=s.gen.gq s.ok ak
 iB:=s.iB.same (lu ak)
 aF:=s.aF
 ble:=s.ble
 sol:=λS=>s.sol ((bb.gq ak).mp S).1
 back:=λ{ρ τ bk a6} S dP=>by
  refine aB λae=>?_;obtain⟨bG,e⟩:=(bb.gq ak).mp S;obtain⟨v1,a1⟩:=s.back bG dP;refine ae ?_;exact⟨by refine(?_:ρ x=.aQ (r.sub bk a6));rw[show ρ x=.aQ (τ h) from e,show τ h=_ from v1],a1⟩
 ext:=λ{ρ τ bk a6} S dP aY aV=>by
  refine aB λae=>?_;obtain⟨aU,bH,bG,A,wQ,cT⟩:=s.ext S dP aY aV;obtain⟨v1,_⟩:=s.back bG wQ;refine ae ⟨upd aU x (.aQ (r.sub bk a6)),bH,bG.qa s.ok ak (by refine(?_:upd _ x _ x=T.aQ (bH h));rw[fy,show bH h=_ from v1]),A.trans s.grow (mU ak),Kk (mU ak) s.iB wQ,λB hB aZ=>?_⟩;have aZ:dS B (.aQ (r.sub bk a6)):=aZ;exact rp ak (cT B hB aZ.aQ) aZ
end
structure hv(k:Nat)(σ ag:aN):Prop where
 len:σ.length<=ag.length
 at_:∀{n:Nat}{o:O},n≠k->σ[n]? =I o->su o=aS->ag[n]? =I o
section
variable {n m x y a b B k eR:Nat}{v:V}{τ:Nat->R}{sp:Nat->Bool}{bM dX vj:m4}
theorem cc.lG(h:cc σ ag):hv k σ ag:=⟨h.len,λaf e f=>h.at_ e f⟩
theorem hv.refl:hv k σ σ:=⟨bx _,λaf e aJ=>e⟩
theorem hv.trans(h:hv k σ ag)(h':hv k ag i7):hv k σ i7:=⟨b0 h.len h'.len,λao e f=>h'.at_ ao (h.at_ ao e f) f⟩
theorem hv.set:hv k σ (σ.set k o):=⟨by rw[lF];exact bx _,λao e af=>ef (λq=>ao q.symm) e⟩
noncomputable def jH(bM:m4):Tab:=bM.map λp=>(.inl (p.1:Int),.ref p.2)
theorem I1{i:Nat}:dF (jH bM) (.inl (i:Int))=(lk bM i).map V.ref:=by
 induction bM with
 |nil=>rfl
 |cons p bM aj=>
  unfold dF jH at aj ⊢;rw[ea,qs];show Option.map _ (match decide ((Sum.inl (p.1:Int):Key)=.inl (i:Int)) with|true=>_|false=>_)=Option.map _ (if p.1=i then I p.2 else lk bM i);by_cases e:p.1=i
  ·rw[aK e,m6 (by rw[e])];rfl
  ·rw[aR e,jf (λq:(Sum.inl (p.1:Int):Key)=.inl (i:Int)=>e (yN (aeI q)))];exact aj
def Pe(sp:Nat->Bool)(eR:Nat)(t:T)(σ:aN)(G:dr)(bM:m4)(v:V)(ag:aN):Prop:=
 (oj λx a3 dX cX=>yy (v=.ref x) (cq a3 x) (FS sp G a3 bM dX (rx x t) (t.c5) (qg t)) (ag[eR]? =I (.dict cX (jH dX))) (dX.length<=bM.length+t.size) (bU ag a3) (hv eR σ ag))
def ad6(sp:Nat->Bool)(t:T)(d:Nat):Prop:=∀{σ:aN}{G:dr}{bM:m4}{eR cX:Nat}{now:Int},bV G->c6 G->k4 sp G bM->(bM.map (·.1)).Nodup->bU σ G->0<eR->eR<σ.length->σ[eR]? =I (.dict cX (jH bM))->bM.length+t.size<=100000 ->
 Wp σ (bc d "fresh" [t.pr,.ref eR,.int now]) (Pe sp eR t σ G bM)
theorem It{i cX:Nat}{mk:M V}{aF:gP}(au:σ[eR]? =I (.dict cX (jH bM)))(aE:0<eR)(g:bU σ G)(hl:bM.length<=100000)(q9:Made σ G aF (mk σ)){α:Type}{K:V->M α}{Q:α->aN->Prop}{u:V}
  (old:∀{x ag},(i,x)∈bM->ag[eR]? =I (.dict cX (jH bM))->bU ag G->hv eR σ ag->Wp ag (K (.ref x)) Q)
  (new:∀{x ag},lk bM i=U->G x=U->ag[eR]? =I (.dict (cX+1) (jH (bM++[(i,x)])))->bU ag (put G x aF)->hv eR σ ag->Wp ag (K (.ref x)) Q) :
  Wp σ (c3 (d9 (aC d) (.ref eR) "setdefault")>>=λW8=>((Pure.pure (V.int (i:Int)):M V)>>=λRQ=>mk>>=λRP=>runM (aC d) "setdefault" W8 (.ref eR) [RQ,RP]>>=K)) Q:=by
 refine aB λae=>?_;obtain⟨x,cJ,av,ak,g1,dG⟩:=q9;refine ae (al (JS au) (al (m:=Pure.pure _) aa (al av ?_)));have lQ:=dG.dict au
 induction gh:lk bM i with
 |some z=>
  exact al (J2 (key:=.inl (i:Int)) lQ aa (by rw[I1,gh];rfl)) (old (kJ gh) lQ (g1.drop ak) dG.lG)
 |none=>
  have e:dF (jH bM) (.inl (i:Int))=U:=by rw[I1,gh];rfl
  have ay:kY (jH bM) (.inl (i:Int)) (.ref x)=jH (bM++[(i,x)]):=by rw[vd e];unfold jH;rw[dY];rfl
  refine al (J1 (key:=.inl (i:Int)) lQ aE aa e (by unfold jH;rw[bC];exact i5 hl (by decide +kernel))) (new gh ak ?_ (g1.rZ lQ) (dG.lG.trans .set));rw[ay];exact fV lQ
theorem KO(r:R):r.fl.length+r.dx.size<=r.size:=by
 induction r using R.ind with
 |aE=>exact bx _
 |h1 n=>exact bx _
 |h2 l t r aj=>exact show r.fl.length+1+r.dx.size<=1+t.size+r.size from fq 0x31C21000A109000080C520021 aa aj
theorem Uq{ps:List (Str×T)}{r:R}:(d0 ps r.dx).dx=r.dx:=by
 induction ps with
 |nil=>rcases M8 r with e|⟨n,e⟩ <;> rw[e] <;> rfl
 |cons p ps aj=>exact aj
theorem KP:d0 (ps++bq) e=d0 ps (d0 bq e):=by
 induction ps with
 |nil=>rfl
 |cons p ps aj=>refine(?_:R.fld p.1 p.2 (d0 (ps++bq) e)=_);rw[aj];rfl
theorem Up:r.size<=(d0 ps r).size:=by
 induction ps with
 |nil=>exact bx _
 |cons p ps aj=>exact show _<=1+p.2.size+(d0 ps r).size from cb 0x5304200102029021 aa aj
theorem IZ{r:R}{i:Nat}:(∃bq,r.fl=bq++(r.fl.reverse.take i).reverse):=by
 refine⟨(r.fl.reverse.drop i).reverse,?_⟩;rw[<-PI,vP,PH]
theorem Uo{r:R}{i:Nat}:(d0 (r.fl.reverse.take i).reverse r.dx).size<=r.size:=by
 obtain⟨bq,e⟩:=IZ (r:=r) (i:=i);have h:=um r;rw[e,KP]at h;have h2:r.size=(d0 bq (d0 (r.fl.reverse.take i).reverse r.dx)).size:=by rw[h]
 rw[h2];exact Up
theorem Ur(h:(d0 bq r).dup):r.dup:=by
 induction bq with
 |nil=>exact h
 |cons p bq aj=>exact aj h.2.2
theorem KM(h:(d0 bq r).eK sp):r.eK sp:=by
 induction bq with
 |nil=>exact h
 |cons p bq aj=>exact aj h.2
theorem Xq{sp:Nat->Bool}{r:R}(hd:(T.aQ r).dup)(az:(T.aQ r).eK sp)(i:Nat)(p:Str×T)(hp:r.fl.reverse[i]? =I p):p.2.dup/\p.2.eK sp/\(d0 (r.fl.reverse.take i).reverse r.dx).look p.1=U:=by
 obtain⟨bq,e⟩:=IZ (r:=r) (i:=i+1);have h:=um r;replace h:=wD hp ▸ KP ▸ e ▸ h;have hd:r.dup:=hd;have az:r.eK sp:=az;rw[<-h]at hd az;have kZ:(R.fld p.1 p.2 (d0 (r.fl.reverse.take i).reverse r.dx)).dup:=Ur hd;have s1:(R.fld p.1 p.2 (d0 (r.fl.reverse.take i).reverse r.dx)).eK sp:=KM az;exact⟨kZ.2.1,s1.1,R.zX (R.rk kZ.2.2) kZ.1⟩
theorem YD{sp:Nat->Bool}{r:R}{i:Nat}(h:(T.aQ r).eK sp)(e:r.dx=.b5 i):sp i=aS:=by
 have h:r.eK sp:=h;have:=um r;rw[<-this]at h;have:=KM h;rw[e]at this;exact this
theorem Iq(sp:Nat->Bool):∀(s:Nat) (t:T),t.size<=s->t.dup->t.eK sp->∀d,s+2<=d->ad6 sp t d:=by
 intro s
 induction s with
 |zero=>intro t h;have:=T.pos t;exact absurd ‹_<=0› (B0 ‹1<=_›)
 |succ s aj=>
  intro t Vu Wi xk d hd σ G bM eR cX now O H au aF g aE fu fe hlen;obtain⟨d,rfl⟩:(∃e,d=e+3):=⟨d-3,by exact rS (b0 (qp _ _) ‹_›)⟩;have bX:0<σ.length:=by exact bF 0x1421004010142120021 aa fu
  rw[abC]
  induction t using T.casesOn with
  |num=>
   rw[show T.num.pr=.tup [.str "number"] from aa];refine al gI ?_;refine aB λae=>?_;obtain⟨n,ag,e,ao,ck,le⟩:=rL (d:=d+1) g bX .num now;refine ae (al fm (al (m:=truth _) aa (gD (by decide +kernel) (al (m:=el _ _ _) e (bZ ⟨n,_,bM,cX,aa,⟨_,_,dK⟩,FS.TT O H au aF ao,le.dict fe,by exact ha ..,ck,le.lG⟩)))))
  |var i=>
   rw[show(T.var i).pr=.tup [.str "blank",.int i] from aa];refine al gI (al fm (al (m:=truth _) aa (d3 (by decide +kernel) ?_)));unfold G4;refine al gI (al fm (al (m:=truth _) aa (gD (by decide +kernel) ?_)));have hp:bM.length+1<=100000:=hlen;refine It (i:=i) (mk:=bc (d+2) "unknown_kind" []) (u:=.none) fe aE g (by exact cp 0x61A83E120400186A0F842120021 aa hp) (Cp g bX) ?_ ?_
   ·intro x ag ak e ck le;exact bZ ⟨x,G,bM,cX,aa,⟨_,_,(au _ ak).1 xk⟩,FS.TL O H au aF ak xk,e,by exact ha ..,ck,le⟩
   ·intro x ag ao ak e ck le;exact bZ ⟨x,_,_,cX+1,aa,⟨_,_,dK⟩,FS.gq O H au aF ao xk ak,e,by rw[dp];exact bx _,ck,le⟩
  |aQ r=>
   rw[show(T.aQ r).pr=.tup [.str "record",.tup r.h4,r.iN] from aa];refine al gI (al fm (al (m:=truth _) aa (d3 (by decide +kernel) ?_)));unfold G4;refine al gI (al fm (al (m:=truth _) aa (d3 (by decide +kernel) ?_)));unfold OJ;refine aB λae=>?_;obtain⟨dx,cJ,av,uU,g1,dG⟩:=w_end (d:=d+1) g bX now;refine ae (al (m:=el _ _ _) av (al wK (al S6 (al (m:=truth _) aa ?_))));have Vg:0<cJ.length:=d4 bX dG.len;have cV:r.size+1<=s+1:=by have:1+r.size<=s+1:=Vu;exact bF 0x84A008480080212808108021 aa this
   have rest:∀{h:Nat}{b6:aN}{gF:dr}{p7:m4}{tV:Nat},dy gF h->FS sp G gF bM p7 (rv h r.dx) (r.dx.c5) (rF r.dx)->b6[eR]? =I (.dict tV (jH p7))->p7.length<=bM.length+1->(∀n,r.dx=.b5 n->(∃x,(n,x)∈p7/\sp n=aS))->bU b6 gF->hv eR σ b6 ->
     Wp b6 (Bq (d+2) (.tup [.str "record",.tup r.h4,r.iN]) (.ref eR) (.int now) (.ref h)) (Pe sp eR (.aQ r) σ G bM):=by
    intro h b6 gF p7 tV a8 sV ay pS h8 g2 cM;unfold Bq;refine al qK (al (m:=r3 _) aa ?_);refine jz (l:=r.h4.reverse) (J:=λaf=>True) aa mx (λi loc ag=>Hq λh' a3 dX pk bS cn=>Hw (loc=(I (.tup [.str "record",.tup r.h4,r.iN])::I (.ref eR)::I (.int now)::I (.ref h')::bS::cn::n_7)) (dy a3 h') (FS sp G a3 bM dX (rv h' (d0 (r.fl.reverse.take i).reverse r.dx)) ((d0 (r.fl.reverse.take i).reverse r.dx).c5) (rF (d0 (r.fl.reverse.take i).reverse r.dx))) (ag[eR]? =I (.dict pk (jH dX))) (dX.length<=bM.length+1+(d0 (r.fl.reverse.take i).reverse r.dx).size) ((∀n,r.dx=.b5 n->(∃x,(n,x)∈dX/\sp n=aS))) (bU ag a3) (hv eR σ ag)) (λaf aJ b3 eW=>aL)
     ⟨h,gF,p7,tV,_,_,aa,a8,sV,ay,by exact cb 0x30425000810042501021 aa pS,h8,g2,cM⟩ ?_ ?_
    ·intro i v loc ag aM dh;refine aB λae=>?_;obtain⟨h',a3,dX,pk,bS,cn,rfl,Fd,rh,aG,fv,EV,ck,mI⟩:=dh;replace aM:=(e6 ..) ▸ (j1 (vR ..)) ▸ (DG ..) ▸ aM;obtain⟨p,hp,rfl⟩:=eU.mp aM;have lN:p∈r.fl:=B5.mp (ee hp);have Al:=T.Dh lN;refine ae ?_;rw[abD];refine aB λae=>?_;obtain⟨YO,pA,E7⟩:=Xq Wi xk (r:=r) i p hp;have EP:(d0 (p::(r.fl.reverse.take i).reverse) r.dx).size<=r.size:=by
      rw[<-wD hp];exact Uo
     have LJ:1+p.2.size+(d0 (r.fl.reverse.take i).reverse r.dx).size<=r.size:=EP;have VU:bM.length+(1+r.size)<=100000:=hlen;have LM:(T.aQ r).size=1+r.size:=rfl;refine ae (Wp.step (aj p.2 (by exact fq 0x14C1010E608400084212802120021 aa cV LJ) YO pA (d+2) (by exact bF 0x8250082400403094020842400021 aa hd) rh.ok rh.gen rh.iB rh.aF ck aE (d4 fu mI.len) aG (by exact hG 0x186A0F84E400400186A0F8501080A0085063842000426084A001021 aa fv LJ VU)) ?_);intro k9 dq dh;refine aB λae=>?_;obtain⟨x,o4,NX,QU,rfl,xb,AF,dB,kf,g3,dW⟩:=dh;obtain⟨n,iI,eM,ao,dk,d1⟩:=w_field (d:=d) g3 (d4 (d4 bX mI.len) dW.len) p.1 x h' now;refine ae (al (m:=bc _ _ _) eM (bZ ⟨n,_,NX,QU,_,_,aa,⟨_,_,dK⟩,?_,d1.dict dB,?_,λm hm=>?_,dk,(mI.trans dW).trans d1.lG⟩))
     ·rw[wD hp];exact FS.cF ((rh.trans AF).weak (λaf aJ v a=>⟨v,a⟩) (λa=>a) (λaf f=>f)) xb (AF.grow.lI Fd) E7 (λm hm=>by
       replace hm:=Uq ▸ hm;refine aB λae=>?_;obtain⟨y,a9,nK⟩:=EV m hm;refine ae ?_;exact⟨y,AF.ble _ a9,nK⟩) ao
     ·rw[wD hp];exact show NX.length<=bM.length+1+(1+p.2.size+(d0 (r.fl.reverse.take i).reverse r.dx).size) from hG 0x64042000425000E10208038426084A001021 aa fv kf
     ·refine aB λae=>?_;obtain⟨y,a9,nK⟩:=EV m hm;exact ae ⟨y,AF.ble _ a9,nK⟩
    ·intro loc ag dh;refine aB λae=>?_;obtain⟨h',a3,dX,pk,bS,cn,rfl,Fd,rh,aG,fv,EV,ck,mI⟩:=dh;have sM:(r.fl.reverse.take r.h4.reverse.length).reverse=r.fl:=by
      rw[qr,DG,bC,<-qr,iG,PH]
     rw[sM,um]at rh fv;refine ae ?_;rw[abE];refine aB λae=>?_;obtain⟨n,iI,eM,ao,dk,d1⟩:=rL (d:=d+1) ck (d4 bX mI.len) (.aQ h') now;refine ae (al (m:=el _ _ _) eM (bZ ⟨n,_,dX,pk,aa,⟨_,_,dK⟩,rh.aQ Fd ao,d1.dict aG,?_,dk,mI.trans d1.lG⟩));exact show dX.length<=bM.length+(1+r.size) from cb 0xC1080A020406084A001021 aa fv
   rcases M8 r with E1|⟨i,h8⟩
   ·have xm:r.iN=.none:=by rw[DH,E1];rfl
    rw[xm]at rest ⊢;refine d3 aa ?_;refine rest ⟨_,_,dK⟩ (by rw[E1];exact FS.fin O H au aF uU) (dG.dict fe) (by exact gH _) (λn ao=>by replace ao:=E1 ▸ ao;cases ao) g1 dG.lG
   ·have xm:r.iN=.int i:=by rw[DH,h8];rfl
    have sF:sp i=aS:=YD xk h8;rw[xm];refine gD aa ?_;refine It (i:=i) (mk:=bc (d+2) "unknown_rest" []) (u:=.none) (dG.dict fe) aE (g1.drop uU) (by have:bM.length+(1+r.size)<=100000:=hlen;exact bF 0x186A0F848100061A83E12842020021 aa this) (yV (g1.drop uU) Vg) ?_ ?_
    ·intro x ag ak e ck le;rw[<-xm];exact rest ⟨_,_,(au _ ak).2 sF⟩ (by rw[h8];exact FS.TK O H au aF ak sF) e (by exact gH _) (λn ao=>by replace ao:=h8 ▸ ao;cases ao;exact⟨x,ak,sF⟩) ck (dG.lG.trans le)
    ·intro x ag ao ak e ck le;rw[<-xm];exact rest ⟨_,_,dK⟩ (by rw[h8];exact FS.iO O H au aF ao sF ak) e (by rw[dp];exact bx _) (λn ao=>by replace ao:=h8 ▸ ao;cases ao;exact⟨x,iH _ b9,sF⟩) ck (dG.lG.trans le)
end
noncomputable abbrev rz:=List T×T
noncomputable abbrev hS:=List (Str×rz)
def yx(s:rz)(ts:List T)(t:T):Prop:=(c8 λ(bk:Nat->T) (a6:Nat->R)=>mn ((∀n,(a6 n).up)) ((∀u∈s.1,u.c5 bk a6)) (s.2.c5 bk a6) (ts=s.1.map (T.sub bk a6)) (t=s.2.sub bk a6))
def o0(bz:hS)(env:Nat->T):Form->List T->T->Prop
 |.num _,_,t=>t=.num
 |.bu i,_,t=>t=env i
 |.make ls,ts,t=>t=.aQ (de (ls.zip ts).reverse .nil)
 |.get l,ts,t=>(∃r:R,eH r.up (r.look l=U) (ts=[.aQ (r.ins l t)]))
 |.put l,ts,t=>(jE λ(r:R) (u:T) (c:T)=>hA r.up (r.look l=U) (ts=[.aQ (r.ins l u),c]) (t=.aQ (r.ins l c)))
 |.sum,ts,t=>ts=[.num,.num]/\t=.num
 |.call f,ts,t=>(∃s,lk bz f=I s/\yx s ts t)
structure ry(B:Nat)(s:rz):Prop where
 sp:(∃sp,hA ((∀u∈s.1,u.dup/\u.eK sp/\u.size<=B)) s.2.dup (s.2.eK sp) (s.2.size<=B))
 p3:s.1.length<=30
noncomputable def hi(s:rz):V:=.tup [.tup (s.1.map T.pr),s.2.pr]
def jr(bz:hS):Tab:=bz.map λp=>(.inr p.1,hi p.2)
section
variable {n m x y a b B k eR:Nat}{v:V}{τ:Nat->R}{sp:Nat->Bool}{bM dX vj:m4}{P kq:(Nat->T)->(Nat->R)->T->Prop}
theorem iY.congr(s:iY G a3 x P)(h:∀{ρ τ t},P ρ τ t↔kq ρ τ t):iY G a3 x kq:=⟨s.grow,s.ok,s.gen,s.eE,s.sol,λS=>h.mp (s.back S),λS p=>s.ext S (h.mpr p)⟩
theorem oY.congr(s:oY σ G P v ag)(h:∀{ρ τ t},P ρ τ t↔kq ρ τ t):oY σ G kq v ag:=by obtain⟨x,a3,e,st,g,le⟩:=s;exact⟨x,a3,e,st.congr h,g,le⟩
def ys(us:List T)(xs:List Nat)(ρ:Nat->T)(τ:Nat->R)(bk:Nat->T)(a6:Nat->R):Prop:=xs.map ρ=us.map (T.sub bk a6)
def yz(us:List T)(bk:Nat->T)(a6:Nat->R):Prop:=∀u∈us,u.c5 bk a6
def Fits(us:List T)(B:Nat)(bk:Nat->T)(a6:Nat->R):Prop:=∀u∈us,qg u B bk a6
theorem FS.empty(O:bV G)(H:c6 G):FS sp G G [] [] (ys [] []) (yz []) (Fits []) where
 same:=id
 ok:=O
 gen:=H
 iB:=nofun
 aF:=mr
 ble:=nofun
 sol:=id
 back:=λaf aJ=>⟨aa,nofun⟩
 ext:=λ{ρ τ bk a6} S dP _ _=>⟨ρ,τ,S,.refl,nofun,λaf h aJ=>h⟩
theorem FS.snoc(s:FS sp G a3 bM dX (ys us xs) (yz us) (Fits us))(s':FS sp a3 iE dX vj (rx x u) (u.c5) (qg u)):FS sp G iE bM vj (ys (us++[u]) (xs++[x])) (yz (us++[u])) (Fits (us++[u])):=
 (s.trans s').weak (λaf aJ v a=>by
  refine⟨?_,λhE aY=>?_⟩
  ·show(xs++[x]).map _=(us++[u]).map _;rw[dY,dY,show xs.map _=us.map _ from v.1];exact ff _ (ff (· :: []) v.2)
  ·rcases gb.mp aY with aY|aY
   ·exact a.1 hE aY
   ·rw[bN.mp aY];exact a.2) (λa=>⟨λhE aY=>a hE (jG _ aY),a u (iH _ b9)⟩) λaf f=>⟨λhE aY=>f hE (jG _ aY),f u (iH _ b9)⟩
def DK(bM:m4)(ρ:Nat->T)(n:Nat):T:=ρ ((lk bM n).getD 0)
def xO(sp:Nat->Bool)(bM:m4)(τ:Nat->R)(n:Nat):R:=match lk bM n with
 |some x=>if sp n=aw then .nil else τ x
 |none=>.nil
theorem TI(aF:(bM.map (·.1)).Nodup):On sp bM ρ τ (DK bM ρ) (xO sp bM τ):=λp hp=>by
 have e:=uu aF (show(p.1,p.2)∈bM from hp);refine⟨λaf=>?_,λaz=>?_⟩
 ·unfold DK;rw[e];rfl
 ·unfold xO;rw[e];show(if sp p.1=aw then R.nil else τ p.2)=_;rw[az];rfl
theorem W0(au:k4 sp G bM)(S:bb ρ τ G)(n:Nat):(xO sp bM τ n).up:=by
 unfold xO
 induction e:lk bM n with
 |none=>trivial
 |some x=>
  refine(?_:(if sp n=aw then R.nil else τ x).up)
  induction az:sp n with
  |true=>trivial
  |false=>exact(S.tail ((au _ (kJ e)).2 az)).1
theorem FS.call{s:rz}{cm xs:List Nat}(aD:FS sp G a3 [] dX (λρ τ bk a6=>ys s.1 xs ρ τ bk a6/\rx x s.2 ρ τ bk a6) (λbk a6=>yz s.1 bk a6/\s.2.c5 bk a6) (λB bk a6=>Fits s.1 B bk a6/\qg s.2 B bk a6))(ak:cq a3 x)(fD:∀k∈cm,cq G k)
  (st:Step a3 iE λρ af=>cm.map ρ=xs.map ρ):iY G iE x λρ af t=>yx s (cm.map ρ) t where
 grow:=aD.grow.trans st.grow
 ok:=st.ok
 gen:=st.gen
 eE:=st.grow.eE ak
 sol:=λS=>aD.sol (st.sol S)
 back:=λ{ρ τ} S=>by
  refine aB λae=>?_;obtain⟨⟨v1,v2⟩,a1,a2⟩:=aD.back (st.sol S) (TI aD.aF);exact ae ⟨DK dX ρ,xO sp dX τ,W0 aD.iB (st.sol S),a1,a2,(st.back S).trans v1,v2⟩
 ext:=λ{ρ τ t} S a8=>by
  obtain⟨bk,a6,aY,a1,a2,av,ay⟩:=a8;refine aB λae=>?_;obtain⟨a7,eA,e3,gk,r9,iA⟩:=aD.ext S (λaf h=>nomatch h) aY ⟨a1,a2⟩;obtain⟨⟨v1,v2⟩,_⟩:=aD.back e3 r9;obtain⟨eI,mu,gN,hy,lU⟩:=st.ext e3 (by rw[(vS λk ar=>gk.1 k (fD k ar):cm.map a7=cm.map ρ),av];exact v1.symm);refine ae ?_;refine⟨eI,mu,gN,gk.trans aD.grow hy,by rw[hy.1 x ak,ay];exact v2,λB hB aZ=>lU B (iA B hB ⟨λu aY=>?_,by rw[ay]at aZ;exact aZ⟩)⟩;have:u.sub bk a6∈cm.map ρ:=by rw[av];exact ez.mpr ⟨u,aY,aa⟩
  refine aB λae=>?_;obtain⟨k,ar,e⟩:=ez.mp this;refine ae ((?_:dS B (u.sub bk a6)));rw[<-e];exact hB.1 k (fD k ar)
noncomputable def AG(a b c e f:V):List (Str×V):=[("known",a),("body",b),("order",c),("inputs",e),("at",f)]
structure gG(σ:aN)(Xk ae d2 e9 du:Nat)(ZA:V):Prop where
 at_:(∃j,σ[Xk]? =I (.inst "Found" j)/\σ[j]? =I (.bT (AG (.ref ae) ZA (.ref d2) (.ref e9) (.ref du))))
noncomputable def KJ:List Str×List Str:=(["__init__", "result", "go", "taken", "asked", "called"],["known", "body", "order", "inputs", "at"])
theorem n0:(aC d).cls "Found" = I KJ:=rfl
variable {self ae d2 e9 du:Nat}{body:V}
theorem gG.le(h:gG σ self ae d2 e9 du body)(l:cc σ ag):gG ag self ae d2 e9 du body:=by obtain⟨j,av,ay⟩:=h.at_;exact⟨j,l.at_ av aa,l.at_ ay aa⟩
theorem gG.known(h:gG σ self ae d2 e9 du body):cL (aC d) "known" (.ref self) σ=.ok (.ref ae) σ:=by obtain⟨_,av,ay⟩:=h.at_;exact lB av ay n0 (by decide +kernel) aa
theorem gG.Zz(h:gG σ self ae d2 e9 du body):cL (aC d) "body" (.ref self) σ=.ok body σ:=by obtain⟨_,av,ay⟩:=h.at_;exact lB av ay n0 (by decide +kernel) aa
theorem gG.order(h:gG σ self ae d2 e9 du body):cL (aC d) "order" (.ref self) σ=.ok (.ref d2) σ:=by obtain⟨_,av,ay⟩:=h.at_;exact lB av ay n0 (by decide +kernel) aa
theorem gG.Ls(h:gG σ self ae d2 e9 du body):cL (aC d) "inputs" (.ref self) σ=.ok (.ref e9) σ:=by obtain⟨_,av,ay⟩:=h.at_;exact lB av ay n0 (by decide +kernel) aa
theorem gG.at(h:gG σ self ae d2 e9 du body):cL (aC d) "at" (.ref self) σ=.ok (.ref du) σ:=by obtain⟨_,av,ay⟩:=h.at_;exact lB av ay n0 (by decide +kernel) aa
theorem gG.tag(h:gG σ self ae d2 e9 du body)(ao:(KJ.1.contains nm&&((AG (.ref ae) body (.ref d2) (.ref e9) (.ref du)).lookup nm).isNone)=aw):c3 (d9 (aC d) (.ref self) nm) σ=.ok (.own "Found") σ:=by obtain⟨_,av,ay⟩:=h.at_;exact JR av ay n0 ao
theorem nu(h:jq c nm=full):runM (aC d) nm (.own c) o as=bc d full (o::as):=by subst h;rfl
theorem D7:dF (jr bz) (.inr f)=(lk bz f).map hi:=by
 induction bz with
 |nil=>rfl
 |cons p bz aj=>
  unfold dF jr at aj ⊢;rw[ea,qs];show Option.map _ (match decide ((Sum.inr p.1:Key)=.inr f) with|true=>_|false=>_)=Option.map _ (if p.1=f then I p.2 else lk bz f);by_cases e:p.1=f
  ·rw[aK e,m6 (by rw[e])];rfl
  ·rw[aR e,jf (λq=>e (yE q))];exact aj
theorem hv.z2(h:hv k ag i7)(h':cc σ ag)(ar:σ.length<=k):cc σ i7:=⟨b0 h'.len h.len,λ{n o} e f=>h.at_ (λq=>by have:=cE e;exact er (cb 0x842101021300212982329021 aa ar q this)) (h'.at_ e f) f⟩
theorem QM{s:rz}{bz:hS}{f:Str}{cm:List Nat}{cX:Nat}{ps:V}{now:Int}{ix:Nat}{pl:T}(J:JoinOk B (d+3))(hB:B<=1000)(hd:B+2<=d+3)(nr:ry B s)(az:lk bz f=I s)(O:bV G)(H:c6 G)(S:bb bK bR G)(bd:d7 B bK bR G)(g:bU σ G)(aE:0<σ.length)
  (F:gG σ self ae d2 e9 du body) (ar:σ[ae]? =I (.dict cX (jr bz))) (aH:σ[ix]? =I (.list (cm.map V.ref))) (fD:∀k∈cm,cq G k) (ab:yx s (cm.map bK) pl) (xA:dS B pl) :
  Wp σ (bc (d+4) "Found.called" [.ref self,.tup [.str "call",.str f,ps],.ref ix,.int now]) (oY σ G λρ af t=>yx s (cm.map ρ) t):=by
 rw[acL];refine al F.known (al qK (al (lz (key:=.inr f) ar aa (by rw[D7,az];rfl)) ?_));show Wp σ (bindTo _ _ (hi s) _>>=_) _;unfold hi;rw[acS];refine al (m:=Pure.pure _) aa ?_;rw[acU];refine aB λae=>?_;obtain⟨sp,nK,sO,VC,LC⟩:=nr.sp;refine ae (al (m:=cH _) aa (al (m:=bD _) aa (al (m:=eY _) aa ?_)));have g1:=g.push (o:=.dict 0 []);refine L7 (λi acc loc ag=>vG λxs a3 dX pk o=>Hw (acc=xs.map V.ref) (loc=[U,o,U,I (.ref σ.length),I (.int now)]) ((∀x∈xs,cq a3 x)) (FS sp G a3 [] dX (ys (s.1.take i) xs) (yz (s.1.take i)) (Fits (s.1.take i))) (ag[σ.length]? =I (.dict pk (jH dX))) (dX.length<=1000*i) (bU ag a3) (hv σ.length (σ++[.dict 0 []]) ag)) λba op cl=>?_;refine ru (l:=s.1.map T.pr) (J:=λaf=>True) aa mx acO (acP ..) (by rw[bC];exact b0 nr.p3 (by decide +kernel))
  ba (λaf aJ b3 eW nd=>aL) (cl ⟨[],G,[],0,_,aa,aa,nofun,FS.empty O H,(cP:(σ++[Mine.Internal.O.dict 0 []]:aN)[σ.length]? =I (.dict 0 (jH []))),by simp,g1,.refl⟩) ?_ ?_
 ·intro i v acc loc ag aM aH;refine aB λae=>?_;obtain⟨xs,a3,dX,pk,o,rfl,rfl,sA,aD,e,hl,ck,le⟩:=op aH;replace aM:=e6 ▸ aM;obtain⟨u,aY,rfl⟩:=eU.mp aM;obtain⟨jk,jj,nj⟩:=nK u (ee aY:u∈s.1);have aI:i<=30:=b0 (k7 (cE aY)) nr.p3;refine ae ?_;rw[acR];refine jR aa ?_;rw[acN];refine jR aa ?_;rw[aK aa,acQ];have oP:=le.len;replace oP:=dp ▸ oP;refine Wp.step (Iq sp B u nj jk jj (d+3) hd aD.ok aD.gen aD.iB aD.aF ck aE (by exact(oP:σ.length+1<=ag.length)) e (fq 0x186A0F84A60040007530F84E109CC1090A10FD1E09021 aa hB nj hl (B1 1000 aI))) ?_;intro k9 b6 dh;refine aB λae=>?_;obtain⟨x,gF,p7,tV,rfl,xb,sV,ay,pS,g2,cM⟩:=dh;refine ae (bZ (cl ⟨xs++[x],gF,p7,tV,_,by rw[dY];rfl,aa,λy a9=>?_,?_,ay,by exact hG 0x84C0FA3C24040728101090E109BE8F08A10FD1E09021 aa hB hl nj pS,g2,le.trans cM⟩))
  ·rcases gb.mp a9 with a9|a9
   ·exact sV.grow.eE (sA y a9)
   ·rw[bN.mp a9];exact xb
  ·rw[jg,aY];exact aD.snoc sV
 ·intro out loc ag aH;refine aB λae=>?_;obtain⟨xs,a3,dX,pk,o,rfl,rfl,sA,aD,e,hl,ck,le⟩:=op aH;clear aH op cl ba;replace aD:=(iG ..) ▸ (bC ..) ▸ aD;replace hl:=(bC ..) ▸ hl;have aZ:=nr.p3;have oP:=le.len;replace oP:=dp ▸ oP;have oP:σ.length+1<=ag.length:=oP;refine ae (al (m:=bD _) aa (Wp.step (Iq sp B s.2 LC sO VC (d+3) hd aD.ok aD.gen aD.iB aD.aF ck.push aE (by rw[dp];exact cb 0x31401090010142120021 aa oP) (cB e) (fq 0x186A0F84A60040007530F84E109CC1090A10FD1E09021 aa hB LC hl (B1 1000 nr.p3))) ?_));intro k9 b6 dh;refine aB λae=>?_;obtain⟨x,gF,p7,tV,rfl,xb,sV,ay,pS,g2,cM⟩:=dh;have u2:=aD.trans sV;have Eb:cc σ b6:=((le.trans (cc.push (o:=.list (xs.map V.ref))).lG).trans cM:hv σ.length (σ++[.dict 0 []]) b6).z2 .push (bx _);have M6:b6[ix]? =I (.list (cm.map V.ref)):=Eb.list aH;have MY:b6[ag.length]? =I (.list (xs.map V.ref)):=cM.at_ (by exact λq=>er (bF 0x8421010A11142120021 aa oP q)) cP aa;obtain⟨bk,a6,aY,a1,a2,d8,eD⟩:=ab;obtain⟨a7,eA,e3,gk,r9,iA⟩:=u2.ext S (λaf h=>nomatch h) aY ⟨a1,a2⟩;obtain⟨⟨v1,v2⟩,_⟩:=u2.back e3 r9;have MW:cm.map a7=xs.map a7:=by rw[(vS λk ar=>gk.1 k (fD k ar):cm.map a7=cm.map bK),d8];exact v1.symm
  have ZG:d7 B a7 eA gF:=iA B bd ⟨λu aY=>by
   have:u.sub bk a6∈cm.map bK:=by rw[d8];exact ez.mpr ⟨u,aY,aa⟩
   obtain⟨k,ar,e⟩:=ez.mp this;show dS B (u.sub bk a6);rw[<-e];exact bd.1 k (fD k ar),by replace xA:=eD ▸ xA;exact xA⟩
  have hlen:cm.length=xs.length:=by have:=ff List.length MW;rwa [bC,bC]at this
  refine ae (al (a:=.zip (.lst ix) (.lst ag.length) b6.length) (ag:=b6++[.cache]) ?_ ?_)
  ·exact(a4 (m:=rK _) (a4 (jn M6))).trans ((a4 (m:=rK _) (a4 (jn MY))).trans aa)
  refine L6 (λi loc HY=>cc (b6++[.cache]) HY/\(vG λo4 rJ vY bS cn=>vJ (loc=[I (.ref self),I (.tup [.str "call",.str f,ps]),I (.ref ix),I (.int now),I (.tup (s.1.map T.pr)),I s.2.pr,I (.ref σ.length),bS,I (.ref ag.length),I (.ref x),cn,U,U,U]) (Step gF o4 (λρ af=>(cm.take i).map ρ=(xs.take i).map ρ)) (bU HY o4) (bb rJ vY o4) (d7 B rJ vY o4) (Agree rJ vY a7 eA gF))) λba op cl=>?_;refine jz (l:=((cm.map V.ref).zip (xs.map V.ref)).map λp=>V.tup [p.1,p.2]) (J:=λτ=>cc (b6++[.cache]) τ) acK (Ib (Cd λτ h=>h.list (cB M6)) (Cd λτ h=>h.list (cB MY)))
   ba (λi loc ag h=>(op h).1) (cl ⟨.refl,gF,a7,eA,_,_,aa,Step.same u2.ok u2.gen (λaf=>aa),g2.push,e3,ZG,.refl⟩) ?_ ?_
  ·intro i v loc dq aM aH;refine aB λae=>?_;obtain⟨dW,o4,rJ,vY,bS,cn,rfl,st,g3,rA,Bb,BQ⟩:=op aH;replace aM:=e6 ▸ afj ▸ e6 ▸ aM;obtain⟨w,hw,rfl⟩:=eU.mp aM;obtain⟨⟨k,z⟩,gA,rfl⟩:=eU.mp hw;replace gA:=B6 ▸ B4 ▸ gA;have lO:cm[i]? =I k/\xs[i]? =I z:=by
    induction h1:cm[i]? with
    |none=>replace gA:=h1 ▸ gA;exact a5 gA
    |some eo=>
     induction h2:xs[i]? with
     |none=>replace gA:=h2 ▸ h1 ▸ gA;exact a5 gA
     |some afX=>replace gA:=h2 ▸ h1 ▸ gA;cases gA;exact⟨aa,aa⟩
   obtain⟨lO,Af⟩:=lO;have z9:=(λk ar=>u2.grow.eE (fD k ar):∀k∈cm,cq gF k) k (ee lO);have En:=(λx ak=>sV.grow.eE (sA x ak):∀x∈xs,cq gF x) z (ee Af);have av:a7 k=a7 z:=by
    have h1:(cm.map a7)[i]? =I (a7 k):=by rw[e6,lO];rfl
    replace h1:=Af ▸ e6 ▸ MW ▸ h1;exact(gm h1).symm
   have dB:rJ k=rJ z:=by rw[BQ.1 k z9,BQ.1 z En,av]
   refine ae ?_;show Wp _ (bindTo _ _ (.tup [.ref k,.ref z]) _>>=_) _;rw[acM];refine Wp.step (J st.ok st.gen rA (Bb.mono hB) g3 (d4 aE (b0 Eb.len (b0 (by rw[dp];exact ha ..) dW.len))) (st.grow.eE z9) (st.grow.eE En) dB (Bb.1 k (st.grow.eE z9)).size) ?_;intro k9 iI dh;refine aB λae=>?_;obtain⟨_,ad4,zh,dk,d1⟩:=dh;obtain⟨Qd,Qb,G0,ael,ht⟩:=zh.ext rA dB;refine ae (bZ (cl ⟨dW.trans d1,ad4,Qd,Qb,_,_,aa,st.trans zh (λ{ρ τ aU bH} bG A q=>?_) (λ{ρ τ} bG=>?_),dk,G0,ht B Bb,BQ.trans st.grow ael⟩))
   ·replace q:=dY ▸ dY ▸ Af ▸ lO ▸ jg ▸ jg ▸ q;obtain⟨d8,eD⟩:=List.append_inj q (by rw[bC,bC,rI,rI,hlen]:((cm.take i).map ρ).length=((xs.take i).map ρ).length);refine⟨d8,λaf=>?_⟩;rw[A.1 k z9,A.1 z En];exact(kz eD).1
   ·rw[jg,jg,lO,Af,dY,dY,st.back (zh.sol bG)];exact ff _ (ff (· :: []) (zh.back bG))
  ·intro loc dq aH;refine aB λae=>?_;obtain⟨dW,o4,rJ,vY,bS,cn,rfl,st,g3,rA,Bb,BQ⟩:=op aH;have sM:(((cm.map V.ref).zip (xs.map V.ref)).map λp=>V.tup [p.1,p.2]).length=cm.length:=by
    rw[bC,yJ,bC,bC,hlen,HC]
   replace st:=iG ▸ hlen ▸ iG ▸ sM ▸ st;refine ae ?_;rw[acT];exact bZ ⟨x,o4,aa,u2.call xb fD st,g3,Eb.trans (cc.push.trans dW)⟩
end
noncomputable def u5(bu:List Nat)(ρ:Nat->T)(i:Nat):T:=((bu[i]?).map ρ).getD .num
def n8(bz:hS)(bu:List Nat)(f:Form)(cm:List Nat)(ρ:Nat->T)(τ:Nat->R)(t:T):Prop:=o0 bz (u5 bu ρ) f (cm.map ρ) t
section
variable {n m x y a b B k eR:Nat}{v:V}{τ:Nat->R}{bz:hS}{bu cm:List Nat}{self ae d2 e9 du ix cX:Nat}{body:V}{ps:List V}{now:Int}{pl:T}
theorem w_get(J:JoinOk B (d+2))(hB:B<=1000)(O:bV G)(H:c6 G)(S:bb bK bR G)(bd:d7 B bK bR G)(g:bU σ G)(aE:0<σ.length)(aH:σ[ix]? =I (.list [.ref a]))(aV:cq G a)(ab:BH a l bK bR pl) :
  Wp σ (bc (d+3) "Found.asked" [.ref self,.tup [.str "get",v,.str l],.ref ix,.int now]) (oY σ G (BH a l)):=by
 refine aB λae=>?_;obtain⟨r,aY,hl,he⟩:=ab;refine ae ?_;rw[OY];refine Iv J hB O H S bd g aE aV aY hl he (λle=>ir (i:=0) (le.list aH) (by decide) aa) (λaf=>wK) λ{cK rs f s ag a3} hg st ck le=>?_;refine al gI ?_;exact⟨.ref cK,ag,mD,cK,a3,aa,hg.get O H aV st,ck,le⟩
theorem QE(J:JoinOk B (d+2))(hB:B<=1000)(O:bV G)(H:c6 G)(S:bb bK bR G)(bd:d7 B bK bR G)(g:bU σ G)(aE:0<σ.length)(aH:σ[ix]? =I (.list [.ref a,.ref c]))(aV:cq G a)(aA:cq G c)(ab:Bk a c l bK bR pl) :
  Wp σ (bc (d+3) "Found.asked" [.ref self,.tup [.str "put",v,.str l,v'],.ref ix,.int now]) (oY σ G (Bk a c l)):=by
 refine aB λae=>?_;obtain⟨r,u,aY,hl,he,_⟩:=ab;refine ae ?_;rw[OY];refine Iv J hB O H S bd g aE aV aY hl he (λle=>ir (i:=0) (le.list aH) (by decide) aa) (λaf=>wK) λ{cK rs f s ag a3} hg st ck le=>?_;refine al gI ?_;have h1:=d4 aE le.len;refine aB λae=>?_;obtain⟨nX,b6,ay,n2,g2,cM⟩:=w_field (d:=d) ck h1 l c rs now;obtain⟨x,dq,dB,nA,g3,dW⟩:=rL (d:=d+1) g2 (d4 h1 cM.len) (.aQ nX) now;refine ae ⟨.ref x,dq,(eL (by decide +kernel)).trans ?_,x,_,aa,hg.put O H aV aA st n2 nA,g3,le.trans (cM.trans dW)⟩;unfold OX;exact(a4 wK).trans ((a4 (ir (i:=1) (le.list aH) (by decide) aa)).trans ((a4 (m:=bc _ _ _) ay).trans ((a4 (m:=el _ _ _) dB).trans aa)))
theorem Q1{ls:List Str}{cm:List Nat}:vals ρ (ls.zip cm).reverse=(ls.zip (cm.map ρ)).reverse:=by
 unfold vals;rw[vR,List.zip_map_right];rfl
theorem QH(hl:cm.length=ls.length)(uO:ls.length<=30)(oO:ls.Nodup)(O:bV G)(H:c6 G)(g:bU σ G)(aE:0<σ.length)(aH:σ[ix]? =I (.list (cm.map V.ref)))(fD:∀k∈cm,cq G k)(hp:ps.length=ls.length) :
  Wp σ (tr (d+2) (.ref self) (cf (.make ls) ps) (.ref ix) (.int now) (.str "make")) (oY σ G λρ af t=>t=.aQ (de (ls.zip (cm.map ρ)).reverse .nil)):=by
 unfold tr;refine aB λae=>?_;obtain⟨e,cJ,av,he,g1,dG⟩:=w_end (d:=d+1) g aE now;have h1:=d4 aE dG.len;refine ae (al fm (al (m:=truth _) aa (gD (by decide +kernel) (al (m:=el _ _ _) av (al qK (al (a:=.zip (.tup ((ls.zip ps).map gp)) (.lst ix) cJ.length) (ag:=cJ++[.cache]) ?_ ?_))))))
 ·exact(a4 (m:=rK _) aa).trans ((a4 (m:=rK _) (a4 (jn (dG.list aH)))).trans aa)
 refine jz (l:=(((ls.zip ps).map gp).zip (cm.map V.ref)).map λp=>V.tup [p.1,p.2]) (J:=λτ=>cc (cJ++[.cache]) τ) acj (Ib Qf (Cd λτ h=>h.list (cB (dG.list aH))))
  (λi loc ag=>cc (cJ++[.cache]) ag/\(oj λh a3 bS cn=>eH (loc=[I (.ref self),I (cf (.make ls) ps),I (.ref ix),I (.int now),I (.str "make"),I (.ref h),bS,cn,U,U,U,U,U]) (Chain (put G e (.tail .fin U)) e ((ls.zip cm).take i).reverse h a3) (bU ag a3)))
  (λi loc ag h=>h.1) ⟨.refl,e,_,_,_,aa,.nil,g1.push⟩ ?_ ?_
 ·intro i v loc ag aM dh;refine aB λae=>?_;obtain⟨le,h,a3,bS,cn,rfl,c,ck⟩:=dh;replace aM:=e6 ▸ afj ▸ e6 ▸ aM;obtain⟨w,hw,rfl⟩:=eU.mp aM;obtain⟨⟨⟨l,p⟩,k⟩,gA,rfl⟩:=eU.mp hw;have gh:(ls.zip cm)[i]? =I (l,k):=by
   replace gA:=B6 ▸ B4 ▸ B6 ▸ B4 ▸ gA;rw[B4,B6]
   induction h1:ls[i]? with
   |none=>replace gA:=h1 ▸ gA;exact a5 gA
   |some l'=>
    induction h2:ps[i]? with
    |none=>replace gA:=h2 ▸ h1 ▸ gA;exact a5 gA
    |some e8=>
     induction h3:cm[i]? with
     |none=>replace gA:=h3 ▸ h2 ▸ h1 ▸ gA;exact a5 gA
     |some eo=>replace gA:=h3 ▸ h2 ▸ h1 ▸ gA;cases gA;rfl
  refine ae ?_;show Wp _ (bindTo _ _ (.tup [gp (l,p),.ref k]) _>>=_) _;rw[acm];refine aB λae=>?_;obtain⟨n,b6,ay,n2,g2,cM⟩:=w_field (d:=d) ck (d4 h1 (b0 (by rw[dp];exact ha ..) le.len):0<ag.length) l k h now;refine ae (al (m:=item _ _) gI (al (m:=bc _ _ _) ay (bZ ⟨le.trans cM,n,_,_,_,aa,?_,g2⟩)));rw[jg,gh,PI];exact .cons c n2
 ·intro loc ag dh;refine aB λae=>?_;obtain⟨le,h,a3,bS,cn,rfl,c,ck⟩:=dh;have sM:((ls.zip cm).take ((((ls.zip ps).map gp).zip (cm.map V.ref)).map λp=>V.tup [p.1,p.2]).length).reverse=(ls.zip cm).reverse:=by
   rw[bC,yJ,bC,yJ,bC,hp,hl,HC,HC];have:ls.length=(ls.zip cm).length:=by rw[yJ,hl,HC]
   rw[this,iG]
  replace c:=sM ▸ c;refine ae ?_;rw[acn];refine aB λae=>?_;obtain⟨x,b6,ay,n2,g2,cM⟩:=rL (d:=d+1) ck (d4 h1 (b0 (by rw[dp];exact ha ..) le.len):0<ag.length) (.aQ h) now;refine ae (al (m:=el _ _ _) ay (bZ ⟨x,_,aa,?_,g2,dG.trans (cc.push.trans (le.trans cM))⟩));refine(Chain.made O H he (λp hp=>?_) ?_ c n2).congr λ{ρ τ t}=>by rw[Q1]
  ·have:=B5.mp hp;exact fD p.2 (List.of_mem_zip this).2
  ·rw[vR,(afv (by rw[hl];exact bx _):((ls.zip cm).map (·.1))=ls)];exact afr.mpr (afC (λh=>kv h) oO)
theorem QA(J:∀e,d+3<=e->JoinOk B e)(hB:B<=1000)(hd:B+2<=d+3)(sm:∀p∈bz,ry B p.2)(dQ:ie f ps)(hl:cm.length=ps.length)(O:bV G)(H:c6 G)(S:bb bK bR G)(bd:d7 B bK bR G)(g:bU σ G)(aE:0<σ.length)
  (F:gG σ self ae d2 e9 du body) (uP:σ[ae]? =I (.dict cX (jr bz))) (pT:σ[e9]? =I (.list (bu.map V.ref))) (g4:∀x∈bu,cq G x) (V7:∀i,f=.bu i->i<bu.length)
  (aH:σ[ix]? =I (.list (cm.map V.ref))) (fD:∀k∈cm,cq G k) (ab:n8 bz bu f cm bK bR pl) (xA:dS B pl) :
  Wp σ (bc (d+5) "Found.taken" [.ref self,cf f ps,.ref ix,.int now]) (oY σ G (n8 bz bu f cm)):=by
 rw[ack]
 induction f with
 |num z=>
  refine al gI ?_;refine aB λae=>?_;obtain⟨v,ag,e,q⟩:=Cr (d:=d+3) (now:=now) O H g aE;exact ae ⟨v,ag,mD.trans ((a4 (m:=el _ _ _) e).trans aa),q⟩
 |bu i=>
  have aI:=V7 i aa;have ak:bu[i]? =I bu[i]:=cD aI;refine al gI ?_;refine⟨.ref bu[i],σ,(eL (by decide +kernel)).trans ?_,_,G,aa,(iY.same O H (g4 _ (ee ak))).congr λ{ρ τ t}=>?_,g,.refl⟩
  ·unfold tu;exact mD.trans ((a4 F.Ls).trans ((a4 qK).trans ((a4 (ir pT (i6 _) (by rw[Int.toNat_natCast,e6,ak];rfl))).trans aa)))
  ·show _↔t=((bu[i]?).map ρ).getD .num;rw[ak];rfl
 |make ls=>
  refine aB λae=>?_;obtain⟨h1,h2,h3⟩:=dQ;obtain⟨v,ag,e,q⟩:=QH (d:=d+2) (self:=self) (now:=now) (hl.trans h1) h2 h3 O H g aE aH fD h1;refine ae (al gI ⟨v,ag,(eL (by decide +kernel)).trans ?_,q⟩);unfold tu;exact(eL (by decide +kernel)).trans e
 |get l=>
  refine aB λae=>?_;obtain⟨p,rfl⟩:(∃p,ps=[p]):=HJ.mp dQ;obtain⟨a,rfl⟩:(∃a,cm=[a]):=HJ.mp (hl.trans aa);have eqv:∀{ρ τ t},BH a l ρ τ t↔n8 bz bu (.get l) [a] ρ τ t:=λ{ρ τ t}=>by
   constructor
   ·rintro⟨r,aY,hl,he⟩;exact⟨r,aY,hl,by rw[ea,he];rfl⟩
   ·rintro⟨r,aY,hl,he⟩;exact⟨r,aY,hl,(kz he).1⟩
  obtain⟨v,ag,e,q⟩:=w_get (d:=d+1) (self:=self) (now:=now) (v:=p) (J (d+3) (bx _)) hB O H S bd g aE aH (fD a b9) (eqv.mpr ab);refine ae (al gI ⟨v,ag,(eL (by decide +kernel)).trans ?_,q.congr eqv⟩);unfold tu tr yo;refine(eL (by decide +kernel)).trans ((eL (by decide +kernel)).trans ((a4 Kd).trans ((Go aa).trans ((a4 (F.tag aa)).trans ?_))));rw[nu (full := "Found.asked") (by decide +kernel)];exact(a4 (m:=bc _ _ _) e).trans aa
 |put l=>
  refine aB λae=>?_;obtain⟨p,e8,rfl⟩:=rN dQ;obtain⟨a,c,rfl⟩:=rN (hl.trans aa);have eqv:∀{ρ τ t},Bk a c l ρ τ t↔n8 bz bu (.put l) [a,c] ρ τ t:=λ{ρ τ t}=>by
   constructor
   ·rintro⟨r,u,aY,hl,he,aP⟩;exact⟨r,u,ρ c,aY,hl,by rw[ea,he];rfl,aP⟩
   ·rintro⟨r,u,fG,aY,hl,he,aP⟩;obtain⟨av,ay⟩:=kz he;exact⟨r,u,aY,hl,av,by rw[aP,<-(kz ay).1]⟩
  obtain⟨v,ag,e,q⟩:=QE (d:=d+1) (self:=self) (now:=now) (v:=p) (v':=e8) (J (d+3) (bx _)) hB O H S bd g aE aH (fD a b9) (fD c (dz _ b9)) (eqv.mpr ab);refine ae (al gI ⟨v,ag,(eL (by decide +kernel)).trans ?_,q.congr eqv⟩);unfold tu tr yo;refine(eL (by decide +kernel)).trans ((eL (by decide +kernel)).trans ((a4 (Tw (by decide +kernel))).trans ((Go aa).trans ((a4 (F.tag aa)).trans ?_))));rw[nu (full := "Found.asked") (by decide +kernel)];exact(a4 (m:=bc _ _ _) e).trans aa
 |sum=>
  refine aB λae=>?_;obtain⟨p,e8,rfl⟩:=rN dQ;obtain⟨a,c,rfl⟩:=rN (hl.trans aa);have aV:=fD a b9;have aA:=fD c (dz _ b9);obtain⟨he,_⟩:=ab;obtain⟨av,ay⟩:=kz (show bK a::[bK c]=[.num,.num] from he);have ay:=(kz ay).1;refine ae (al gI ?_)
  suffices h:Wp σ (G6 (d+4) (.ref self) (cf .sum [p,e8]) (.ref ix) (.int now) (.str "sum") U U U) (oY σ G (n8 bz bu .sum [a,c])) by
   refine aB λae=>?_;obtain⟨v,ag,e,q⟩:=h;refine ae ⟨v,ag,(eL (by decide +kernel)).trans ?_,q⟩;unfold tu tr yo G7;exact(eL (by decide +kernel)).trans ((eL (by decide +kernel)).trans ((a4 (wN (by decide +kernel) (by decide +kernel))).trans ((s6 aa).trans ((eL (by decide +kernel)).trans e))))
  unfold G6;refine al (ir (i:=0) aH (by decide) aa) (Io (d:=d+3) (J (d+4) (by exact cp 0x812006120020 aa)) hB O H S bd g aE aV av λ{v1 cJ tG} jI g1 dG=>?_);refine aB λae=>?_;obtain⟨Cc,yS,mW,e5,eO⟩:=jI.ext S av;refine ae (al fm (al (m:=truth _) aa (d3 (by decide +kernel) ?_)));unfold OS;have h1:=d4 aE dG.len;refine al (ir (i:=1) (dG.list aH) (by decide) aa) (Io (d:=d+3) (J (d+4) (by exact cp 0x812006120020 aa)) hB jI.ok jI.gen mW (eO B bd) g1 h1 (jI.grow.eE aA) (by rw[e5.1 c aA];exact ay) λ{v2 b6 gF} pw g2 cM=>?_);refine Wp.step (Cr (d:=d+3) pw.ok pw.gen g2 (d4 h1 cM.len)) ?_;rintro _ dq ⟨x,o4,rfl,pD,g3,dW⟩;refine bZ ⟨x,o4,aa,?_,g3,dG.trans (cM.trans dW)⟩;have kF:Step G gF (λρ af=>ρ a=.num/\ρ c=.num):=jI.trans pw (λS A q=>⟨q.1,λaf=>by rw[A.1 c aA];exact q.2⟩) λbG=>⟨jI.back (pw.sol bG),pw.back bG⟩;refine kF.Rq pD (λ{ρ τ aU bH t} S A q=>?_) λ{ρ τ} bG=>?_
  ·refine aB λae=>?_;obtain⟨d8,eD⟩:=q;obtain⟨mE,zz⟩:=kz (show ρ a::[ρ c]=[.num,.num] from d8);exact ae ⟨⟨mE,(kz zz).1⟩,λaf=>eD⟩
  ·obtain⟨d8,eD⟩:=kF.back (pD.sol bG);exact⟨by rw[ea,ea,d8,eD];rfl,pD.back bG⟩
 |call f=>
  refine aB λae=>?_;obtain⟨s,az,aA⟩:=ab;have nr:ry B s:=sm (f,s) (kJ az);have eqv:∀{ρ:Nat->T}{τ:Nat->R}{t:T},yx s (cm.map ρ) t↔n8 bz bu (.call f) cm ρ τ t:=λ{ρ τ t}=>by
   constructor
   ·exact λh=>⟨s,az,h⟩
   ·rintro⟨s',e0,h⟩;replace e0:=az ▸ e0;cases e0;exact h
  obtain⟨v,ag,e,q⟩:=QM (d:=d) (now:=now) (ps:=.tup ps) (J (d+3) (bx _)) hB hd nr az O H S bd g aE F uP aH fD aA xA;refine ae (al gI ⟨v,ag,(eL (by decide +kernel)).trans ?_,q.congr (λ{ρ τ t}=>eqv)⟩);unfold tu tr yo G7;refine(eL (by decide +kernel)).trans ((eL (by decide +kernel)).trans ((a4 (wN (by decide +kernel) (by decide +kernel))).trans ((s6 aa).trans (mD.trans ((a4 (F.tag aa)).trans ?_)))));rw[nu (full := "Found.called") (by decide +kernel)];exact(a4 (m:=bc _ _ _) e).trans aa
end
noncomputable def kb(A:Place->T)(q:Place)(n:Nat):List T:=(List.range n).map λ(j:Nat)=>A (q++[(j:Int)])
def jS(bz:hS)(env:Nat->T):Nat->V->(Place->T)->Prop
 |0,_,_=>False
 |n+1,v,A=>(c8 λ(f:Form) (ps:List V)=>hA (v=cf f ps) (ie f ps) (o0 bz env f (kb A [] ps.length) (A [])) (∀(i:Nat) (p:V),ps[i]? =I p->jS bz env n p (λq=>A ((i:Int)::q))))
section
variable {bz:hS}{env F3:Nat->T}{A:Place->T}{n:Nat}{v:V}{os:List Place}
theorem o0.NL(h:∀i,f=.bu i->env i=F3 i)(r:o0 bz env f ts t):o0 bz F3 f ts t:=by
 induction f with
 |bu i=>refine(?_:t=F3 i);rw[<-h i aa];exact r
 |_=>exact r
theorem jS.loc(aV:i2 v q u):∀{n:Nat}{A:Place->T},jS bz env n v A->∀{f:Form}{ps:List V},ie f ps->u=cf f ps->o0 bz env f (kb A q ps.length) (A q):=by
 induction aV with
 |@nil v=>
  intro n A h f ps dQ e
  induction n using Nat.casesOn with
  |zero=>exact h.elim
  |succ n=>
   refine aB λae=>?_;obtain⟨hM,hk,aG,iT,aX,_⟩:=h;replace aG:=e ▸ aG;obtain⟨rfl,rfl⟩:=mk_inj dQ iT aG;exact ae (aX)
 |@cons agG age i p w q Wy hp h aj=>
  intro n A bw f ps dQ e
  induction n using Nat.casesOn with
  |zero=>exact bw.elim
  |succ n=>
   refine aB λae=>?_;obtain⟨hM,hk,aG,iT,_,ar⟩:=bw;obtain⟨rfl,rfl⟩:=mk_inj Wy iT aG;exact ae (aj (ar i p hp) dQ e)
theorem jS.of:∀{n:Nat}{v:V}{os:List Place}{A:Place->T},iC n v os->(∀q∈os,∀f ps,ie f ps->i2 v q (cf f ps)->o0 bz env f (kb A q ps.length) (A q))->jS bz env n v A:=by
 intro n
 induction n with
 |zero=>intro v os A h;exact h.elim
 |succ n aj=>
  rintro v os A ⟨f,ps,ca,rfl,dQ,hl,aA,rfl⟩ rf;refine⟨f,ps,aa,dQ,rf [] (iH _ b9) f ps dQ .nil,λi p hp=>?_⟩;have aI:i<ca.length:=by rw[hl];exact cE hp
  have ho:ca[i]? =I ca[i]:=cD aI;refine aj (aA i p _ hp ho) λq aH hM hk iT df=>?_;exact rf ((i:Int)::q) (jG _ (p1.mpr ⟨i,_,q,ho,aH,by rw[kx]⟩)) hM hk iT (.cons dQ hp df)
end
noncomputable def rP(cU:List (Place×Nat)):n6:=cU.map λp=>(p.1,.ref p.2)
def qQ(cU:List (Place×Nat))(ρ:Nat->T)(q:Place):T:=((lk cU q).map ρ).getD .num
def o8(cU:List (Place×Nat))(o:O):Prop:=(cU=[]/\o=.dict 0 [])\/(∃cX,o=.eC cX (rP cU))
section
variable {n m x y a b B k eR many:Nat}{τ:Nat->R}{bz:hS}{bu cm:List Nat}{self ae d2 e9 du ix cX:Nat}{ps:List V}{now:Int}{pl:T}{cU:List (Place×Nat)}{v:V}{os:List Place}{jx:Nat->T}{i1:Place->T}
theorem CK:∀q:Place,t2 (q.map V.int)=I q:=by
 intro cO
 induction cO with
 |nil=>exact aa
 |cons z q CK=>
  refine(?_:(t2 (q.map V.int)).map (z :: ·)=_);rw[CK];rfl
theorem CL:ll (jo q)=I q:=CK q
theorem I0:j6 (rP cU) q=(lk cU q).map V.ref:=by
 induction cU with
 |nil=>rfl
 |cons p cU aj=>
  unfold j6 rP at aj ⊢;rw[ea,qs];show Option.map _ (match decide (p.1=q) with|true=>_|false=>_)=Option.map _ (if p.1=q then I p.2 else lk cU q);by_cases e:p.1=q
  ·rw[aK e,m6 e];rfl
  ·rw[aR e,jf e];exact aj
structure tF(bz:hS)(n:Nat)(v:V)(os:List Place)(i:Nat)(bu:List Nat)(cU:List (Place×Nat))(G:dr):Prop where
 keys:cU.map (·.1)=os.take i
 ok:bV G
 gen:c6 G
 pL:∀x∈bu,cq G x
 nodes:∀p∈cU,cq G p.2
 back:∀{ρ τ},bb ρ τ G->∀q∈os.take i,∀f ps,ie f ps->i2 v q (cf f ps)->o0 bz (u5 bu ρ) f (kb (qQ cU ρ) q ps.length) (qQ cU ρ q)
 ext:∀{env A},jS bz env n v A->(c8 λρ τ=>hA (bb ρ τ G) ((∀(j x:Nat),bu[j]? =I x->ρ x=env j)) ((∀p∈cU,ρ p.2=A p.1)) (∀B,(∀j,j<bu.length->dS B (env j))->(∀q∈os,dS B (A q))->d7 B ρ τ G))
theorem qP(h:lk cU q=I x):qQ cU ρ q=ρ x:=by unfold qQ;rw[h];rfl
theorem w2(h:cU.map (·.1)=os.take i)(aH:q∈os.take i):(∃x,lk cU q=I x):=by
 rw[<-h]at aH;exact m7.mp (qX.mpr aH)
theorem tF.step(g:tF bz n v os i bu cU G)(ho:iC n v os)(hI:∀q j ps,i2 v q (cf (.bu j) ps)->j<bu.length)(aH:os[i]? =I q)(dQ:ie f ps)(df:i2 v q (cf f ps))(fD:cm=(List.range ps.length).map λ(j:Nat)=>(lk cU (q++[(j:Int)])).getD 0)
  (st:iY G a3 x (n8 bz bu f cm)):tF bz n v os (i+1) bu (cU++[(q,x)]) a3:=by
 have aF:=ho.nodup;have gX:os.take (i+1)=os.take i++[q]:=by rw[jg,aH];rfl
 have uM:q∉os.take i:=by
  intro hm;have hd:os=os.take i++q::os.drop (i+1):=by
   have:=vP i os;rw[yM (cE aH),gm ((cD (cE aH)).symm.trans aH)]at this;exact this.symm
  rw[hd,rH]at aF;exact aF.2.2 q hm q b9 aa
 have Ek:∀{fs:Nat}{dU:Place}{hM:Form}{hk:List V},os[fs]? =I dU->fs<=i->ie hM hk->i2 v dU (cf hM hk)->∀j,j<hk.length->dU++[(j:Int)]∈os.take i:=by
  intro fs dU hM hk gY g5 iT sR j bh;refine aB λae=>?_;obtain⟨f2,agf,Wz,Wx,az⟩:=ho.at dU (ee gY);obtain⟨rfl,rfl⟩:=mk_inj iT Wz (sR.uniq Wx);exact ae ((List.take_sublist_take_left g5).subset (ahead aF (az j bh) gY))
 have sh:∀{r:Place}{y:Nat},lk cU r=I y->lk (cU++[(q,x)]) r=I y:=λ{r y} h=>by rw[D4,h];rfl
 have UD:lk (cU++[(q,x)]) q=I x:=by
  rw[D4,nB.mpr (by rw[g.keys];exact uM)];refine(?_:(if q=q then I x else U)=_);rw[aK aa]
 have Ld:∀{fs:Nat}{dU:Place}{hM:Form}{hk:List V}{ρ:Nat->T},os[fs]? =I dU->fs<=i->ie hM hk->i2 v dU (cf hM hk)->kb (qQ (cU++[(q,x)]) ρ) dU hk.length=kb (qQ cU ρ) dU hk.length:=by
  intro fs dU hM hk ρ gY g5 iT sR;refine vS λj bh=>?_;obtain⟨y,a9⟩:=w2 g.keys (Ek gY g5 iT sR j (yI.mp bh));rw[qP (sh a9),qP a9]
 have K8:∀{ρ:Nat->T},cm.map ρ=kb (qQ cU ρ) q ps.length:=λ{ρ}=>by
  rw[fD,gw];refine vS λj bh=>?_;obtain⟨y,a9⟩:=w2 g.keys (Ek aH (bx _) dQ df j (yI.mp bh));refine(?_:ρ ((lk cU (q++[(j:Int)])).getD 0)=_);rw[qP a9,a9];rfl
 refine⟨by rw[dY,g.keys,gX];rfl,st.ok,st.gen,λy a9=>st.grow.eE (g.pL y a9),λp hp=>?_,λ{ρ τ} S dU gY hM hk iT sR=>?_,λ{env A} bw=>?_⟩
 ·rcases gb.mp hp with hp|hp
  ·exact st.grow.eE (g.nodes p hp)
  ·rw[bN.mp hp];exact st.eE
 ·rw[gX]at gY;rcases gb.mp gY with gY|gY
  ·refine aB λae=>?_;obtain⟨fs,g5,aG⟩:=m8.mp gY;rw[rI]at g5;have V8:os[fs]? =I dU:=by
    rw[List.getElem_take]at aG;rw[<-aG];exact cD (by exact Ul ‹_›)
   obtain⟨y,a9⟩:=w2 g.keys gY;have:=g.back (st.sol S) dU gY hM hk iT sR;refine ae ?_;rw[Ld V8 (by exact Uk ‹_›) iT sR,qP (sh a9),<-qP (ρ:=ρ) a9];exact this
  ·have e:=bN.mp gY;subst e;obtain⟨rfl,rfl⟩:=mk_inj dQ iT (df.uniq sR);rw[Ld aH (bx _) dQ df,qP UD,<-K8];exact st.back S
 ·refine aB λae=>?_;obtain⟨ρ,τ,S,g4,oO,au⟩:=g.ext bw;have sK:cm.map ρ=kb A q ps.length:=by
   rw[K8];refine vS λj bh=>?_;obtain⟨y,a9⟩:=w2 g.keys (Ek aH (bx _) dQ df j (yI.mp bh));rw[qP a9];exact oO _ (kJ a9)
  have pO:n8 bz bu f cm ρ τ (A q):=by
   unfold n8;rw[sK];refine(bw.loc df dQ aa).NL λj bh=>?_;subst bh;have bh:=hI q j ps df;have ak:bu[j]? =I bu[j]:=cD bh;unfold u5;rw[ak];exact(g4 j _ ak).symm
  obtain⟨aU,bH,bG,hC,aG,cT⟩:=st.ext S pO;refine ae ⟨aU,bH,bG,λj y a9=>?_,λp hp=>?_,λB h1 h2=>cT B (au B h1 h2) (h2 q (ee aH))⟩
  ·rw[hC.1 y (g.pL y (ee a9))];exact g4 j y a9
  ·rcases gb.mp hp with hp|hp
   ·rw[hC.1 p.2 (g.nodes p hp)];exact oO p hp
   ·rw[bN.mp hp];exact aG
end
section
variable {n m x y a b B k eR many:Nat}{τ:Nat->R}{bz:hS}{bu cm:List Nat}{self ae d2 e9 du ix cX:Nat}{ps:List V}{now:Int}{pl:T}{cU:List (Place×Nat)}{v:V}{os:List Place}{jx:Nat->T}{i1:Place->T}
theorem gG.lG(h:gG σ self ae d2 e9 du v)(l:hv du σ ag)(e:σ[du]? =I o)(ho:o8 cU o):gG ag self ae d2 e9 du v:=by
 refine aB λae=>?_;obtain⟨j,av,ay⟩:=h.at_;refine ae ⟨j,l.at_ (λq=>?_) av aa,l.at_ (λq=>?_) ay aa⟩
 ·replace av:=e ▸ q ▸ av;cases av;rcases ho with ⟨_,h⟩|⟨_,h⟩ <;> cases h
 ·replace ay:=e ▸ q ▸ ay;cases ay;rcases ho with ⟨_,h⟩|⟨_,h⟩ <;> cases h
theorem hv.list(h:hv du σ ag)(e:σ[du]? =I o)(ho:o8 cU o)(oS:σ[k]? =I (.list l)):ag[k]? =I (.list l):=h.at_ (λq=>by replace oS:=e ▸ q ▸ oS;cases oS;rcases ho with ⟨_,h⟩|⟨_,h⟩ <;> cases h) oS aa
theorem ZT(e:σ[du]? =I o)(ho:o8 cU o)(aE:0<du)(aH:lk cU q=U)(hl:cU.length<=1000):(∃o',setItem (.ref du) (jo q) (.ref x) σ=.ok () (σ.set du o')/\o8 (cU++[(q,x)]) o'):=by
 rcases ho with ⟨rfl,rfl⟩|⟨cX,rfl⟩
 ·exact⟨_,S3 e aE CL,.inr ⟨1,aa⟩⟩
 ·refine⟨_,S4 e aE CL (by unfold rP;rw[bC];exact i5 hl (by decide +kernel)),.inr ⟨cX+1,?_⟩⟩;have:j6 (rP cU) q=U:=by rw[I0,aH];rfl
  unfold mz;rw[this];show O.eC (cX+1) (rP cU++[(q,.ref x)])=_;unfold rP;rw[dY];rfl
theorem N8(e:σ[du]? =I o)(ho:o8 cU o)(aH:lk cU q=I x):item (.ref du) (jo q) σ=.ok (.ref x) σ:=by
 rcases ho with ⟨rfl,rfl⟩|⟨cX,rfl⟩
 ·exact a5 aH
 ·exact Tb e CL (by rw[I0,aH];rfl)
theorem QK(J:∀e,d+3<=e->JoinOk B e)(hB:B<=1000)(hd:B+2<=d+3)(sm:∀p∈bz,ry B p.2)(ho:iC n v os)(ao:n<=900)(hlen:os.length<=1000)(hI:∀q j ps,i2 v q (cf (.bu j) ps)->j<bu.length)
  (bw:jS bz jx n v i1) (Wd:∀j,j<bu.length->dS B (jx j)) (Me:∀q∈os,dS B (i1 q)) (lT:tF bz n v os 0 bu [] G) (ia:bU σ G) (aE:0<σ.length)
  (F:gG σ self ae d2 e9 du v) (uP:σ[ae]? =I (.dict cX (jr bz))) (pT:σ[e9]? =I (.list (bu.map V.ref))) (Ap:σ[d2]? =I (.list (os.map jo))) (fN:σ[du]? =I (.dict 0 [])) (cv:ae≠du) (Fc:0<du) :
  Wp σ (bc (d+6) "Found.go" [.ref self]) λaf ag=>(jE λcU a3 o=>mn (tF bz n v os os.length bu cU a3) (bU ag a3) (ag[du]? =I o) (o8 cU o) (hv du σ ag)):=by
 rw[acB];have td:o8 [] (.dict 0 []):=.inl ⟨aa,aa⟩;refine al F.order (al (J0 Ap) (jz (l:=(os.map jo).mapIdx λ(i:Nat) x=>V.tup [.int i,x]) (J:=λτ=>τ[d2]? =I (.list (os.map jo))) acA (Ic λaf h=>h)
  (λi loc ag=>Po λcU a3 o bS cn eQ lD=>vJ (loc=[I (.ref self),bS,cn,eQ,lD,U,U,U,U,U]) (tF bz n v os i bu cU a3) (bU ag a3) (ag[du]? =I o) (o8 cU o) (hv du σ ag)) (λi loc ag a8=>by obtain⟨_,_,_,_,_,_,_,_,_,_,_,_,le⟩:=a8;exact le.list fN td Ap) ⟨[],G,_,_,_,_,_,aa,lT,ia,fN,td,.refl⟩ ?_ ?_))
 ·rintro i u loc cJ aY ⟨cU,tG,o,bS,cn,eQ,lD,rfl,g1,FI,cG,pV,dG⟩;rw[HM,e6]at aY;obtain⟨w,hw,rfl⟩:=eU.mp aY;obtain⟨q,aH,rfl⟩:=eU.mp hw;have ET:=ee aH;obtain⟨f,ps,dQ,df,q5⟩:=ho.at q ET;have LN:q.length<=900:=b0 (OZ ho q ET) ao;have BL:=F.lG dG fN td;rw[acC];refine al BL.Zz (Wp.step (QN (d:=d+3) df (by exact cp 0x3E8F04810709E09021 aa LN)) ?_);rintro _ b6 ⟨rfl,ta⟩;have FF:=ZU dQ;refine al (Cq dQ) (al (oC cP) (al (qJ ⟨by exact wC,by exact wB ‹_› (by decide)⟩) ?_));have Bf:f9 cJ (b6++[.list ps]):=ta.new;generalize Ac:(b6++[O.list ps]:aN)=dq at Bf;have dW:cc cJ dq:=Bf.z2;have WS:bU dq tG:=FI.le λe=>Bf.at e;have ad8:=BL.le dW;have El:∀j,j<ps.length->(∃y,lk cU (q++[(j:Int)])=I y):=λj bh=>w2 g1.keys (ahead ho.nodup (q5 j bh) aH);refine th (l:=i9 0 ps.length) aa mx acE (acF ..) (by rw[oB];have:sizeLine=16777216:=rfl;exact b0 ‹_<=_› (HG aa)) (λloc=>(∃o,loc=[U,o,I (jo q),I (.ref self)])) ⟨_,aa⟩ (λu=>match u with|.int j=>I (.ref ((lk cU (q++[j])).getD 0))|_=>U) ?_ ?_
  ·rintro u loc aY ⟨o,rfl⟩;obtain⟨j,bh⟩:=PS aY;obtain⟨rfl,agB⟩:=r4 bh;obtain⟨y,a9⟩:=El j (by exact kQ ‹_›);refine⟨_,by rw[acH];rfl,⟨_,aa⟩,aw,by rw[acD];rfl,.ref y,?_,?_⟩
   ·rw[acG];refine(a4 ad8.at).trans ((a4 (a:=jo (q++[(j:Int)])) (ag:=dq) ?_).trans ((a4 (N8 (Bf.at cG) pV a9)).trans aa));refine(?_:(if (q.map V.int).length+[V.int (j:Int)].length<=sizeLine then pure (V.tup (q.map V.int++[V.int j])) else M.bad:M V) dq=_);rw[aK (by rw[bC];have:sizeLine=16777216:=rfl;exact show q.length+1<=_ from bF 0x284240041000000F84A11F09E09021 aa LN this)];unfold jo;rw[dY];rfl
   ·refine(?_:I (V.ref ((lk cU (q++[(j:Int)])).getD 0))=_);rw[a9];rfl
  ·have nT:(i9 0 ps.length).filterMap (λu=>match u with|.int j=>I (V.ref ((lk cU (q++[j])).getD 0))|_=>U)=((List.range ps.length).map λ(j:Nat)=>(lk cU (q++[(j:Int)])).getD 0).map V.ref:=by
    unfold i9;rw[yL,gw,B7,Int.toNat_natCast];refine sW λj af=>?_;refine(?_:I (V.ref ((lk cU (q++[0+(j:Int)])).getD 0))=_);rw[PZ];rfl
   rw[nT];generalize fD:((List.range ps.length).map λ(j:Nat)=>(lk cU (q++[(j:Int)])).getD 0)=cm;have V1:∀k∈cm,cq tG k:=λk ar=>by
    rw[<-fD]at ar;obtain⟨j,bh,rfl⟩:=ez.mp ar;obtain⟨y,a9⟩:=El j (yI.mp bh);rw[a9];exact g1.nodes _ (kJ a9)
   have h9:cm.length=ps.length:=by rw[<-fD,bC,tO]
   have d1:cc cJ (dq++[.list (cm.map V.ref)]):=dW.new;have Pj:=BL.le d1;obtain⟨ρ,τ,S,g4,oO,au⟩:=g1.ext bw;have bd:=au B Wd Me;have pO:n8 bz bu f cm ρ τ (i1 q):=by
    unfold n8;have:cm.map ρ=kb i1 q ps.length:=by
     rw[<-fD,gw];refine vS λj bh=>?_;obtain⟨y,a9⟩:=El j (yI.mp bh);refine(?_:ρ ((lk cU (q++[(j:Int)])).getD 0)=_);rw[a9];exact oO _ (kJ a9)
    rw[this];refine(bw.loc df dQ aa).NL λj bh=>?_;subst bh;have bh:=hI q j ps df;have ak:bu[j]? =I bu[j]:=cD bh;unfold u5;rw[ak];exact(g4 j _ ak).symm
   refine al (Pj.tag aa) ?_;rw[nu (full := "Found.taken") (by decide +kernel)];refine Wp.step (QA (d:=d) J hB hd sm dQ h9 g1.ok g1.gen S bd WS.push (d4 (d4 aE dG.len:0<cJ.length) d1.len) Pj (d1.dict (dG.at_ cv uP aa)) (d1.list (dG.list fN td pT)) g1.pL (λj bh=>by subst bh;exact hI q j ps df) cP V1 pO (Me q ET)) ?_;rintro _ hb ⟨x,oh,rfl,st,WR,hn⟩;have Ee:cc cJ hb:=d1.trans hn;have x2:hb[du]? =I o:=Ee.at_ cG (by rcases pV with ⟨_,h⟩|⟨_,h⟩ <;> (rw[h];rfl));have uM:lk cU q=none:=by
    rw[nB,g1.keys];intro hm;have hd:os=os.take i++q::os.drop (i+1):=by
     have:=vP i os;rw[yM (cE aH),gm ((cD (cE aH)).symm.trans aH)]at this;exact this.symm
    have aF:=ho.nodup;rw[hd,rH]at aF;exact aF.2.2 q hm q b9 aa
   have hq:cU.length<=1000:=by
    have:=ff List.length g1.keys;rw[bC,rI]at this;exact Uj ‹_› ‹_›
   obtain⟨o',aG,jt⟩:=ZT (x:=x) x2 pV Fc uM hq;refine al (BL.le Ee).at (al (m:=setItem _ _ _) aG (bZ ⟨_,oh,o',_,_,_,_,aa,g1.step ho hI aH dQ df fD.symm st,?_,fV x2,jt,dG.trans (Ee.lG.trans .set)⟩));exact WR.set x2 (by rcases pV with ⟨_,h⟩|⟨_,h⟩ <;> (rw[h];rfl)) (by rcases pV with ⟨_,h⟩|⟨_,h⟩ <;> (rw[h];exact nofun))
 ·rintro loc cJ ⟨cU,tG,o,bS,cn,eQ,lD,rfl,g1,FI,cG,pV,dG⟩;rw[HI,bC]at g1;rw[acI];exact bZ ⟨cU,tG,o,g1,FI,cG,pV,dG⟩
theorem WU(aI:∀x∈bu,G x=I (.bg .bo U))(ao:bu.Nodup)(ho:∀{x aF},G x=I aF->x∈bu):tF bz n v os 0 bu [] G:=by
 have O:bV G:=by
  have k:∀{x aF},G x=I aF->aF=.bg .bo U:=λe=>by have:=aI _ (ho e);replace this:=e ▸ this;exact gm this
  refine⟨λe=>?_,λe=>?_,λe=>?_,λe=>?_,λe=>?_,λ{m aF} e=>⟨m,.here e (by rw[k e];rfl)⟩⟩ <;> (have:=k e;cases this)
 refine⟨aa,O,⟨.var,λn=>.b5 n,⟨⟨λ{m w b} e=>?_,λ{m w b} e=>?_⟩,λaf=>aa,λaf=>aa⟩⟩,λx ak=>⟨_,_,aI x ak⟩,nofun,λaf q aH=>(nomatch aH),λ{env A} bw=>?_⟩
 ·have:=aI _ (ho e);replace this:=e ▸ this;cases this;exact⟨aL,nofun⟩
 ·have:=aI _ (ho e);replace this:=e ▸ this;cases this
 ·refine⟨λx=>env (bu.idxOf x),λn=>.b5 n,⟨λ{m w b} e=>?_,λ{m w b} e=>?_⟩,λj x ak=>?_,nofun,λB h1 af=>⟨λm a8=>by obtain⟨w,b,e⟩:=a8;exact h1 _ (List.idxOf_lt_length_of_mem (ho e)),λm ⟨w,b,e⟩=>?_⟩⟩
  ·have:=aI _ (ho e);replace this:=e ▸ this;cases this;exact⟨aL,nofun⟩
  ·have:=aI _ (ho e);replace this:=e ▸ this;cases this
  ·have:bu.idxOf x=j:=by
    have bh:=cE ak;rw[(gm (ak.symm.trans (cD bh)):x=bu[j])];exact ahc ao j bh
   show env (bu.idxOf x)=_;rw[this]
  ·have:=aI _ (ho e);replace this:=e ▸ this;cases this
end
section
variable {n m x y a b B k eR many:Nat}{bz:hS}{bu cm:List Nat}{self ae d2 e9 du ix cX:Nat}{v:V}{os:List Place}
noncomputable def YG:dr:=λaf=>U
structure yt(bu:List Nat)(G:dr):Prop where
 bo:∀x∈bu,G x=I (.bg .bo U)
 aF:bu.Nodup
 only:∀{x aF},G x=I aF->x∈bu
theorem yt.snoc(h:yt bu G)(ak:G x=U):yt (bu++[x]) (put G x (.bg .bo U)) where
 bo:=λy a9=>by
  rcases gb.mp a9 with a9|a9
  ·exact lu ak (h.bo y a9)
  ·rw[bN.mp a9];exact dK
 aF:=by
  rw[rH];refine⟨h.aF,hV.mpr ⟨List.not_mem_nil,mr⟩,λa aV b au e=>?_⟩;rw[e,bN.mp au]at aV;have:=h.bo x aV;rw[ak]at this;exact a5 this
 only:=λ{y aF} e=>by
  rcases dO e with ⟨rfl,_⟩|⟨_,q⟩
  ·exact iH _ b9
  ·exact jG _ (h.only q)
noncomputable def xQ(a:V):List (Str×V):=[("known",a)]
noncomputable def xP(a b:V):List (Str×V):=[("known",a),("body",b)]
noncomputable def sX(a b c:V):List (Str×V):=[("known",a),("body",b),("order",c)]
noncomputable def p2(a b c e:V):List (Str×V):=[("known",a),("body",b),("order",c),("inputs",e)]
theorem XC{a:V}:hK [] "known" a=xQ a:=rfl
theorem XB{a b:V}:hK (xQ a) "body" b=xP a b:=rfl
theorem XA{a b c:V}:hK (xP a b) "order" c=sX a b c:=rfl
theorem Xz{a b c e:V}:hK (sX a b c) "inputs" e=p2 a b c e:=rfl
theorem Xy{a b c e f:V}:hK (p2 a b c e) "at" f=AG a b c e f:=rfl
theorem qI(av:σ[n]? =I (.inst c j))(ay:σ[j]? =I (.bT l))(aE:0<j)(aA:C.cls c=I ms)(hm:ms.2.contains nm=aw)(hl:l.length<sizeLine)(az:hK l nm u=l'):dT C nm u (.ref n) σ=.ok () (σ.set j (.bT l')):=by
 subst az;exact zw av ay aE aA hm hl
def Pf(σ:aN)(ae many:Nat)(v:V)(os:List Place)(r:V)(ag:aN):Prop:=(Hq λself d2 e9 du bu G=>Pp (r=.ref self) (gG ag self ae d2 e9 du v) (ag[d2]? =I (.list (os.map jo))) (ag[e9]? =I (.list (bu.map V.ref))) (ag[du]? =I (.dict 0 [])) (σ.length<=du) (0<du) (bu.length=many) (bU ag G) (yt bu G) (cc σ ag))
theorem QL(ho:iC n v os)(ao:n<=100)(hlen:os.length<=1000)(hd:n+1<=d+2)(aE:0<σ.length)(ar:ae<σ.length)(hm:many<=30):Wp σ (el (aC (d+3)) "Found" [.ref ae,.int many,v]) (Pf σ ae many v os):=by
 show Wp σ (sd "Found" >>= λo=>bc (d+3) (jq "Found" "__init__") [o,.ref ae,.int many,v]>>=λr=>uH r (Pure.pure o)) _;refine al (m:=sd _) aa ?_;rw[show jq "Found" "__init__" = "Found.__init__" by decide +kernel,acs];have fY:sizeLine=16777216:=rfl;have sy:(σ++[.bT [],.inst "Found" σ.length]:aN)[σ.length+1]? =I (.inst "Found" σ.length):=qD.2;have f0:(σ++[.bT [],.inst "Found" σ.length]:aN)[σ.length]? =I (.bT []):=qD.1;have nD:cc σ (σ++[.bT [],.inst "Found" σ.length]):=.two;generalize (σ++[.bT [],.inst "Found" σ.length]:aN)=gc at sy f0 nD ⊢;have ne:σ.length≠σ.length+1:=by exact gv (jY _)
 refine Wp.step (P:=λr ag=>r=.none/\Pf σ ae many v os (.ref (σ.length+1)) ag) ?_ λr ag a8=>by obtain⟨aX,q⟩:=a8;subst aX;exact bZ q
 refine al (qI sy f0 aE n0 (by decide +kernel) (by decide +kernel) XC) ?_;have cS:=ef (o':=.bT (xQ (.ref ae))) ne sy;have f1:=fV (o':=.bT (xQ (.ref ae))) f0;have lH:=nD.jJ (k:=σ.length) (o:=.bT (xQ (.ref ae))) (bx _);refine al (qI cS f1 aE n0 (by decide +kernel) (by exact show 1<_ from cp 0x8108420082000001F09023 aa fY) XB) ?_;have cZ:=ef (o':=.bT (xP (.ref ae) v)) ne cS;have f2:=fV (o':=.bT (xP (.ref ae) v)) f1;have kL:=lH.jJ (k:=σ.length) (o:=.bT (xP (.ref ae) v)) (bx _);refine Wp.step (QF ho (by exact cp 0x186A0F848107D1E09021 aa hlen) (by exact cp 0x3E8F048100C9E09021 aa ao) hd) ?_;rintro _ dq ⟨d2,rfl,kX,ap⟩;have q3:=ap.at cZ;have FX:=ap.at f2;have Eh:=kL.trans ap.z2;clear sy f0 nD cS f1 lH cZ f2 kL ap;refine al (qI q3 FX aE n0 (by decide +kernel) (by exact show 2<_ from cp 0x8108820082000001F09023 aa fY) XA) ?_;have Aa:=ef (o':=.bT (sX (.ref ae) v (.ref d2))) ne q3;have f4:=fV (o':=.bT (sX (.ref ae) v (.ref d2))) FX;have pK:=Eh.jJ (k:=σ.length) (o:=.bT (sX (.ref ae) v (.ref d2))) (bx _);have lD:=ef (k:=σ.length) (o':=.bT (sX (.ref ae) v (.ref d2))) (λq=>by replace kX:=FX ▸ (j1 (q ..)) ▸ kX;cases kX) kX;generalize (dq.set σ.length (.bT (sX (.ref ae) v (.ref d2))):aN)=iI at Aa f4 pK lD ⊢;have J8:0<iI.length:=d4 aE pK.len;refine al (qJ ⟨by exact wC,by exact wB ‹_› (by decide)⟩) (ru (l:=i9 0 many) (J:=λaf=>True) aa mx acv (acw ..) (by rw[oB];exact b0 ‹_<=_› (HG aa))
  (λi acc loc ag=>jE λbu G o=>vJ (acc=bu.map V.ref) (bu.length=i) (loc=[U,o,U]) (bU ag G) (yt bu G) (cc iI ag)) (λaf aJ b3 eW nd=>aL) ⟨[],YG,_,aa,aa,aa,(λaf aJ e=>nomatch e),⟨nofun,mr,λe=>nomatch e⟩,.refl⟩ ?_ ?_)
 ·rintro i u acc loc ag aY ⟨bu,G,o,rfl,aI,rfl,g,g4,le⟩;obtain⟨x,cJ,av,ak,g1,dG⟩:=Cp (d:=d) g (d4 J8 le.len);rw[acy];refine jR aa ?_;rw[acu];refine jR aa ?_;rw[aK aa,acx];exact al (m:=bc _ _ _) av (bZ ⟨bu++[x],_,_,by rw[dY];rfl,by rw[dp,aI];rfl,aa,g1,g4.snoc ak,le.trans dG⟩)
 ·rintro out loc hb ⟨bu,G,o,rfl,aI,rfl,g,g4,le⟩;replace aI:=(Int.toNat_natCast ..) ▸ (oB ..) ▸ aI;have xf:=cB (o':=.list (bu.map V.ref)) (le.at_ Aa aa);have u4:=cB (o':=.list (bu.map V.ref)) (le.at_ f4 aa);have z4:=(pK.trans le).new (o:=.list (bu.map V.ref));have qO:=cB (o':=.list (bu.map V.ref)) (le.list lD);have pI:(hb++[.list (bu.map V.ref)]:aN)[hb.length]? =I (.list (bu.map V.ref)):=cP;have fc:=g.push (o:=.list (bu.map V.ref));generalize (hb++[.list (bu.map V.ref)]:aN)=B9 at xf u4 z4 qO pI fc ⊢;refine al (qI xf u4 aE n0 (by decide +kernel) (by exact show 3<_ from cp 0x8108C20082000001F09023 aa fY) Xz) ?_;have sx:=ef (o':=.bT (p2 (.ref ae) v (.ref d2) (.ref hb.length))) ne xf;have xS:=fV (o':=.bT (p2 (.ref ae) v (.ref d2) (.ref hb.length))) u4;have z3:=z4.jJ (k:=σ.length) (o:=.bT (p2 (.ref ae) v (.ref d2) (.ref hb.length))) (bx _);have wV:=ef (k:=σ.length) (o':=.bT (p2 (.ref ae) v (.ref d2) (.ref hb.length))) (λq=>by replace qO:=u4 ▸ (j1 (q ..)) ▸ qO;cases qO) qO;have qU:=ef (k:=σ.length) (o':=.bT (p2 (.ref ae) v (.ref d2) (.ref hb.length))) (λq=>by replace pI:=u4 ▸ (j1 (q ..)) ▸ pI;cases pI) pI;have mQ:=fc.set (o':=.bT (p2 (.ref ae) v (.ref d2) (.ref hb.length))) u4 aa nofun;generalize (B9.set σ.length (.bT (p2 (.ref ae) v (.ref d2) (.ref hb.length))):aN)=tQ at sx xS z3 wV qU mQ ⊢;have FW:=cB (o':=.dict 0 []) xS;have VI:σ.length≠tQ.length:=by have:=cE xS;exact gv this
  refine al (m:=cH _) aa (al (qI (cB sx) FW aE n0 (by decide +kernel) (by exact show 4<_ from cp 0x8109020082000001F09023 aa fY) Xy) (bZ ⟨aa,?_⟩));have fin:∀{k:Nat}{o:O},tQ[k]? =I o->σ.length≠k->((tQ++[O.dict 0 []]:aN).set σ.length (.bT (AG (.ref ae) v (.ref d2) (.ref hb.length) (.ref tQ.length))))[k]? =I o:=λe ar=>ef ar (cB e);refine⟨σ.length+1,d2,hb.length,tQ.length,bu,G,aa,⟨σ.length,fin sx ne,fV FW⟩,fin wV (λq=>by replace wV:=xS ▸ (j1 (q ..)) ▸ wV;cases wV),fin qU (λq=>by replace qU:=xS ▸ (j1 (q ..)) ▸ qU;cases qU),ef VI cP,z3.len,by have:=z3.len;lia,aI,mQ.push.set FW aa nofun,g4,z3.new.jJ (bx _)⟩
end
noncomputable def jd(m:List Nat)(n:Nat):List Nat:=if n∈m then m else m++[n]
def oy(e:Option Nat)(m:List Nat):V×List Nat:=match e with
 |none=>(.none,m)
 |some n=>(.int ((jd m n).idxOf n:Nat),jd m n)
mutual
noncomputable def T.tell:T->List Nat->V×List Nat
 |.num,m=>(.tup [.str "number"],m)
 |.var n,m=>(.tup [.str "blank",.int ((jd m n).idxOf n:Nat)],jd m n)
 |.aQ r,m=>(.tup [.str "record",.tup (r.tell m).1,(oy r.fin (r.tell m).2).1],(oy r.fin (r.tell m).2).2)
noncomputable def R.tell:R->List Nat->List V×List Nat
 |.nil,m=>([],m)
 |.b5 _,m=>([],m)
 |.fld l t r,m=>(.tup [.str l,(t.tell m).1]::(r.tell (t.tell m).2).1,(r.tell (t.tell m).2).2)
end
mutual
noncomputable def T.fh:T->Nat
 |.num=>1
 |.var _=>1
 |.aQ r=>1+r.fh
noncomputable def R.fh:R->Nat
 |.nil=>0
 |.b5 _=>0
 |.fld _ t r=>t.fh+r.fh
end
mutual
noncomputable def T.dep:T->Nat
 |.num=>1
 |.var _=>1
 |.aQ r=>1+r.dep
noncomputable def R.dep:R->Nat
 |.nil=>0
 |.b5 _=>0
 |.fld _ t r=>max t.dep r.dep
end
noncomputable def lp:List (Str×T)->List Nat->List V×List Nat
 |[],m=>([],m)
 |p::ps,m=>(.tup [.str p.1,(p.2.tell m).1]::(lp ps (p.2.tell m).2).1,(lp ps (p.2.tell m).2).2)
theorem IU(r:R)(m:List Nat):r.tell m=lp r.fl m:=by
 induction r using R.ind generalizing m with
 |aE=>rfl
 |h1 n=>rfl
 |h2 l t r aj=>
  refine(?_:(V.tup [.str l,(t.tell m).1]::(r.tell (t.tell m).2).1,(r.tell (t.tell m).2).2)=_);rw[aj];rfl
theorem IX(p:Str×T):∀(ps:List (Str×T)) (m:List Nat),lp (ps++[p]) m=((lp ps m).1++[.tup [.str p.1,(p.2.tell (lp ps m).2).1]],(p.2.tell (lp ps m).2).2)
 |[],m=>rfl
 |q::ps,m=>by
  refine(?_:(V.tup [.str q.1,(q.2.tell m).1]::(lp (ps++[p]) (q.2.tell m).2).1,(lp (ps++[p]) (q.2.tell m).2).2)=_);rw[IX p ps]at ⊢;rfl
theorem K7{r:R}:r.fh=(r.fl.map λp=>p.2.fh).sum:=by
 induction r using R.ind with
 |aE=>rfl
 |h1 n=>rfl
 |h2 l t r aj=>refine(?_:t.fh+r.fh=t.fh+_);rw[aj];rfl
theorem YW{r:R}{p:Str×T}(h:p∈r.fl):p.2.dep<=r.dep:=by
 induction r using R.ind with
 |aE=>cases h
 |h1 n=>cases h
 |h2 l t r aj=>
  refine(?_:p.2.dep<=max t.dep r.dep);rcases List.mem_cons.mp h with e|h
  ·subst e;exact pb _ _
  ·exact b0 (aj h) (qo _ _)
theorem FQ{l:Str}{t:T}{r:R}:((r.ins l t).fl.map (·.1))=iM l (r.fl.map (·.1)):=by
 induction r using R.ind with
 |aE=>rfl
 |h1 n=>rfl
 |h2 m u r aj=>
  rw[R.kP];refine(?_:_=if strLt m l=aw then m::iM l (r.fl.map (·.1)) else l::m::r.fl.map (·.1));by_cases e:strLt m l=aw
  ·rw[aK e,aK e];refine(?_:m::(r.ins l t).fl.map (·.1)=_);rw[aj]
  ·rw[aR e,aR e];rfl
theorem Xr(h:r.fl=[]):(de ps r).fl.map (·.1)=fg (ps.map (·.1)):=by
 induction ps with
 |nil=>refine(?_:r.fl.map (·.1)=[]);rw[h];rfl
 |cons p ps aj=>
  refine(?_:((de ps r).ins p.1 p.2).fl.map (·.1)=iM p.1 (fg (ps.map (·.1))));rw[FQ,aj]
theorem UB{r:R}(aY:r.up){p:Str×T}(h:p∈r.fl):r.look p.1=I p.2:=by
 induction r using R.ind with
 |aE=>cases h
 |h1 n=>cases h
 |h2 l t r aj=>
  refine(?_:(if l=p.1 then I t else r.look p.1)=_);rcases List.mem_cons.mp h with e|h
  ·subst e;rw[aK aa]
  ·have h1:=aj aY.2 h;have:l≠p.1:=λq=>by
    have:=R.zX aY.2 aY.1;rw[q,h1]at this;exact fU this
   rw[aR this];exact h1
noncomputable def qE(a b:V):List (Str×V):=[("met",a),("knots",b)]
structure f6(σ:aN)(d5 j dc:Nat)(met:List Nat)(dC:Int):Prop where
 i:σ[d5]? =I (.inst "Teller" j)
 f:σ[j]? =I (.bT (qE (.ref dc) (.int dC)))
 m:σ[dc]? =I (.list (met.map V.ref))
 z5:0<j
 hH:0<dc
noncomputable def KI:List Str×List Str:=(["__init__", "number", "told"],["met", "knots"])
section
variable {n x y B d5 j dc:Nat}{τ:Nat->R}{met:List Nat}{dC deep:Int}
theorem vh:(aC d).cls "Teller" = I KI:=rfl
theorem bU.Ec(g:bU σ G)(le:ct X σ ag)(sS:∀k∈X,∀o,σ[k]? =I o->su o=aS/\∀c j,o≠.inst c j):bU ag G:=λn aF q=>by
 obtain⟨k,u,e,aE,av,ay⟩:=g n aF q;refine⟨k,u,e,aE,le _ _ (λhm=>?_) av,le _ _ (λhm=>?_) ay⟩
 ·exact(sS _ hm _ av).2 _ _ aa
 ·have:=(sS _ hm _ ay).1;rw[AH]at this;exact kD this
theorem f6.bad(h:f6 σ d5 j dc met dC):∀k∈[j,dc],∀o,σ[k]? =I o->su o=aS/\∀c j,o≠.inst c j:=λk ar o e=>by
 rcases List.mem_cons.mp ar with q|ar
 ·subst q;replace e:=h.f ▸ e;cases e;exact⟨aa,nofun⟩
 ·have q:=bN.mp ar;subst q;replace e:=h.m ▸ e;cases e;exact⟨aa,nofun⟩
theorem f6.ne(h:f6 σ d5 j dc met dC):j≠dc/\d5≠j/\d5≠dc:=⟨λq=>(by have:=h.f;replace this:=h.m ▸ q ▸ this;cases this),λq=>(by have:=h.i;replace this:=h.f ▸ q ▸ this;cases this),λq=>(by have:=h.i;replace this:=h.m ▸ q ▸ this;cases this)⟩
theorem f6.DY(h:f6 σ d5 j dc met dC):cL (aC d) "met" (.ref d5) σ=.ok (.ref dc) σ:=lB h.i h.f vh (by decide +kernel) aa
theorem f6.K9(h:f6 σ d5 j dc met dC):cL (aC d) "knots" (.ref d5) σ=.ok (.int dC) σ:=lB h.i h.f vh (by decide +kernel) aa
theorem f6.ap(h:f6 σ d5 j dc met dC)(a:∀{k:Nat}{o:O},σ[k]? =I o->ag[k]? =I o):f6 ag d5 j dc met dC:=⟨a h.i,a h.f,a h.m,h.z5,h.hH⟩
theorem f6.Su(h:f6 σ d5 j dc met dC):dT (aC d) "knots" (.int w8) (.ref d5) σ=.ok () (σ.set j (.bT (qE (.ref dc) (.int w8))))/\f6 (σ.set j (.bT (qE (.ref dc) (.int w8)))) d5 j dc met w8/\ct [j,dc] σ (σ.set j (.bT (qE (.ref dc) (.int w8)))):=by
 refine aB λae=>?_;obtain⟨eZ,n2,nA⟩:=h.ne;exact ae ⟨qI h.i h.f h.z5 vh (by decide +kernel) (by refine(?_:2<sizeLine);decide +kernel) aa,⟨ef n2.symm h.i,fV h.f,ef eZ h.m,h.z5,h.hH⟩,ct.set b9 .refl⟩
theorem Iw(ak:(c8 λc j=>σ[x]? =I (.inst c j)))(hm:∀m∈met,(c8 λc j=>σ[m]? =I (.inst c j))):j5 σ (.ref x) (met.map V.ref)=I (decide (x∈met)):=by
 obtain⟨_,_,ay⟩:=ak
 induction met with
 |nil=>exact ff I (jf List.not_mem_nil).symm
 |cons m met aj=>
  obtain⟨_,_,av⟩:=hm m b9;refine(?_:(match ej σ (.ref m) (.ref x),j5 σ (.ref x) (met.map V.ref) with|some e,some t=>I (e || t)|_,_=>U)=_);rw[v9 av ay,(aj λm gZ=>hm m (dz _ gZ))];refine(?_:I ((m==x) || decide (x∈met))=_);congr 1;by_cases h:m=x
  ·subst h;rw[k6,m6 b9];rfl
  ·rw[rG.mpr h,afU];exact decide_eq_decide.mpr ⟨dz _,λh'=>(List.mem_cons.mp h').resolve_left λq=>h q.symm⟩
theorem QT(ak:(c8 λc j=>σ[x]? =I (.inst c j)))(hm:∀m∈met,(c8 λc j=>σ[m]? =I (.inst c j)))(h:x∈met):∀k,qC σ (.ref x) (met.map V.ref) k=I (k+met.idxOf x):=by
 obtain⟨_,_,ay⟩:=ak
 induction met with
 |nil=>cases h
 |cons m met aj=>
  intro k;obtain⟨_,_,av⟩:=hm m b9;refine(?_:(match ej σ (.ref m) (.ref x) with|some true=>I k|some false=>qC σ (.ref x) (met.map V.ref) (k+1)|none=>U)=_);rw[v9 av ay];by_cases e:m=x
  ·subst e;rw[k6,afy];rfl
  ·rw[List.idxOf_cons,rG.mpr e];refine(?_:qC σ (.ref x) (met.map V.ref) (k+1)=I (k+(met.idxOf x+1)));rw[aj (λm gZ=>hm m (dz _ gZ)) ((List.mem_cons.mp h).resolve_left λq=>e q.symm) (k+1)];congr 1;exact iF (bF 0x21280802842400020 aa) (bF 0xA109000084A020020 aa)
def o3(G:dr)(met:List Nat):Prop:=∀m∈met,(∃aF,G m=I aF)
theorem DX(g:bU σ G)(h:o3 G met):∀m∈met,(c8 λc j=>σ[m]? =I (.inst c j)):=λm hm=>by
 obtain⟨aF,e⟩:=h m hm;obtain⟨k,aG⟩:=(g _ _ e).inst;exact⟨_,_,aG⟩
theorem DZ(h:o3 G met)(ak:(∃aF,G x=I aF)):o3 G (jd met x):=by
 unfold jd;by_cases hm:x∈met
 ·rw[aK hm];exact h
 ·rw[aR hm];intro m hm;rcases gb.mp hm with hm|hm
  ·exact h m hm
  ·rw[bN.mp hm];exact ak
theorem Ik(h:f6 σ d5 j dc met dC)(g:bU σ G)(hm:o3 G met)(ak:(∃aF,G x=I aF))(hl:met.length<=1000):Wp σ (bc (d+1) "Teller.number" [.ref d5,.ref x]) λv ag=>v=.int ((jd met x).idxOf x:Nat)/\f6 ag d5 j dc (jd met x) dC/\bU ag G/\ct [j,dc] σ ag:=by
 refine aB λae=>?_;obtain⟨agi,ex⟩:=id ak;obtain⟨agq,XK⟩:=(g _ _ ex).inst;have key:∀{ag:aN}{uq:List Nat},f6 ag d5 j dc uq dC->bU ag G->o3 G uq->x∈uq->Bv d (.ref d5) (.ref x) ag=.ok (.int (uq.idxOf x:Nat)) ag:=λ{ag uq} h' ck gZ gf=>by
  obtain⟨agp,MX⟩:=(ck _ _ ex).inst;unfold Bv;refine(a4 h'.DY).trans ((a4 (ly h'.m aa)).trans ((a4 (Tc (j:=uq.idxOf x) h'.m (by rw[Iw ⟨_,_,MX⟩ (DX ck gZ),m6 gf]) (by rw[QT ⟨_,_,MX⟩ (DX ck gZ) gf,kx]))).trans aa))
 refine ae ?_;rw[ab6];refine al h.DY (al (Dx h.m (Iw (x:=x) ⟨_,_,XK⟩ (DX g hm))) (al (m:=truth _) aa ?_));by_cases pM:x∈met
 ·have aV:jd met x=met:=aK pM;rw[aV];exact d3 (by rw[m6 pM];rfl) ⟨_,_,key h g hm pM,aa,h,g,.refl⟩
 ·have aV:jd met x=met++[x]:=aR pM;rw[aV];refine aB λae=>?_;obtain⟨eZ,n2,nA⟩:=h.ne;have h':f6 (σ.set dc (.list (met.map V.ref++[.ref x]))) d5 j dc (met++[x]) dC:=⟨ef nA.symm h.i,ef eZ.symm h.f,by rw[dY];exact fV h.m,h.z5,h.hH⟩;have ck:=g.rY (o:=.list (met.map V.ref++[.ref x])) h.m;refine ae (gD (by rw[jf pM];rfl) (al h.DY (al (ly h.m aa) (al (oD h.m h.hH (by rw[bC];exact i5 hl (by decide +kernel))) ?_))));have VL:o3 G (met++[x]):=by rw[<-aV];exact DZ hm ak
  exact⟨_,_,key h' ck VL (iH _ b9),aa,h',ck,ct.set (dz _ b9) .refl⟩
end
noncomputable def lastOf(w:TW)(last:Nat):Option Nat:=match w with
 |.bo=>I last
 |_=>U
theorem K0:(jd met x).length<=met.length+1:=by
 unfold jd;by_cases h:x∈met
 ·rw[aK h];exact gH _
 ·rw[aR h,dp];exact bx _
theorem CO:(∀t:T,∀m,(t.tell m).2.length<=m.length+t.size)/\∀r:R,∀m,(r.tell m).2.length<=m.length+r.size:=by
 refine T.both (λm=>ha _ _) (λn m=>K0) (λr aj m=>?_) (λm=>bx _) (λn m=>bx _) λl t r h1 h2 m=>?_
 ·refine(?_:(oy r.fin (r.tell m).2).2.length<=m.length+(1+r.size));have:=aj m
  induction r.fin with
  |none=>exact show(r.tell m).2.length<=_ from cb 0x182101404080C501021 aa this
  |some n=>refine(?_:(jd (r.tell m).2 n).length<=_);exact fq 0xE1080C020407300A10842501021 aa (K0 (met:=(r.tell m).2) (x:=n)) this
 ·refine(?_:(r.tell (t.tell m).2).2.length<=m.length+(1+t.size+r.size));exact hG 0x20C10800501C2041007084C501021 aa (h1 m) (h2 (t.tell m).2)
theorem T7{r:R}{p:Str×T}(h:r.ec)(hp:p∈r.fl):p.2.ec:=by
 induction r using R.ind with
 |aE=>cases hp
 |h1 n=>cases hp
 |h2 l t r aj=>
  rcases List.mem_cons.mp hp with e|hp
  ·subst e;exact h.1
  ·exact aj h.2 hp
theorem IY(ps:List (Str×T))(m:List Nat):(lp ps m).2.length<=m.length+(d0 ps .nil).size:=by
 have e:(d0 ps .nil).fl=ps:=by
  induction ps with
  |nil=>rfl
  |cons p ps aj=>refine(?_:(p.1,p.2)::(d0 ps .nil).fl=_);rw[aj]
 have h:=CO.2 (d0 ps .nil) m;rw[IU,e]at h;exact h
theorem KN:(d0 ps .nil).size<=(d0 ps r).size:=by
 induction ps with
 |nil=>exact eV _
 |cons p ps aj=>exact show 1+p.2.size+_<=1+p.2.size+_ from cb 0xA608400218210002029021 aa aj
theorem take_size{r:R}{i:Nat}:(d0 (r.fl.take i) .nil).size<=r.size:=by
 have h:∀(ps:List (Str×T)) (i:Nat),(d0 (ps.take i) .nil).size<=(d0 ps .nil).size:=by
  intro ps
  induction ps with
  |nil=>intro i;rw[afl];exact bx _
  |cons p ps aj=>
   intro i
   induction i with
   |zero=>exact eV _
   |succ i=>refine(?_:1+p.2.size+(d0 (ps.take i) .nil).size<=1+p.2.size+(d0 ps .nil).size);exact jZ (aj i) _
 have h2:=KN (ps:=r.fl) (r:=r.dx);rw[um]at h2;exact b0 (h _ _) h2
section
variable {n x y B d5 j dc:Nat}{τ:Nat->R}{met:List Nat}{dC deep:Nat}
theorem f6.tag(h:f6 σ d5 j dc met dC)(ao:(KI.1.contains nm&&((qE (.ref dc) (.int dC)).lookup nm).isNone)=aw):c3 (d9 (aC d) (.ref d5) nm) σ=.ok (.own "Teller") σ:=JR h.i h.f vh ao
def Oi(σ:aN)(G:dr)(d5 j dc:Nat)(met:List Nat)(dC:Nat)(t:T)(v:V)(ag:aN):Prop:=v=(t.tell met).1/\f6 ag d5 j dc (t.tell met).2 ((dC+t.fh:Nat):Int)/\o3 G (t.tell met).2/\bU ag G/\ct [j,dc] σ ag
theorem UN{fl:List (Str×T)}{i:Nat}{p:Str×T}(h:fl[i]? =I p):((fl.take (i+1)).map λp=>p.2.fh).sum=((fl.take i).map λp=>p.2.fh).sum+p.2.fh:=by
 rw[jg,h,dY,vQ];show _+(p.2.fh+0)=_;rw[Nat.add_zero]
theorem UO{fl:List (Str×T)}{i:Nat}:((fl.take i).map λp=>p.2.fh).sum<=(fl.map λp=>p.2.fh).sum:=by
 have:(fl.map λp=>p.2.fh).sum=((fl.take i).map λp=>p.2.fh).sum+((fl.drop i).map λp=>p.2.fh).sum:=by
  rw[<-vQ,<-dY,(vP i fl)]
 exact cb 0x85080C501023 aa this
theorem Ih(O:bV G)(E:Gen G ρ τ):∀(s:Nat) {x d:Nat}{σ:aN}{met:List Nat}{dC deep:Nat},(ρ x).size<=s->(ρ x).ec->cq G x->bU σ G->0<σ.length->f6 σ d5 j dc met dC->o3 G met->met.length+(ρ x).size<=1000->dC+(ρ x).fh<=200->deep+(ρ x).dep<=13->s+3<=d ->
  Wp σ (bc d "Teller.told" [.ref d5,.ref x,.int deep]) (Oi σ G d5 j dc met dC (ρ x)):=by
 intro s
 induction s with
 |zero=>intro x d σ met dC deep h;have:=T.pos (ρ x);exact absurd ‹_<=0› (B0 ‹1<=_›)
 |succ s aj=>
  intro x d σ met dC deep az q8 ak g aE aP hm sH Ao Ar hd;refine aB λae=>?_;obtain⟨d,rfl⟩:(∃e,d=e+4):=⟨d-4,by exact rS (b0 (qp _ _) ‹_›)⟩;obtain⟨_,_,ex⟩:=id ak;obtain⟨t,EN⟩:=O.top ex;obtain⟨w,eF⟩:=EN.bg O ak;have ext:ρ x=ρ t:=E.sol.jl O EN ak;have lO:1<=(ρ x).fh:=by cases ρ x;exact bx 1;exact bx 1;exact ha 1 _
  have Wn:1<=(ρ x).dep:=by cases ρ x;exact bx 1;exact bx 1;exact ha 1 _
  refine ae ?_;rw[abX];refine aB λae=>?_;obtain⟨s1,t1,lH⟩:=aP.Su (d:=d+3) (w8:=(dC:Int)+1);have g1:=g.Ec lH aP.bad;have E9:0<(σ.set j (.bT (qE (.ref dc) (.int ((dC:Int)+1))))).length:=by rw[lF];exact aE
  refine ae (al aP.K9 (al (m:=binop _ _ _) (a:=.int ((dC:Int)+1)) aa (al s1 ?_)));generalize (σ.set j (.bT (qE (.ref dc) (.int ((dC:Int)+1)))):aN)=cJ at t1 lH g1 E9;have t1:f6 cJ d5 j dc met ((dC+1:Nat):Int):=t1;refine al (a:=aS) (ag:=cJ) ?_ (d3 aa ?_)
  ·refine(a4 t1.K9).trans ((a4 (m:=cmp _ _ _) (a:=.bool aS) (ag:=cJ) ?_).trans ((a4 (m:=truth _) aa).trans ((s6 aa).trans ((a4 (m:=cmp _ _ _) (a:=.bool aS) (ag:=cJ) ?_).trans ((a4 (m:=truth _) aa).trans ((s6 aa).trans aa))))))
   ·refine(?_:Res.ok (V.bool (decide ((200:Int)<((dC+1:Nat):Int)))) cJ=_);rw[jf (λq=>ae8 (b0 (jZ lO dC) (by assumption)) (kQ q))]
   ·refine(?_:Res.ok (V.bool (decide ((12:Int)<(deep:Int)))) cJ=_);rw[jf (λq=>ae8 (b0 (jZ Wn deep) (by assumption)) (PA (kQ q)))]
  unfold OQ;refine al (w_top g1 EN) (al (fW (g1 t _ eF)) (al fm (al (m:=truth _) aa ?_)))
  induction w with
  |num=>
   have e:ρ x=.num:=by rw[ext];exact(E.sol.bg eF).1
   rw[e];exact gD (show(Str.ofString "number" == Str.ofString "number")=aw by decide +kernel) (bZ ⟨aa,t1,hm,g1,lH⟩)
  |bo=>
   have e:ρ x=.var t:=by rw[ext];exact E.vs eF
   rw[e]at sH ⊢;refine d3 (show(Str.ofString "unknown" == Str.ofString "number")=aS by decide +kernel) ?_;unfold G5;refine al (fW (g1 t _ eF)) (al fm (al (m:=truth _) aa (gD (show(Str.ofString "unknown" == Str.ofString "unknown")=aw by decide +kernel) (al (t1.tag aa) ?_))));rw[nu (full := "Teller.number") (by decide +kernel)];refine Wp.step (Ik t1 g1 hm ⟨_,eF⟩ (by exact bF 0xFA3C12041F4782520021 aa sH)) ?_;intro k9 b6 dh;refine aB λae=>?_;obtain⟨rfl,bp,g2,kL⟩:=dh;exact ae (bZ ⟨aa,bp,DZ hm ⟨_,eF⟩,g2,lH.trans kL⟩)
  |aQ r=>
   have e:ρ x=.aQ (τ r):=by rw[ext];exact(E.sol.bg eF).1
   rw[e]at az q8 sH Ao Ar ⊢;have az:1+(τ r).size<=s+1:=az;have Ao:dC+(1+(τ r).fh)<=200:=Ao;have Ar:deep+(1+(τ r).dep)<=13:=Ar;have sH:met.length+(1+(τ r).size)<=1000:=sH;refine d3 (show(Str.ofString "record" == Str.ofString "number")=aS by decide +kernel) ?_;unfold G5;refine al (fW (g1 t _ eF)) (al fm (al (m:=truth _) aa (d3 (show(Str.ofString "record" == Str.ofString "unknown")=aS by decide +kernel) ?_)));unfold OP;refine aB λae=>?_;obtain⟨aD,last,w,aX⟩:=Row.ex O E.sol (O.aQ eF);obtain⟨bL,aF,off⟩:=aX.sol O E.sol;have xD:aD.length<=30:=by
    have h1:=q8.1;rw[bL,D9]at h1;unfold vals kinds at h1;rw[bC,bC]at h1;exact bF 0x7BC120400F782520021 aa h1
   have uU:(τ last).fl=[]/\(τ last).fin=lastOf w last:=by
    induction w with
    |bo=>rw[E.hX aX.at.1];exact⟨aa,aa⟩
    |fin=>rw[show τ last=.nil from(E.sol.tail aX.at.1).2.1];exact⟨aa,aa⟩
    |cF l k q=>exact absurd aa (aX.at.2 l k q)
   have Fa:(τ r).fl.map (·.1)=fg (aD.map (·.1)):=by
    rw[bL,Xr uU.1,lb,so]
   have xg:(τ r).up:=aX.Cy O E.sol;have ra:∀p∈(τ r).fl,(jE λtZ k q=>eH (lk aD p.1=I (tZ,k)) (G tZ=I (.tail (.cF p.1 k q) U)) (ρ k=p.2)):=λp hp=>by
    have h1:=UB xg hp;have mN:p.1∈aD.map (·.1):=by
     have:p.1∈(τ r).fl.map (·.1):=ez.mpr ⟨p,hp,aa⟩;rw[Fa]at this;exact qV.mp this
    obtain⟨⟨tZ,k⟩,gh⟩:=m7.mp (qX.mpr mN);obtain⟨q,eq⟩:=aX.ent _ (kJ gh);refine⟨tZ,k,q,gh,eq,?_⟩;rw[aX.look O E.sol,kK,gh]at h1;exact gm h1
   refine ae (al (tU g1 E9 (.here eF aa) eF aX aF (by exact cp 0x3E8F0481003DE09021 aa xD)) ?_);rw[ab3];refine al (m:=Pure.pure _) aa ?_;rw[ab4];have p5:(cJ++[.dict aD.length (cu aD)]:aN)[cJ.length]? =I (.dict aD.length (cu aD)):=cP;refine al (m:=bD _) aa (al (zx p5) ?_);rw[kc];refine al (wH cP (by rw[bC,bC];exact cp 0x20782109001003DE09021 aa xD) wk) (al (nw cP) ?_);rw[<-Fa];have yd:f9 cJ (cJ++[.dict aD.length (cu aD)]++[.list ((aD.map (·.1)).map V.str)]++[.list (((τ r).fl.map (·.1)).map V.str)]):=f9.push.new.new;have Nd:(cJ++[.dict aD.length (cu aD)]++[.list ((aD.map (·.1)).map V.str)]++[.list (((τ r).fl.map (·.1)).map V.str)]:aN)[cJ.length]? =I (.dict aD.length (cu aD)):=cB (cB p5);have F6:(cJ++[.dict aD.length (cu aD)]++[.list ((aD.map (·.1)).map V.str)]++[.list (((τ r).fl.map (·.1)).map V.str)]:aN)[(cJ++[.dict aD.length (cu aD)]++[.list ((aD.map (·.1)).map V.str)]:aN).length]? =I (.list (((τ r).fl.map (·.1)).map V.str)):=cP;have h9:cJ.length<(cJ++[.dict aD.length (cu aD)]++[.list ((aD.map (·.1)).map V.str)]:aN).length:=by rw[dp,dp];exact show _<cJ.length+1+1 from cp 0x1084240002120020 aa
   generalize (cJ++[Mine.Internal.O.dict aD.length (cu aD)]++[Mine.Internal.O.list ((aD.map (·.1)).map V.str)]:aN).length=q1 at F6 h9 ⊢;generalize (cJ++[Mine.Internal.O.dict aD.length (cu aD)]++[Mine.Internal.O.list ((aD.map (·.1)).map V.str)]++[Mine.Internal.O.list (((τ r).fl.map (·.1)).map V.str)]:aN)=b6 at yd Nd F6 ⊢;have bp:=t1.ap λe=>yd.at e;have g2:=g1.le λe=>yd.at e;have UH:=cE t1.f;have lm:=cE t1.m;have zL:∀{k:Nat},cJ.length<=k->k∉[j,dc]:=λ{k} h hm=>by
    rcases List.mem_cons.mp hm with q|hm
    ·exact er (cb 0x8421010C1118A10942120021 aa UH h q)
    ·have:=bN.mp hm;exact er (cb 0x8421010C1118A10942120021 aa lm h this)
   have h2:0<b6.length:=d4 E9 yd.len;refine ru (l:=((τ r).fl.map (·.1)).map V.str) (J:=λbH=>ct [j,dc] b6 bH) aa (nf λbH h=>h _ _ (zL (k7 h9)) F6) abZ (ab0 ..) (by rw[Fa,bC,si,bC];exact b0 xD (by decide +kernel))
    (λi acc loc ag=>ct [j,dc] b6 ag/\(∃o,mn (acc=(lp ((τ r).fl.take i) met).1) (loc=[U,o,I (.int deep),I (.ref cJ.length),I (.ref d5)]) (f6 ag d5 j dc (lp ((τ r).fl.take i) met).2 ((dC+1+(((τ r).fl.take i).map λp=>p.2.fh).sum:Nat):Int)) (o3 G (lp ((τ r).fl.take i) met).2) (bU ag G)))
    (λaf aJ b3 eW h=>h.1) ⟨.refl,_,aa,aa,bp,hm,g2⟩ ?_ ?_
   ·intro i u acc loc ag aY dh;refine aB λae=>?_;obtain⟨l',o,rfl,rfl,eu,gZ,ck⟩:=dh;rw[gw,e6]at aY;obtain⟨p,hp,rfl⟩:=eU.mp aY;have lN:=ee hp;obtain⟨tZ,k,q,gh,uK,ar⟩:=ra p lN;have Al:=T.Dh lN;have Al:p.2.size<1+(τ r).size:=Al;have Wj:=YW lN;have fD:=UN hp;have L3:=UO (fl:=(τ r).fl) (i:=i+1);rw[<-K7]at L3;have agy:=IY ((τ r).fl.take (i+1)) met;have VM:=IY ((τ r).fl.take i) met;have cV:=take_size (r:=τ r) (i:=i+1);have oM:(d0 ((τ r).fl.take (i+1)) .nil).size=(d0 ((τ r).fl.take i) .nil).size+(1+p.2.size):=by
     rw[jg,hp];refine(?_:(d0 ((τ r).fl.take i++[p]) .nil).size=_);generalize (τ r).fl.take i=ps
     induction ps with
     |nil=>exact show 1+p.2.size+0=0+_ from iF (cp 0x20420004000902100020 aa) (cp 0x481080040840008020 aa)
     |cons q ps aj=>refine(?_:1+q.2.size+(d0 (ps++[p]) .nil).size=1+q.2.size+(d0 ps .nil).size+_);rw[aj];exact(pd ..).symm
    refine ae ((?_:Wp _ (bindTo _ _ (.str p.1) _) _));rw[ab2];refine jR aa ?_;rw[abY];refine jR aa ?_;rw[aK aa,ab1];refine al (eu.tag aa) (al (m:=bD _) aa (al (lz (key:=.inr p.1) (l' _ _ (zL (bx _)) Nd) aa (by rw[rQ,gh];rfl)) (al (ua (ck tZ _ uK)) (al (m:=binop _ _ _) (a:=.int ((deep+1:Nat):Int)) aa ?_))));rw[nu (full := "Teller.told") (by decide +kernel)];refine(?_:Wp ag (bc (d+3) "Teller.told" [.ref d5,.ref k,.int ((deep+1:Nat):Int)]>>=_) _);refine Wp.step (aj (by rw[ar];exact hG 0x15010202101C0608C86084212808108021 aa az cV oM) (by rw[ar];exact T7 q8.2 lN) (O.cF uK).1 ck (i5 (eV _) (cE eu.i)) eu gZ (by rw[ar];exact w3 0xFA3C1498010242101C0808CA8084E401821FA3C12842020021 aa sH VM cV oM) (by rw[ar];exact hG 0x323C141C2120000080A60850701823323C12842020021 aa Ao fD L3) (by rw[ar];exact cb 0x684C109000080A6085A12842020021 aa Ar Wj) (by exact bF 0xC2500C2400404094030842400021 aa hd)) ?_;intro k9 iI dh;refine aB λae=>?_;obtain⟨rfl,cA,xp,dk,pK⟩:=dh;refine ae ?_;rw[ar]at cA xp ⊢;have lM:=IX p ((τ r).fl.take i) met;have gX:(τ r).fl.take (i+1)=(τ r).fl.take i++[p]:=by rw[jg,hp];rfl
    refine bZ ⟨l'.trans pK,_,by rw[gX,lM],aa,?_,by rw[gX,lM];exact xp,dk⟩;rw[fD,gX,lM,<-pd];exact cA
   ·intro out loc dq dh;refine aB λae=>?_;obtain⟨Eh,o,rfl,rfl,t3,xq,g3⟩:=dh;rw[bC,bC,iG,<-K7]at t3;refine ae ?_;rw[bC,bC,iG]at xq ⊢;rw[<-IU]at t3 xq ⊢;have dk:=g3.push (o:=.list ((τ r).tell met).1);have cA:=t3.ap (ag:=dq++[.list ((τ r).tell met).1]) λe=>cB e;have hl:=(CO.2 (τ r) met);have K5:ct [j,dc] σ (dq++[.list ((τ r).tell met).1]):=(lH.trans (ct.ex λn o af e=>yd.at e)).trans (Eh.trans .push);have Wc:(τ r).fin=lastOf w last:=by rw[aX.fin O E.sol];exact uU.2
    refine al (wG cP) (al (m:=bD _) aa (al (fW (dk last _ aX.at.1)) (al fm (al (m:=truth _) aa ?_))));have jL:((dC+1+(τ r).fh:Nat):Int)=((dC+(T.aQ (τ r)).fh:Nat):Int):=by refine(?_:_=((dC+(1+(τ r).fh):Nat):Int));rw[pd]
    rw[jL]at cA;unfold Oi;rw[show(T.aQ (τ r)).tell met=(.tup [.str "record",.tup ((τ r).tell met).1,(oy (τ r).fin ((τ r).tell met).2).1],(oy (τ r).fin ((τ r).tell met).2).2) from aa];rw[Wc]
    induction w with
    |cF l k q=>exact absurd aa (aX.at.2 l k q)
    |fin=>exact d3 (show(Str.ofString "end" == Str.ofString "unknown")=aS by decide +kernel) (bZ ⟨aa,cA,xq,dk,K5⟩)
    |bo=>
     refine gD (show(Str.ofString "unknown" == Str.ofString "unknown")=aw by decide +kernel) (al (cA.tag aa) (al (m:=bD _) aa ?_));rw[nu (full := "Teller.number") (by decide +kernel)];refine Wp.step (Ik cA dk xq ⟨_,aX.at.1⟩ (by exact cb 0x1F47826080A401821FA3C12842020021 aa sH hl)) ?_;intro k9 hb dh;refine aB λae=>?_;obtain⟨rfl,cQ,fc,z4⟩:=dh;exact ae (bZ ⟨aa,cQ,DZ xq ⟨_,aX.at.1⟩,fc,K5.trans z4⟩)
end
theorem R.Gh{l:Str}{t:T}{r:R}:(r.ins l t).dep=max t.dep r.dep:=by
 induction r using R.ind with
 |aE=>rfl
 |h1 n=>rfl
 |h2 m u r aj=>
  rw[R.kP];by_cases e:strLt m l=aw
  ·rw[aK e];show max u.dep (r.ins l t).dep=max t.dep (max u.dep r.dep);rw[aj,<-afa,<-afa,Nat.max_comm u.dep]
  ·rw[aR e];rfl
def Z2(f:Nat->T)(g:Nat->R)(t:T):Prop:=t.c5 f g->t.size<=(t.sub f g).size/\t.dep<=(t.sub f g).dep/\((t.sub f g).ec->t.ec)
def Z3(f:Nat->T)(g:Nat->R)(r:R):Prop:=r.c5 f g->r.size<=(r.sub f g).size/\r.dep<=(r.sub f g).dep/\((r.sub f g).ec->r.ec)/\r.len<=(r.sub f g).len
theorem T.YV(t:T):1<=t.dep:=by cases t;exact bx 1;exact bx 1;exact ha 1 _
theorem sub_le(f:Nat->T)(g:Nat->R):(∀t,Z2 f g t)/\∀r,Z3 f g r:=by
 refine T.both (λaf=>⟨bx _,bx _,id⟩) (λn af=>⟨T.pos _,T.YV _,λaf=>aL⟩) (λr aj h=>?_) (λaf=>⟨bx _,bx _,id,bx _⟩) (λn af=>⟨eV _,eV _,λaf=>aL,eV _⟩) λl t r h1 h2 h=>?_
 ·refine aB λae=>?_;obtain⟨a,b,c,d⟩:=aj h;exact ae ⟨jZ a 1,jZ b 1,λao=>⟨b0 d ao.1,c ao.2⟩⟩
 ·refine aB λae=>?_;obtain⟨iQ,kd,q2⟩:=h;obtain⟨a,b,c⟩:=h1 iQ;obtain⟨qb,cT,fG,f3⟩:=h2 kd;refine ae ((?_:1+t.size+r.size<=((r.sub f g).ins l (t.sub f g)).size/\max t.dep r.dep<=((r.sub f g).ins l (t.sub f g)).dep/\(((r.sub f g).ins l (t.sub f g)).ec->t.ec/\r.ec)/\1+r.len<=((r.sub f g).ins l (t.sub f g)).len));rw[R.rW,R.Gh,R.Ea,R.KH];exact⟨B3 (jZ a 1) qb,tM.mpr ⟨b0 b (pb _ _),b0 cT (qo _ _)⟩,λao=>⟨c ao.1,fG ao.2⟩,jZ f3 1⟩
theorem Ei:(∀t:T,t.fh<=t.size)/\∀r:R,r.fh<=r.size:=by
 refine T.both (bx _) (λn=>bx _) (λr aj=>jZ aj 1) (bx _) (λn=>bx _) λl t r h1 h2=>?_;exact show t.fh+r.fh<=1+t.size+r.size from fq 0x1CA108006200203982129021 aa h1 h2
open Classical in
noncomputable def rV(G:dr)(n:Nat):Bool:=decide (cq G n)
section
variable {n x y B d5 j dc many:Nat}{τ:Nat->R}{met:List Nat}{dC deep:Nat}
theorem R.R8{sp:Nat->Bool}{l:Str}{t:T}{r:R}(h:r.eK sp)(aP:t.eK sp):(r.ins l t).eK sp:=by
 induction r using R.ind with
 |aE=>exact⟨aP,aL⟩
 |h1 n=>exact⟨aP,h⟩
 |h2 m u r aj=>
  rw[R.kP];by_cases e:strLt m l=aw
  ·rw[aK e];exact⟨h.1,aj h.2⟩
  ·rw[aR e];exact⟨aP,h⟩
open Classical in theorem Sd (h:cq G n):rV G n=true:=by unfold rV;exact @m6 _ _ h
open Classical in theorem Se (h:dy G n):rV G n=false:=by unfold rV;exact @jf _ _ λh'=>C7 h' h
theorem Gen.eK(E:Gen G ρ τ)(O:bV G):(∀n,cq G n->(ρ n).eK (rV G))/\∀n,dy G n->(τ n).eK (rV G):=by
 refine E.sol.ind O (λn t az bw h=>?_) (λn t az bw h=>?_) (λn e=>?_) (λn e=>?_) (λn r e h=>?_) (λn e=>?_) (λn e=>?_) λn l k r e h1 h2=>?_
 ·rw[E.sol.jl O bw az];exact h
 ·rw[E.sol.lj O bw az];exact h
 ·rw[E.vs e];exact Sd ⟨_,_,e⟩
 ·rw[show ρ n=.num from(E.sol.bg e).1];trivial
 ·rw[show ρ n=.aQ (τ r) from(E.sol.bg e).1];exact h
 ·rw[E.hX e];exact Se ⟨_,_,e⟩
 ·rw[show τ n=.nil from(E.sol.tail e).2.1];trivial
 ·rw[(E.sol.tail e).2.1.2];exact R.R8 h2 h1
noncomputable def hY:List T->List Nat->List V×List Nat
 |[],m=>([],m)
 |t::ts,m=>((t.tell m).1::(hY ts (t.tell m).2).1,(hY ts (t.tell m).2).2)
theorem IV(t:T):∀(ts:List T) (m:List Nat),hY (ts++[t]) m=((hY ts m).1++[(t.tell (hY ts m).2).1],(t.tell (hY ts m).2).2)
 |[],m=>rfl
 |u::ts,m=>by
  refine(?_:((u.tell m).1::(hY (ts++[t]) (u.tell m).2).1,(hY (ts++[t]) (u.tell m).2).2)=_);rw[IV t ts]at ⊢;rfl
noncomputable def gU(ts:List T):Nat:=(ts.map T.size).sum
theorem IW(ts:List T):∀m,(hY ts m).2.length<=m.length+gU ts:=by
 induction ts with
 |nil=>intro m;exact bx _
 |cons t ts aj=>
  intro m;have h2:=aj (t.tell m).2;exact show(hY ts (t.tell m).2).2.length<=m.length+(t.size+gU ts) from hG 0x4180501C2041007084C501021 aa (CO.1 t m) h2
theorem t5:gU (ts++[t])=gU ts+t.size:=by
 unfold gU;rw[dY,vQ];rfl
def Ej(ts:List T)(t:T):V:=.tup [.tup (hY ts []).1,(t.tell (hY ts []).2).1]
noncomputable def uA(ts:List T):Nat:=(ts.map T.fh).sum
theorem UP:uA (ts++[t])=uA ts+t.fh:=by
 unfold uA;rw[dY,vQ];rfl
theorem K6:uA ts<=gU ts:=by
 induction ts with
 |nil=>exact bx _
 |cons t ts aj=>have:=Ei.1 t;exact show t.fh+uA ts<=t.size+gU ts from fq 0x29C04300203982129021 aa aj this
theorem RU:gU (ts.take i)<=gU ts:=by
 have:gU ts=gU (ts.take i)+gU (ts.drop i):=by unfold gU;rw[<-vQ,<-dY,(vP i ts)]
 exact cb 0x85080C501023 aa this
variable {bz:hS}{bu:List Nat}{self ae d2 e9 du cX:Nat}{v:V}{os:List Place}{cU:List (Place×Nat)}{o:O}
theorem gG.Ec(h:gG σ self ae d2 e9 du v)(aP:f6 σ d5 j dc met dC)(le:ct [j,dc] σ ag):gG ag self ae d2 e9 du v:=by
 obtain⟨i,av,ay⟩:=h.at_;refine⟨i,le _ _ (λhm=>?_) av,le _ _ (λhm=>?_) ay⟩
 ·rcases List.mem_cons.mp hm with q|hm
  ·replace av:=aP.f ▸ q ▸ av;cases av
  ·replace av:=aP.m ▸ bN.mp hm ▸ av;cases av
 ·rcases List.mem_cons.mp hm with q|hm
  ·replace ay:=aP.f ▸ q ▸ ay;cases ay
  ·replace ay:=aP.m ▸ bN.mp hm ▸ ay;cases ay
theorem QI(O:bV G)(E:Gen G ρ τ)(g:bU σ G)(F:gG σ self ae d2 e9 du v)(pT:σ[e9]? =I (.list (bu.map V.ref)))(fN:σ[du]? =I o)(ho:o8 cU o)(a9:lk cU []=I y)(sz:cq G y)(g4:∀x∈bu,cq G x)(nS:bu.length<=30)
  (aP:f6 σ d5 j dc [] (0:Nat)) (cv:e9≠dc) (q8:∀t∈bu.map ρ++[ρ y],t.ec/\t.dep<=12) (cV:gU (bu.map ρ++[ρ y])<=N) (cg:N<=200) (hd:N<=d) :
  Wp σ (bc (d+4) "kind_of" [.ref self,.ref d5]) λv' ag=>v'=Ej (bu.map ρ) (ρ y)/\ct [j,dc] σ ag:=by
 replace cV:=t5 ▸ cV;rw[aaL];have Mu:∀x∈bu,(ρ x).ec/\(ρ x).dep<=12:=λx ak=>q8 _ (jG _ (ez.mpr ⟨x,ak,aa⟩));have Mt:=q8 (ρ y) (iH _ b9);have zL:e9∉[j,dc]:=λhm=>by
  rcases List.mem_cons.mp hm with q|hm
  ·replace pT:=aP.f ▸ q ▸ pT;cases pT
  ·exact cv (bN.mp hm)
 have TV:du∉[j,dc]:=λhm=>by
  rcases List.mem_cons.mp hm with q|hm
  ·replace fN:=aP.f ▸ q ▸ fN;cases fN;rcases ho with ⟨_,h⟩|⟨_,h⟩ <;> cases h
  ·replace fN:=aP.m ▸ bN.mp hm ▸ fN;cases fN;rcases ho with ⟨_,h⟩|⟨_,h⟩ <;> cases h
 have h9:=K6 (ts:=bu.map ρ);refine al F.Ls (al (nw pT) (ru (l:=bu.map V.ref) (J:=λbH=>ct [j,dc] σ bH) aa (nf λbH h=>h _ _ zL pT) aaN (aaO ..) (by rw[bC];exact b0 nS (by decide +kernel))
  (λi acc loc ag=>ct [j,dc] σ ag/\(∃o,mn (acc=(hY ((bu.map ρ).take i) []).1) (loc=[U,o,I (.ref d5)]) (f6 ag d5 j dc (hY ((bu.map ρ).take i) []).2 ((uA ((bu.map ρ).take i):Nat):Int)) (o3 G (hY ((bu.map ρ).take i) []).2) (bU ag G))) (λaf aJ b3 eW h=>h.1) ⟨.refl,_,aa,aa,aP,nofun,g⟩ ?_ ?_))
 ·rintro i u acc loc ag aY ⟨le,o',rfl,rfl,eu,gZ,ck⟩;replace aY:=e6 ▸ aY;obtain⟨x,ak,rfl⟩:=eU.mp aY;have pM:=ee ak;have Vl:(bu.map ρ)[i]? =I (ρ x):=by rw[e6,ak];rfl
  have gX:(bu.map ρ).take (i+1)=(bu.map ρ).take i++[ρ x]:=by rw[jg,Vl];rfl
  have h1:=RU (ts:=bu.map ρ) (i:=i+1);replace h1:=t5 ▸ gX ▸ h1;have h2:=K6 (ts:=(bu.map ρ).take i);have h3:=Ei.1 (ρ x);have bY:=IW ((bu.map ρ).take i) [];have bY:(hY ((bu.map ρ).take i) []).2.length<=0+gU ((bu.map ρ).take i):=bY;have c0:=(Mu x pM).2;rw[aaQ];refine jR aa ?_;rw[aaM];refine jR aa ?_;rw[aK aa,aaP];refine al (eu.tag aa) ?_;rw[nu (full := "Teller.told") (by decide +kernel)];refine Wp.step (Ih (deep:=1) O E (ρ x).size (bx _) (Mu x pM).1 (g4 x pM) ck (i5 (eV _) (cE eu.i)) eu gZ (by exact w3 0x7D1E0A120080E008121091070042647826084C520021 aa cV cg h1 bY) (by exact KY 0x323C1524010214109D21091070042647826084C520021 aa cV cg h1 h2 h3) (by exact cp 0xD090210040C09021 aa c0) (by exact w3 0x61380614802022500084E6084C520021 aa cV hd h1)) ?_;rintro _ iI ⟨rfl,cA,xp,dk,pK⟩;have lM:=IV (ρ x) ((bu.map ρ).take i) [];refine bZ ⟨le.trans pK,_,by rw[gX,lM],aa,?_,by rw[gX,lM];exact xp,dk⟩;rw[gX,UP,lM];exact cA
 ·rintro out loc ag ⟨le,o',rfl,rfl,eu,gZ,ck⟩;have sM:(bu.map ρ).take (bu.map V.ref).length=bu.map ρ:=by rw[bC,<-bC (f:=ρ),iG]
  rw[sM]at eu gZ ⊢;have bp:=eu.ap (ag:=ag++[.list (hY (bu.map ρ) []).1]) λe=>cB e;have kL:ct [j,dc] σ (ag++[.list (hY (bu.map ρ) []).1]):=le.trans .push;have g2:=ck.push (o:=.list (hY (bu.map ρ) []).1);have BK:=F.Ec aP kL;have bY:=IW (bu.map ρ) [];have bY:(hY (bu.map ρ) []).2.length<=0+gU (bu.map ρ):=bY;have h3:=Ei.1 (ρ y);have c0:=Mt.2;refine al (wG cP) (al (bp.tag aa) (al (BK.tag aa) ?_));rw[nu (full := "Found.result") (by decide +kernel),acp];refine al (a:=.ref y) (ag:=ag++[.list (hY (bu.map ρ) []).1]) ((a4 BK.at).trans ((a4 (N8 (q:=[]) (kL _ _ TV fN) ho a9)).trans aa)) ?_;rw[nu (full := "Teller.told") (by decide +kernel)];refine Wp.step (Ih (deep:=1) O E (ρ y).size (bx _) Mt.1 sz g2 (i5 (eV _) (cE bp.i)) bp gZ (by exact fq 0x1F4782538020200203842647826084C520021 aa cV cg bY) (by exact hG 0xC8F050700405404243842647826084C520021 aa cV cg h9 h3) (by exact cp 0xD090210040C09021 aa c0) (by exact fq 0x184E0184A0080E6084C520021 aa cV hd)) ?_;rintro _ iI ⟨rfl,cA,xp,dk,pK⟩;exact bZ ⟨aa,kL.trans pK⟩
end
theorem R.Ge{l:Str}{t:T}{r:R}(h:r.dup)(aP:t.dup)(hl:r.look l=U):(r.ins l t).dup:=by
 induction r using R.ind with
 |aE=>exact⟨aL,aP,aL⟩
 |h1 n=>exact⟨aL,aP,aL⟩
 |h2 m u r aj=>
  rw[R.sf]at hl;by_cases hm:m=l
  ·rw[aK hm]at hl;exact fU hl
  rw[aR hm]at hl;rw[R.kP];by_cases e:strLt m l=aw
  ·rw[aK e];exact⟨R.Kb h.1 e,h.2.1,aj h.2.2 hl⟩
  ·rw[aR e];exact⟨C3 (by simpa using e) hm,aP,h⟩
structure Oo(bz:hS)(n:Nat)(v:V)(many:Nat)(aW:List T)(t:T):Prop where
 len:aW.length=many
 rM:(c8 λenv A=>eH (jS bz env n v A) ((∀j,j<many->aW[j]? =I (env j))) (A []=t))
 most:∀{env A},jS bz env n v A->(c8 λ(bk:Nat->T) (a6:Nat->R)=>eH ((∀(j:Nat) (e:T),aW[j]? =I e->e.c5 bk a6/\env j=e.sub bk a6)) (t.c5 bk a6) (A []=t.sub bk a6))
 eK:(∃sp,(∀e∈aW,e.eK sp)/\t.eK sp)
 dup:(∀e∈aW,e.dup)/\t.dup
structure o7 where
 name:Str
 many:Nat
 body:V
 kH:rz
noncomputable def AY(D:o7):V:=.tup [.str D.name,.int D.many,D.body]
noncomputable def ka(ds:List o7):hS:=ds.map λD=>(D.name,D.kH)
structure BM(B N:Nat)(bz:hS)(D:o7)(n:Nat)(os:List Place)(jx:Nat->T)(i1:Place->T):Prop where
 wM:iC n D.body os
 deep:n<=100
 p3:os.length<=1000
 many:D.many<=30
 pL:∀q j ps,i2 D.body q (cf (.bu j) ps)->j<D.many
 rM:jS bz jx n D.body i1
 AI:∀j,j<D.many->dS B (jx j)/\(jx j).dep<=12
 MU:∀q∈os,dS B (i1 q)
 Xw:(i1 []).dep<=12
 all:gU (((List.range D.many).map jx)++[i1 []])<=N
 gM:∀aW t,Oo bz n D.body D.many aW t->Ej aW t=hi D.kH
 nr:ry B D.kH
section
variable {n x y B N d5 j dc many:Nat}{τ:Nat->R}{bz:hS}{ae cX:Nat}{D:o7}{os:List Place}{jx:Nat->T}{i1:Place->T}
theorem Gen.dup(E:Gen G ρ τ)(O:bV G):(∀n,cq G n->(ρ n).dup)/\∀n,dy G n->(τ n).dup:=by
 refine E.sol.ind O (λn t az bw h=>?_) (λn t az bw h=>?_) (λn e=>?_) (λn e=>?_) (λn r e h=>?_) (λn e=>?_) (λn e=>?_) λn l k r e h1 h2=>?_
 ·rw[E.sol.jl O bw az];exact h
 ·rw[E.sol.lj O bw az];exact h
 ·rw[E.vs e];trivial
 ·rw[show ρ n=.num from(E.sol.bg e).1];trivial
 ·rw[show ρ n=.aQ (τ r) from(E.sol.bg e).1];exact h
 ·rw[E.hX e];trivial
 ·rw[show τ n=.nil from(E.sol.tail e).2.1];trivial
 ·obtain⟨av,ay⟩:=(E.sol.tail e).2.1;rw[ay];exact R.Ge h2 h1 av
theorem Us:el (aC d) c vs=(sd c>>=λo=>bc d (jq c "__init__") (o::vs)>>=λr=>uH r (Pure.pure o)):=rfl
theorem Qz(aE:0<σ.length):Wp σ (el (aC (d+1)) "Teller" []) λr ag=>(jE λd5 j dc=>yy (r=.ref d5) (f6 ag d5 j dc [] (0:Nat)) ((∀{k:Nat}{o:O},σ[k]? =I o->ag[k]? =I o)) (σ.length<=j) (σ.length<=dc) (σ.length<=ag.length) (σ.length<=d5)):=by
 rw[Us];refine al (m:=sd _) aa ?_;rw[show jq "Teller" "__init__" = "Teller.__init__" by decide +kernel,ab9];have sy:(σ++[.bT [],.inst "Teller" σ.length]:aN)[σ.length+1]? =I (.inst "Teller" σ.length):=qD.2;have f0:(σ++[.bT [],.inst "Teller" σ.length]:aN)[σ.length]? =I (.bT []):=qD.1;have g0:(σ++[.bT [],.inst "Teller" σ.length]:aN).length=σ.length+2:=by simp
 have hold:∀{k:Nat}{o:O},σ[k]? =I o->(σ++[.bT [],.inst "Teller" σ.length]:aN)[k]? =I o:=λe=>CD e;generalize (σ++[.bT [],.inst "Teller" σ.length]:aN)=gc at sy f0 g0 hold ⊢;have cS:=cB (o':=.list []) sy;have f1:=cB (o':=.list []) f0;refine Wp.step (P:=λr ag=>r=.none/\f6 ag (σ.length+1) σ.length gc.length [] (0:Nat)/\(∀{k:Nat}{o:O},σ[k]? =I o->ag[k]? =I o)/\σ.length<=ag.length) ?_ λr ag a8=>by obtain⟨aX,q,h1,h2⟩:=a8;subst aX;exact bZ ⟨_,_,_,aa,q,h1,bx _,by exact bF 0x10A10082501023 aa g0,h2,gH _⟩
 refine al (m:=cH _) aa (al (qI (l':=[("met",.ref gc.length)]) cS f1 aE vh (by decide +kernel) (by decide +kernel) aa) ?_);have cZ:=ef (k:=σ.length) (o':=.bT [("met",.ref gc.length)]) (by exact gv (jY _)) cS;have f2:=fV (o':=.bT [("met",.ref gc.length)]) f1;have mH:=ef (k:=σ.length) (o':=.bT [("met",.ref gc.length)]) (by exact λq=>er (bF 0x8421010A11882501023 aa g0 q)) (cP:(gc++[.list []]:aN)[gc.length]? =I (.list []));refine al (qI (l':=qE (.ref gc.length) (.int 0)) cZ f2 aE vh (by decide +kernel) (by refine(?_:1<sizeLine);decide +kernel) aa) (bZ ⟨aa,⟨ef (by exact gv (jY _)) cZ,fV f2,ef (by exact λq=>er (bF 0x8421010A11882501023 aa g0 q)) mH,aE,by exact bF 0x1021004010082501023 aa g0⟩,λ{k o} e=>?_,?_⟩)
 ·have ar:=cE e;exact ef (by exact λq=>er (bF 0x8421010A11142120021 aa ar q)) (ef (by exact λq=>er (bF 0x8421010A11142120021 aa ar q)) (cB (hold e)))
 ·rw[lF,lF,dp];exact cb 0x6200A10082501023 aa g0
theorem QG(J:∀e,d+3<=e->JoinOk B e)(hB:B<=1000)(hd:B+2<=d+3)(cg:N<=200)(Au:N<=d)(Wk:n<=d)(sm:∀p∈bz,ry B p.2)(hD:BM B N bz D n os jx i1)(aE:0<σ.length)(ar:σ[ae]? =I (.dict cX (jr bz))){α:Type}{K:V->V->M α}{Q:α->aN->Prop}
  (next:∀{ag u},cc σ ag->Wp ag (K u (hi D.kH)) Q) :
  Wp σ (el (aC (d+6)) "Found" [.ref ae,.int D.many,D.body]>>=λy9=>c3 (d9 (aC (d+6)) y9 "go")>>=λW7=>runM (aC (d+6)) "go" W7 y9 []>>=λaf8=>el (aC (d+6)) "Teller" []>>=λRO=>bc (d+6) "kind_of" [y9,RO]>>=K y9) Q:=by
 have Mg:=hD.deep;have An:=hD.many;refine Wp.step (QL (d:=d+3) hD.wM Mg hD.p3 (by exact bF 0x208C25000212002029021 aa Wk) aE (cE ar) An) ?_;rintro _ cJ ⟨self,d2,e9,du,bu,G,rfl,F,kX,p4,cG,fN,Fc,nS,g,g4,dG⟩;have h1:0<cJ.length:=d4 aE dG.len;have jL:=cE ar;refine al (F.tag aa) ?_;rw[nu (full := "Found.go") (by decide +kernel)];refine Wp.step (QK (d:=d) J hB hd sm hD.wM (by exact cp 0x384F048100C9E09021 aa Mg) hD.p3 (by rw[nS];exact hD.pL) hD.rM (λj bh=>(hD.AI j (by exact fS bh nS)).1) hD.MU (WU g4.bo g4.aF g4.only) g h1 F (dG.dict ar) p4 kX cG (by exact λq=>er (cb 0x8421014C1190213002129021 aa fN jL q)) Fc) ?_;rintro _ b6 ⟨cU,gF,o,jM,g2,AX,pV,cM⟩;have Ax:os.take os.length=os:=iG ..;have kS:=jM.keys;replace kS:=Ax ▸ kS;obtain⟨ρ,τ,E⟩:=jM.gen;have m0:=jM.ok;have td:o8 [] (.dict 0 []):=.inl ⟨aa,aa⟩;have BK:=F.lG cM cG td;have Nb:=cM.list cG td p4;have h2:0<b6.length:=d4 h1 cM.len;obtain⟨y,a9⟩:(∃y,lk cU []=I y):=m7.mp (qX.mpr (by rw[kS];exact hD.wM.last));have sz:=jM.nodes _ (kJ a9);have rM:∀{ρ τ},bb ρ τ gF->jS bz (u5 bu ρ) n D.body (qQ cU ρ):=λ{ρ τ} S=>jS.of hD.wM λq aH f ps dQ df=>jM.back S q (by rw[Ax];exact aH) f ps dQ df;have pr:Oo bz n D.body D.many (bu.map ρ) (ρ y):=by
  refine⟨by rw[bC];exact nS,⟨_,_,rM E.sol,λj bh=>?_,qP a9⟩,λ{env A} bw=>?_,⟨rV gF,λe he=>?_,(E.eK m0).1 y sz⟩,λe he=>?_,(E.dup m0).1 y sz⟩
  ·have:bu[j]? =I (bu[j]'(by exact fS bh nS.symm)):=cD (by exact fS bh nS.symm);rw[e6,this];unfold u5;rw[this];rfl
  ·obtain⟨aU,bH,bG,g5,gg,_⟩:=jM.ext bw;obtain⟨cS,cZ⟩:=E.inst m0 bG;refine⟨aU,bH,λj e he=>?_,(cS y sz).1,?_⟩
   ·replace he:=e6 ▸ he;obtain⟨x,ak,rfl⟩:=eU.mp he;have:=cS x (jM.pL x (ee ak));exact⟨this.1,by rw[<-g5 j x ak];exact this.2⟩
   ·rw[<-gg _ (kJ a9)];exact(cS y sz).2
  ·obtain⟨x,ak,rfl⟩:=ez.mp he;exact(E.eK m0).1 x (jM.pL x ak)
  ·obtain⟨x,ak,rfl⟩:=ez.mp he;exact(E.dup m0).1 x (jM.pL x ak)
 obtain⟨bk,a6,lE,mH,wZ⟩:=pr.most hD.rM;have small:∀{e aG:T},e.c5 bk a6->aG=e.sub bk a6->aG.ec->e.ec/\e.dep<=aG.dep/\e.size<=aG.size:=λ{e aG} aV he ao=>by
  obtain⟨d8,eD,mE⟩:=(sub_le bk a6).1 e aV;rw[he]at ao ⊢;exact⟨mE ao,eD,d8⟩
 have EJ:=small mH wZ (hD.MU [] hD.wM.last).ec;have q8:∀t∈bu.map ρ++[ρ y],t.ec/\t.dep<=12:=λt aP=>by
  rcases gb.mp aP with aP|aP
  ·obtain⟨i,aI,rfl⟩:=m8.mp aP;obtain⟨d8,eD⟩:=lE i _ (cD aI);have g5:i<D.many:=by replace aI:=(bC ..) ▸ aI;exact fS aI nS
   have:=small d8 eD (hD.AI i g5).1.ec;exact⟨this.1,b0 this.2.1 (hD.AI i g5).2⟩
  ·rw[bN.mp aP];exact⟨EJ.1,b0 EJ.2.1 hD.Xw⟩
 have cV:gU (bu.map ρ++[ρ y])<=N:=by
  refine b0 ?_ hD.all;rw[t5,t5];refine B3 ?_ EJ.2.2;have key:∀(l l':List T),l.length=l'.length->(∀(i:Nat) (e aG:T),l[i]? =I e->l'[i]? =I aG->e.size<=aG.size)->gU l<=gU l':=by
   intro l
   induction l with
   |nil=>intro l' _ _;exact eV _
   |cons u l aj=>
    intro l' hl h
    induction l' using List.casesOn with
    |nil=>cases hl
    |cons hE l'=>
     have h1:=h 0 u hE aa aa;have h2:=aj l' (yF hl) λi e aG q dU=>h (i+1) e aG q dU;exact show u.size+gU l<=hE.size+gU l' from fq 0x39406200203982129021 aa h1 h2
  refine key _ _ (by rw[bC,bC,tO];exact nS) λi e aG q dU=>?_;obtain⟨d8,eD⟩:=lE i e q;replace dU:=e6 ▸ dU;obtain⟨z,hz,rfl⟩:=eU.mp dU;have Ae:=cE hz;replace Ae:=tO ▸ Ae;replace hz:=PR Ae ▸ hz;cases hz;exact(small d8 eD (hD.AI i Ae).1.ec).2.2
 refine Wp.step (Qz (d:=d+5) h2) ?_;rintro _ dq ⟨d5,j,dc,rfl,aP,ap,bh,hm,kf,Vv⟩;have V2:=cE Nb;refine Wp.step (QI (d:=d+2) (N:=N) m0 E (g2.le ap) (BK.le ⟨kf,λe af=>ap e⟩) (ap Nb) (ap AX) pV a9 sz jM.pL (by exact bF 0x1EF04A1010A1103DE09021 aa An nS) aP (by exact λq=>er (cb 0x8421014C1190213002129021 aa hm V2 q)) q8 cV cg (by exact bF 0x8250102029021 aa Au)) ?_;rintro _ iI ⟨rfl,d1⟩;rw[hD.gM _ _ pr];refine next ⟨?_,λ{k o} e f=>?_⟩
 ·have:=cE (d1 d5 _ (λhm=>by
   rcases List.mem_cons.mp hm with q|hm
   ·replace aP:=q ▸ aP;exact aP.ne.2.1 aa
   ·have q:=bN.mp hm;replace aP:=q ▸ aP;exact aP.ne.2.2 aa) aP.i)
  exact k7 (i5 (b0 dG.len (b0 cM.len Vv)) this)
 ·have h9:=cE e;refine d1 _ _ (λhm=>?_) (ap (cM.at_ (by exact λq=>er (cb 0x8421014C1190213002129021 aa fN h9 q)) (dG.at_ e f) f));have:=dG.len;have:=cM.len;rcases List.mem_cons.mp hm with q|hm
  ·lia
  ·have q:=bN.mp hm;lia
theorem UQ:jr (bz++[(D.name,D.kH)])=jr bz++[(.inr D.name,hi D.kH)]:=by unfold jr;rw[dY];rfl
def Defs(B N:Nat)(ds:List o7):Prop:=(ds.map o7.name).Nodup/\ds.length<=30/\∀(i:Nat) (D:o7),ds[i]? =I D->(oj λn os jx i1=>n<=N/\BM B N (ka (ds.take i)) D n os jx i1)
theorem Il{ds:List o7}{nE:Nat}(J:∀e,d+3<=e->JoinOk B e)(hB:B<=1000)(hd:B+2<=d+3)(cg:N<=200)(Au:N<=d)(kU:Defs B N ds)(aE:0<σ.length)(hp:σ[nE]? =I (.list (ds.map AY))) :
  Wp σ (bc (d+7) "judged" [.ref nE]) λv ag=>(∃iy,hA (v=.tup [.str "good",.ref iy]) (ag[iy]? =I (.list (ds.map λD=>hi D.kH))) (σ.length<=iy) (cc σ ag)):=by
 refine aB λae=>?_;obtain⟨aF,FF,kU⟩:=kU;refine ae ?_;rw[aaS];refine al (m:=cH _) aa (al (m:=cH _) aa (al (nw (cB (cB hp))) ?_));have g0:(σ++[O.dict 0 []]:aN).length=σ.length+1:=by simp
 rw[g0];refine jz (l:=ds.map AY) (J:=λτ=>τ[nE]? =I (.list (ds.map AY))) aa (nf λaf h=>h)
  (λi loc ag=>vG λcX bS cn eQ lD=>hA (loc=[I (.ref nE),I (.ref σ.length),I (.ref (σ.length+1)),bS,cn,eQ,lD,U,U,U,U,U]) (ag[σ.length]? =I (.dict cX (jr (ka (ds.take i))))) (ag[σ.length+1]? =I (.list ((ds.take i).map λD=>hi D.kH))) (cc σ ag))
  (λi loc ag a8=>by obtain⟨_,_,_,_,_,_,_,_,le⟩:=a8;exact le.list hp) ⟨0,_,_,_,_,aa,cB cP,by rw[<-g0];exact cP,cc.push.new⟩ ?_ ?_
 ·intro i u loc cJ aY dh;refine aB λae=>?_;obtain⟨cX,bS,cn,eQ,lD,rfl,fe,u7,dG⟩:=dh;rw[e6]at aY;obtain⟨D,hD,rfl⟩:=eU.mp aY;obtain⟨n,os,jx,i1,VK,ok⟩:=kU i D hD;have gX:ds.take (i+1)=ds.take i++[D]:=by rw[jg,hD];rfl
  have uP:ka (ds.take (i+1))=ka (ds.take i)++[(D.name,D.kH)]:=by rw[gX];unfold ka;rw[dY];rfl
  have LS:lk (ka (ds.take i)) D.name=U:=by
   rw[nB];unfold ka;rw[gw];intro hm;have hd:ds=ds.take i++D::ds.drop (i+1):=by
    have:=vP i ds;rw[yM (cE hD),gm ((cD (cE hD)).symm.trans hD)]at this;exact this.symm
   rw[hd,dY,rH]at aF;exact aF.2.2 _ hm D.name b9 aa
  have sm:∀p∈ka (ds.take i),ry B p.2:=λp hp=>by
   obtain⟨aeb,WI,rfl⟩:=ez.mp hp;obtain⟨fs,g5,aG⟩:=m8.mp (HH WI);obtain⟨_,_,_,_,_,uh⟩:=kU fs aeb (by rw[<-aG];exact cD g5);exact uh.nr
  have nS:=cE hD;refine ae ?_;show Wp _ (bindTo _ _ (.tup [.str D.name,.int D.many,D.body]) _>>=_) _;rw[aaT];refine QG (d:=d) J hB hd cg Au (by exact b0 VK Au) sm ok (d4 aE dG.len) fe λ{b6 u} cM=>?_;have Wo:dF (jr (ka (ds.take i))) (.inr D.name)=U:=by rw[D7,LS];rfl
  have Na:=cM.dict fe;have pS:(jr (ka (ds.take i))).length<sizeLine:=by
   unfold jr ka;rw[bC,bC,rI];have:sizeLine=16777216:=rfl;lia
  refine al (Dv (key:=.inr D.name) Na aE aa pS) ?_;rw[vd Wo,<-UQ,<-uP];have M9:=fV (o':=.dict (cX+1) (jr (ka (ds.take (i+1))))) Na;have F8:=ef (k:=σ.length) (o':=.dict (cX+1) (jr (ka (ds.take (i+1))))) (by exact gv (jY _)) (cM.list u7);have pU:dF (jr (ka (ds.take (i+1)))) (.inr D.name)=I (hi D.kH):=by
   rw[D7,uP,D4,LS];show Option.map hi (if D.name=D.name then I D.kH else U)=_;rw[aK aa];rfl
  refine al (ly F8 aa) (al (lz (key:=.inr D.name) M9 aa pU) (al (oD F8 (qm _) (by
   rw[bC,rI];have:sizeLine=16777216:=rfl;lia)) (bZ ⟨cX+1,_,_,_,_,aa,ef (by exact λq=>er (cp 0x84210102120022 aa q)) M9,?_,((dG.trans cM).jJ (bx _):cc σ (b6.set σ.length (.dict (cX+1) (jr (ka (ds.take (i+1))))))).jJ (gH _)⟩)))
  have e:(ds.take (i+1)).map (λD=>hi D.kH)=(ds.take i).map (λD=>hi D.kH)++[hi D.kH]:=by rw[gX,dY];rfl
  rw[e];exact fV F8
 ·intro loc cJ dh;refine aB λae=>?_;obtain⟨cX,bS,cn,eQ,lD,rfl,fe,u7,dG⟩:=dh;rw[bC,iG]at u7;refine ae ?_;rw[aaU];exact bZ ⟨_,aa,u7,gH _,dG⟩
end
mutual
noncomputable def tH(bk:Nat->T)(a6:Nat->R)(u:T):T->Prop
 |.num=>u=.num
 |.var i=>(∃n,u=.var n/\bk n=.var i)
 |.aQ r=>(∃bI,u=.aQ bI/\BJ bk a6 bI r)
noncomputable def BJ(bk:Nat->T)(a6:Nat->R)(bI:R):R->Prop
 |.nil=>bI=.nil
 |.b5 i=>(∃n,bI=.b5 n/\a6 n=.b5 i)
 |.fld l t r=>(c8 λu cR=>eH (bI=.fld l u cR) (tH bk a6 u t) (BJ bk a6 cR r))
end
mutual
noncomputable def T.nb:T->Nat->T×Nat
 |.num,k=>(.num,k)
 |.var _,k=>(.var k,k+1)
 |.aQ r,k=>(.aQ (r.nb k).1,(r.nb k).2)
noncomputable def R.nb:R->Nat->R×Nat
 |.nil,k=>(.nil,k)
 |.b5 _,k=>(.b5 k,k+1)
 |.fld l t r,k=>(.fld l (t.nb k).1 (r.nb (t.nb k).2).1,(r.nb (t.nb k).2).2)
end
def yu(sp:Nat->Bool)(bk:Nat->T)(a6:Nat->R)(n i:Nat):Prop:=(sp n=aw/\bk n=.var i)\/(sp n=aS/\a6 n=.b5 i)
def tw(sp:Nat->Bool)(bk:Nat->T)(a6:Nat->R)(met:List Nat)(k:Nat):Prop:=met.length=k/\∀n∈met,(∃i,i<k/\yu sp bk a6 n i)
section
variable {sp:Nat->Bool}{bk:Nat->T}{a6:Nat->R}{met:List Nat}{k n i:Nat}
theorem yu.fun(h:yu sp bk a6 n i)(h':yu sp bk a6 n j):i=j:=by
 rcases h with ⟨a,b⟩|⟨a,b⟩ <;> rcases h' with ⟨c,d⟩|⟨c,d⟩
 ·rw[b]at d;exact T.Q0 d
 ·rw[a]at c;exact kD c
 ·rw[a]at c;exact fw c
 ·rw[b]at d;exact R.TF d
theorem tw.add(h:tw sp bk a6 met k)(aI:yu sp bk a6 n k):(jd met n).idxOf n=k/\tw sp bk a6 (jd met n) (k+1):=by
 have ao:n∉met:=λhm=>by
  refine aB λae=>?_;obtain⟨i,h1,h2⟩:=h.2 n hm;have:=aI.fun h2;exact ae (er (bF 0x8421010A11142120021 aa h1 this))
 have e:jd met n=met++[n]:=aR ao;rw[e];refine⟨?_,by rw[dp,h.1];rfl,λm hm=>?_⟩
 ·rw[List.idxOf_append,aR ao,afy,h.1];exact iF (cp 0x108008020 aa) (cp 0x100101020 aa)
 ·rcases gb.mp hm with hm|hm
  ·refine aB λae=>?_;obtain⟨i,h1,h2⟩:=h.2 m hm;exact ae ⟨i,by exact yG h1,h2⟩
  ·rw[bN.mp hm];exact⟨k,by exact jY _,aI⟩
theorem Xu:(∀t:T,∀(u:T) (k:Nat) (met:List Nat),tH bk a6 u (t.nb k).1->u.eK sp->tw sp bk a6 met k->(u.tell met).1=(t.nb k).1.pr/\tw sp bk a6 (u.tell met).2 (t.nb k).2) /\
  ∀r:R,∀(u:R) (k:Nat) (met:List Nat),BJ bk a6 u (r.nb k).1->u.eK sp->tw sp bk a6 met k->(u.tell met).1=(r.nb k).1.h4/\(oy u.fin (u.tell met).2).1=(r.nb k).1.iN/\tw sp bk a6 (oy u.fin (u.tell met).2).2 (r.nb k).2:=by
 refine T.both (λu k met h az hm=>?_) (λn u k met h az hm=>?_) (λr aj u k met h az hm=>?_) (λu k met h az hm=>?_) (λn u k met h az hm=>?_) λl t r h1 h2 u k met h az hm=>?_
 ·have h:u=.num:=h;subst h;exact⟨aa,hm⟩
 ·refine aB λae=>?_;obtain⟨n,rfl,e⟩:=h;obtain⟨a,b⟩:=hm.add (.inl ⟨az,e⟩);refine ae ⟨?_,b⟩;refine(?_:V.tup [.str "blank",.int ((jd met n).idxOf n:Nat)]=V.tup [.str "blank",.int (k:Nat)]);rw[a]
 ·refine aB λae=>?_;obtain⟨bI,rfl,aZ⟩:=h;obtain⟨a,b,c⟩:=aj bI k met aZ az hm;refine ae ⟨?_,c⟩;refine(?_:V.tup [.str "record",.tup (bI.tell met).1,(oy bI.fin (bI.tell met).2).1]=V.tup [.str "record",.tup (r.nb k).1.h4,(r.nb k).1.iN]);rw[a,b]
 ·have h:u=.nil:=h;subst h;exact⟨aa,aa,hm⟩
 ·refine aB λae=>?_;obtain⟨n,rfl,e⟩:=h;obtain⟨a,b⟩:=hm.add (.inr ⟨az,e⟩);refine ae ⟨aa,?_,b⟩;refine(?_:V.int ((jd met n).idxOf n:Nat)=V.int (k:Nat));rw[a]
 ·refine aB λae=>?_;obtain⟨hE,cR,rfl,f1,f2⟩:=h;obtain⟨a,b⟩:=h1 hE k met f1 az.1 hm;obtain⟨c,d,e⟩:=h2 cR _ _ f2 az.2 b;refine ae ⟨?_,d,e⟩;refine(?_:V.tup [.str l,(hE.tell met).1]::(cR.tell (hE.tell met).2).1=V.tup [.str l,(t.nb k).1.pr]::(r.nb (t.nb k).2).1.h4);rw[a,c]
noncomputable def walk:List Str->T->Option T
 |[],t=>I t
 |l::p,t=>match t with
  |.aQ r=>(r.look l).bind (walk p)
  |_=>U
mutual
noncomputable def m3(Q:List Str->Prop):T->Prop
 |.num=>Q []
 |.var _=>Q []
 |.aQ r=>((c8 λl p=>Q (l::p)))/\jW Q r
noncomputable def jW(Q:List Str->Prop):R->Prop
 |.nil=>True
 |.b5 _=>True
 |.fld l t r=>((∃p,Q (l::p)))/\m3 (λp=>Q (l::p)) t/\jW Q r
end
theorem jW.at(h:jW Q r)(hl:r.look l=I t):((∃p,Q (l::p)))/\m3 (λp=>Q (l::p)) t:=by
 induction r using R.ind with
 |aE=>exact a5 hl
 |h1 n=>exact a5 hl
 |h2 m u r aj=>
  have hl:(if m=l then I u else r.look l)=I t:=hl;by_cases e:m=l
  ·subst e;replace hl:=aK aa ▸ hl;cases hl;exact⟨h.1,h.2.1⟩
  ·replace hl:=aR e ▸ hl;exact aj h.2.2 hl
theorem EB{l:Str}{t:T}{r:R}(h:r.over l):r.ins l t=.fld l t r:=by
 cases r with
 |nil=>rfl
 |b5 n=>rfl
 |fld m u r=>
  rw[R.kP,aR];have:strLt l m=aw:=h;rw[C2 this];exact qw
theorem over_of{l:Str}{r:R}(h:∀m,r.look m≠U->strLt l m=aw):r.over l:=by
 cases r with
 |nil=>trivial
 |b5 n=>trivial
 |fld m u r=>
  refine h m ?_;refine(?_:(if m=m then I u else r.look m)≠U);rw[aK aa];exact nofun
theorem Xv{bI:R}:∀{r:R},bI.dup->bI.c5 bk a6->bI.sub bk a6=r->r.dup->(∀l,r.look l≠U->bI.look l≠U)->(∀l d u,r.look l=I d->bI.look l=I u->tH bk a6 u d)->((∃i,r.fin=I i))->BJ bk a6 bI r:=by
 induction bI using R.ind with
 |aE=>intro r _ _ e _ _ _ ⟨i,aI⟩;subst e;exact a5 aI
 |h1 n=>
  intro r _ _ e _ h1 _ ⟨i,aI⟩
  cases r with
  |nil=>exact a5 aI
  |b5 j=>exact⟨n,aa,e⟩
  |fld l t r=>exact absurd aa (h1 l (by refine(?_:(if l=l then I t else r.look l)≠U);rw[aK aa];exact nofun))
 |h2 l u cR aj=>
  intro r hd aV e hrd h1 h2 aZ;obtain⟨a1,a2,mV⟩:=aV;have e:(cR.sub bk a6).ins l (u.sub bk a6)=r:=e;have zZ:∀m,r.look m=if l=m then I (u.sub bk a6) else (cR.sub bk a6).look m:=λm=>by rw[<-e,R.iv mV]
  have sh:∀m,(R.fld l u cR).look m=if l=m then I u else cR.look m:=λm=>aa;have VF:(cR.sub bk a6).over l:=over_of λm hm=>by
   have ju:l≠m:=λq=>by rw[<-q,mV]at hm;exact hm aa
   have:=h1 m (by rw[zZ,aR ju];exact hm);rw[sh,aR ju]at this;exact R.ug (R.rk hd.2.2) hd.1 this
  rw[EB VF]at e;subst e;refine⟨u,cR,aa,h2 l _ _ (by rw[zZ,aK aa]) (by rw[sh,aK aa]),aj hd.2.2 a2 aa hrd.2.2 (λm hm=>?_) (λm d w hm hw=>?_) aZ⟩
  ·have ju:l≠m:=λq=>by rw[<-q,mV]at hm;exact hm aa
   have:=h1 m (by rw[zZ,aR ju];exact hm);rw[sh,aR ju]at this;exact this
  ·have ju:l≠m:=λq=>by rw[<-q,mV]at hm;exact a5 hm
   exact h2 m d w (by rw[zZ,aR ju];exact hm) (by rw[sh,aR ju];exact hw)
mutual
noncomputable def T.ew:T->Prop
 |.num=>True
 |.var _=>True
 |.aQ r=>r.ew
noncomputable def R.ew:R->Prop
 |.nil=>False
 |.b5 _=>True
 |.fld _ t r=>t.ew/\r.ew
end
theorem TC{r:R}(h:r.ew):(∃i,r.fin=I i):=by
 induction r using R.ind with
 |aE=>exact h.elim
 |h1 n=>exact⟨n,aa⟩
 |h2 l t r aj=>exact aj h.2
theorem Kg{r:R}(h:r.ew){l:Str}{t:T}(hl:r.look l=I t):t.ew:=by
 induction r using R.ind with
 |aE=>exact h.elim
 |h1 n=>exact a5 hl
 |h2 m u r aj=>
  have hl:(if m=l then I u else r.look l)=I t:=hl;by_cases e:m=l
  ·replace hl:=aK e ▸ hl;cases hl;exact h.1
  ·replace hl:=aR e ▸ hl;exact aj h.2 hl
theorem va{r:R}(h:r.dup){l:Str}{t:T}(hl:r.look l=I t):t.dup:=by
 induction r using R.ind with
 |aE=>exact a5 hl
 |h1 n=>exact a5 hl
 |h2 m u r aj=>
  have hl:(if m=l then I u else r.look l)=I t:=hl;by_cases e:m=l
  ·replace hl:=aK e ▸ hl;cases hl;exact h.2.1
  ·replace hl:=aR e ▸ hl;exact aj h.2.2 hl
theorem zl(hl:r.look l=I t):t.size<(T.aQ r).size:=by
 refine(?_:t.size<1+r.size)
 induction r using R.ind with
 |aE=>exact a5 hl
 |h1 n=>exact a5 hl
 |h2 m u r aj=>
  have hl:(if m=l then I u else r.look l)=I t:=hl;refine(?_:t.size<1+(1+u.size+r.size));by_cases e:m=l
  ·replace hl:=aK e ▸ hl;cases hl;exact bF 0x1481080010802120020 aa
  ·replace hl:=aR e ▸ hl;have:=aj hl;exact cb 0x5304200042008480080A10802120021 aa this
theorem Oc{r:R}(h:r.c5 bk a6){l:Str}{t:T}(hl:r.look l=I t):t.c5 bk a6/\(r.sub bk a6).look l=I (t.sub bk a6):=by
 induction r using R.ind with
 |aE=>exact a5 hl
 |h1 n=>exact a5 hl
 |h2 m u r aj=>
  obtain⟨a1,a2,mV⟩:=h;have hl:(if m=l then I u else r.look l)=I t:=hl;refine(?_:_/\((r.sub bk a6).ins m (u.sub bk a6)).look l=_);rw[R.iv mV];by_cases e:m=l
  ·replace hl:=aK e ▸ hl;cases hl;exact⟨a1,aK e⟩
  ·rw[aR e]at hl ⊢;exact aj a2 hl
theorem fits_of:∀(s:Nat) {d u:T}{Q:List Str->Prop},d.size<=s->u.dup->u.c5 bk a6->u.sub bk a6=d->d.dup->d.ew->m3 Q d->(∀p,Q p->(∃x,walk p u=I x/\(walk p d=I .num->x=.num)))->tH bk a6 u d:=by
 intro s
 induction s with
 |zero=>intro d u Q h;have:=T.pos d;exact absurd ‹_<=0› (B0 ‹1<=_›)
 |succ s aj=>
  intro d u Q az hd aV e Mh h8 aA hw
  induction d using T.casesOn with
  |num=>
   obtain⟨x,h1,h2⟩:=hw [] aA;have:u=x:=gm h1;rw[this];exact h2 aa
  |var i=>
   induction u using T.casesOn with
   |num=>cases e
   |var n=>exact⟨n,aa,e⟩
   |aQ r=>cases e
  |aQ r=>
   obtain⟨⟨l,p,aH⟩,aA⟩:=aA;obtain⟨x,h1,_⟩:=hw _ aH
   induction u using T.casesOn with
   |num=>exact a5 h1
   |var n=>exact a5 h1
   |aQ bI=>
    have e:bI.sub bk a6=r:=T.zv e;refine⟨bI,aa,Xv hd aV e Mh (λl hl=>?_) (λl f3 hE hl fv=>?_) (TC h8)⟩
    ·induction fv:r.look l with
     |none=>exact absurd fv hl
     |some t=>
      obtain⟨⟨p,hp⟩,_⟩:=aA.at fv;obtain⟨y,h2,_⟩:=hw _ hp;intro h3;have h2:(bI.look l).bind (walk p)=I y:=h2;rw[h3]at h2;exact a5 h2
    ·obtain⟨_,mP⟩:=aA.at hl;obtain⟨a1,a2⟩:=Oc aV fv;refine aj (by exact cb 0xA608081098010842501021 aa az (zl hl)) (va hd fv) a1 ?_ (va Mh hl) (Kg h8 hl) mP λp hp=>?_
     ·rw[e,hl]at a2;exact(gm a2).symm
     ·obtain⟨y,h2,h3⟩:=hw _ hp;have h2:(bI.look l).bind (walk p)=I y:=h2;rw[fv]at h2;refine⟨y,h2,λbY=>h3 ?_⟩;refine(?_:(r.look l).bind (walk p)=_);rw[hl];exact bY
end
noncomputable def R.upd(l:Str)(t:T):R->R
 |.nil=>.nil
 |.b5 n=>.b5 n
 |.fld m u r=>if m=l then .fld m t r else .fld m u (r.upd l t)
noncomputable def gr(lf:T):List Str->R->R
 |[],r=>r
 |l::p,r=>match p with
  |[]=>r.ins l lf
  |_::_=>match r.look l with
   |some (.aQ cR)=>r.upd l (.aQ (gr lf p cR))
   |_=>r.ins l (.aQ (gr lf p (.b5 0)))
def Ready:List Str->R->Prop
 |[],_=>False
 |l::p,r=>match p with
  |[]=>r.look l=U
  |_::_=>r.look l=U\/(∃cR,r.look l=I (.aQ cR)/\Ready p cR)
def qf(t:T):Prop:=t=.num\/t=.var 0
section
variable {l m:Str}{t lf:T}{r cR:R}{p q:List Str}
theorem ni:(R.fld m u r).upd l t=if m=l then .fld m t r else .fld m u (r.upd l t):=rfl
theorem zW(h:r.look l≠U):(r.upd l t).look m=if l=m then I t else r.look m:=by
 induction r using R.ind with
 |aE=>exact absurd aa h
 |h1 n=>exact absurd aa h
 |h2 k u r aj=>
  rw[ni];by_cases e:k=l
  ·subst e;rw[aK aa];refine(?_:(if k=m then I t else r.look m)=if k=m then I t else if k=m then I u else r.look m);by_cases ay:k=m
   ·rw[aK ay,aK ay]
   ·rw[aR ay,aR ay,aR ay]
  ·have h:(if k=l then I u else r.look l)≠U:=h;rw[aR e]at h ⊢;refine(?_:(if k=m then I u else (r.upd l t).look m)=if l=m then I t else if k=m then I u else r.look m);rw[aj h];by_cases ay:k=m
   ·rw[aK ay,aK ay,aR (λq:l=m=>e (ay.trans q.symm))]
   ·rw[aR ay,aR ay]
theorem Ka(h:r.over m):(r.upd l t).over m:=by
 cases r with
 |nil=>trivial
 |b5 n=>trivial
 |fld k u r=>
  rw[ni];by_cases e:k=l
  ·rw[aK e];exact h
  ·rw[aR e];exact h
theorem Ni(h:r.dup)(aP:t.dup):(r.upd l t).dup:=by
 induction r using R.ind with
 |aE=>trivial
 |h1 n=>trivial
 |h2 k u r aj=>
  rw[ni];by_cases e:k=l
  ·rw[aK e];exact⟨h.1,aP,h.2.2⟩
  ·rw[aR e];exact⟨Ka h.1,h.2.1,aj h.2.2⟩
theorem Tz(h:r.ew)(aP:t.ew):(r.upd l t).ew:=by
 induction r using R.ind with
 |aE=>exact h
 |h1 n=>trivial
 |h2 k u r aj=>
  rw[ni];by_cases e:k=l
  ·rw[aK e];exact⟨aP,h.2⟩
  ·rw[aR e];exact⟨h.1,aj h.2⟩
theorem TA(h:r.ew)(aP:t.ew):(r.ins l t).ew:=by
 induction r using R.ind with
 |aE=>exact h.elim
 |h1 n=>exact⟨aP,aL⟩
 |h2 k u r aj=>
  rw[R.kP];by_cases e:strLt k l=aw
  ·rw[aK e];exact⟨h.1,aj h.2⟩
  ·rw[aR e];exact⟨aP,h⟩
theorem Jn(h:r.look l=I u):(r.upd l t).size+u.size=r.size+t.size/\(r.upd l t).dep<=max r.dep t.dep/\u.dep<=r.dep:=by
 induction r using R.ind with
 |aE=>exact a5 h
 |h1 n=>exact a5 h
 |h2 k w r aj=>
  have h:(if k=l then I w else r.look l)=I u:=h;rw[ni];by_cases e:k=l
  ·rw[aK e]at h ⊢;have h:=gm h;subst h;exact⟨by refine(?_:1+t.size+r.size+w.size=1+w.size+r.size+t.size);rw[PF,PF 1,PF (1+w.size)],tM.mpr ⟨qo _ _,b0 (qo _ _) (pb _ _)⟩,pb _ _⟩
  ·rw[aR e]at h ⊢;refine aB λae=>?_;obtain⟨a,b,c⟩:=aj h;refine ae ?_;exact⟨by refine(?_:1+w.size+(r.upd l t).size+u.size=1+w.size+r.size+t.size);rw[pd,a,<-pd],tM.mpr ⟨b0 (pb _ _) (pb _ _),b0 b (tM.mpr ⟨b0 (qo _ _) (pb _ _),qo _ _⟩)⟩,b0 c (qo _ _)⟩
theorem vH:(∀t:T,∀{Q hR:List Str->Prop},(∀p,Q p->hR p)->m3 Q t->m3 hR t)/\∀r:R,∀{Q hR:List Str->Prop},(∀p,Q p->hR p)->jW Q r->jW hR r:=by
 refine T.both (λh c=>h _ c) (λn af aJ h c=>h _ c) (λr aj af aJ h c=>⟨by obtain⟨l,p,q⟩:=c.1;exact⟨l,p,h _ q⟩,aj h c.2⟩) (λaf aJ=>aL) (λn af aJ b3 eW=>aL) λl t r h1 h2 af aJ h c=>⟨by obtain⟨p,q⟩:=c.1;exact⟨p,h _ q⟩,h1 (λp hp=>h _ hp) c.2.1,h2 h c.2.2⟩
theorem Y6(h:jW Q r)(h1:(∃p,Q (l::p)))(h2:m3 (λp=>Q (l::p)) t):jW Q (r.ins l t):=by
 induction r using R.ind with
 |aE=>exact⟨h1,h2,aL⟩
 |h1 n=>exact⟨h1,h2,aL⟩
 |h2 k u r aj=>
  rw[R.kP];by_cases e:strLt k l=aw
  ·rw[aK e];exact⟨h.1,h.2.1,aj h.2.2⟩
  ·rw[aR e];exact⟨h1,h2,h⟩
theorem Y5(h:jW Q r)(h2:m3 (λp=>Q (l::p)) t):jW Q (r.upd l t):=by
 induction r using R.ind with
 |aE=>trivial
 |h1 n=>trivial
 |h2 k u r aj=>
  rw[ni];by_cases e:k=l
  ·rw[aK e];subst e;exact⟨h.1,h2,h.2.2⟩
  ·rw[aR e];exact⟨h.1,h.2.1,aj h.2.2⟩
theorem qf.props(h:qf lf):lf.dup/\lf.ew/\lf.size=1/\lf.dep=1/\∀{Q:List Str->Prop},Q []->m3 Q lf:=by
 rcases h with rfl|rfl
 ·exact⟨aL,aL,aa,aa,λh=>h⟩
 ·exact⟨aL,aL,aa,aa,λh=>h⟩
structure Pc(lf:T)(p:List Str)(r:R)(bI:R):Prop where
 dup:r.dup->bI.dup
 ew:r.ew->bI.ew
 size:bI.size<=r.size+2*p.length
 dep:bI.dep<=max r.dep p.length
 nZ:∀{Q:List Str->Prop},jW Q r->jW (λx=>Q x\/x=p) bI
 new:walk p (.aQ bI)=I lf
 old:∀q x,qf x->walk q (.aQ r)=I x->walk q (.aQ bI)=I x
theorem K1(ak:qf x)(h:walk q (.aQ r)=I x):(c8 λl dU=>q=l::dU/\(r.look l).bind (walk dU)=I x):=by
 induction q using List.casesOn with
 |nil=>have h:T.aQ r=x:=gm h;rcases ak with e|e <;> (replace h:=e ▸ h;cases h)
 |cons l dU=>exact⟨l,dU,aa,h⟩
theorem U9(oQ:qf lf):∀{p:List Str}{r:R},Ready p r->Pc lf p r (gr lf p r):=by
 obtain⟨a1,a2,mV,ZZ,ZY⟩:=oQ.props;intro p
 induction p with
 |nil=>intro r h;exact h.elim
 |cons l p aj=>
  intro r h;have fresh:∀{t:T},r.look l=U->t.dup->t.ew->t.size+1<=2*(p.length+1)->t.dep<=p.length+1->m3 (λx=>x=p) t->walk p t=I lf->Pc lf (l::p) r (r.ins l t):=by
   intro t ao eO es f5 ht kn s9;refine⟨λhd=>R.Ge hd eO ao,λho=>TA ho es,by rw[R.rW];refine(?_:1+t.size+r.size<=r.size+2*(p.length+1));rw[qq];exact jZ (by rw[qq];exact f5) _,by rw[R.Gh];exact tM.mpr ⟨b0 ht (qo _ _),pb _ _⟩,λ{Q} c=>?_,?_,λq x ak aH=>?_⟩
   ·refine Y6 (vH.2 r (λaf h=>.inl h) c) ⟨p,.inr aa⟩ (vH.1 t (λx ak=>.inr ?_) kn);rw[ak]
   ·refine(?_:((r.ins l t).look l).bind (walk p)=_);rw[R.iv ao,aK aa];exact s9
   ·obtain⟨k,dU,rfl,h2⟩:=K1 ak aH;refine(?_:((r.ins l t).look k).bind (walk dU)=_);rw[R.iv ao];by_cases e:l=k
    ·rw[<-e,ao]at h2;exact a5 h2
    ·rw[aR e];exact h2
  induction p using List.casesOn with
  |nil=>exact fresh h a1 a2 (by rw[mV];refine(?_:2<=2);decide) (by rw[ZZ];refine(?_:1<=1);decide) (ZY aa) aa
  |cons k p=>
   rcases h with h|⟨cR,h,aX⟩
   ·have e:gr lf (l::k::p) r=r.ins l (.aQ (gr lf (k::p) (.b5 0))):=by
     refine(?_:(match r.look l with|some (.aQ cR)=>_|_=>_)=_);rw[h]
    rw[e];have ar:Ready (k::p) (.b5 0):=by
     induction p using List.casesOn with
     |nil=>exact aa
     |cons _ _=>exact .inl aa
    have ba:=aj ar;have cS:=ba.size;have cZ:=ba.dep;have cZ:(gr lf (k::p) (.b5 0)).dep<=max 0 (p.length+1):=cZ;refine fresh h (ba.dup aL) (ba.ew aL) (by exact show 1+(gr lf (k::p) (.b5 0)).size+1<=2*(p.length+1+1) from bF 0x21084A0008410902100020084A01080101021 aa (cS:(gr lf (k::p) (.b5 0)).size<=0+2*(p.length+1))) (by refine(?_:1+(gr lf (k::p) (.b5 0)).dep<=p.length+1+1);lia) ⟨⟨k,p,aa⟩,vH.2 _ (λx ak=>ak.elim (λf=>f.elim) id) (ba.nZ (Q:=λaf=>False) aL)⟩ ba.new
   ·have e:gr lf (l::k::p) r=r.upd l (.aQ (gr lf (k::p) cR)):=by
     refine(?_:(match r.look l with|some (.aQ cR)=>_|_=>_)=_);rw[h]
    rw[e];have ba:=aj aX;have cv:r.look l≠U:=by rw[h];exact nofun
    obtain⟨s1,s2,pD⟩:=Jn (t:=.aQ (gr lf (k::p) cR)) h;have cZ:(gr lf (k::p) cR).dep<=max cR.dep (p.length+1):=ba.dep;have s1:(r.upd l (.aQ (gr lf (k::p) cR))).size+(1+cR.size)=r.size+(1+(gr lf (k::p) cR).size):=s1;have s2:(r.upd l (.aQ (gr lf (k::p) cR))).dep<=max r.dep (1+(gr lf (k::p) cR).dep):=s2;have q3:1+max cR.dep (p.length+1)<=max r.dep (p.length+1+1):=by
     rcases PD cR.dep (p.length+1) with h|h
     ·rw[Nat.max_eq_right h,qq];exact qo _ _
     ·rw[Nat.max_eq_left h];exact b0 (pD:1+cR.dep<=r.dep) (pb _ _)
    refine⟨λhd=>Ni hd (ba.dup (va hd h)),λho=>Tz ho (ba.ew (Kg ho h)),by exact show _<=r.size+2*(p.length+1+1) from hG 0x421098001090038404084080142101C01104260084501021 aa (ba.size:(gr lf (k::p) cR).size<=cR.size+2*(p.length+1)) s1,b0 s2 (tM.mpr ⟨pb _ _,b0 (jZ cZ 1) q3⟩),λ{Q} c=>?_,?_,λq x ak aH=>?_⟩
    ·obtain⟨_,⟨l',e8,h'⟩,fG⟩:=c.at h;refine Y5 (vH.2 r (λaf h=>.inl h) c) ⟨⟨l',e8,.inl h'⟩,vH.2 _ (λx ak=>?_) (ba.nZ fG)⟩;exact ak.imp id λe=>by rw[e]
    ·refine(?_:((r.upd l _).look l).bind (walk (k::p))=_);rw[zW cv,aK aa];exact ba.new
    ·obtain⟨m,dU,rfl,h2⟩:=K1 ak aH;refine(?_:((r.upd l _).look m).bind (walk dU)=_);rw[zW cv];by_cases e:l=m
     ·rw[aK e];rw[<-e,h]at h2;exact ba.old dU x ak h2
     ·rw[aR e];exact h2
def jT(a b:List Str):Prop:=b.take a.length=a
theorem wL:jT (l::a) (l::b)↔jT a b:=by
 unfold jT;refine(?_:l::b.take a.length=l::a↔_);exact⟨λh=>(kz h).2,λh=>by rw[h]⟩
theorem DI:jT [] b:=rfl
theorem JN:∀{p:List Str}{r:R}{Q:List Str->Prop},p≠[]->jW Q r->(∀q,Q q->¬jT q p/\¬jT p q)->Ready p r:=by
 intro p
 induction p with
 |nil=>intro r Q h;exact absurd aa h
 |cons l p aj=>
  intro r Q _ c h
  induction p using List.casesOn with
  |nil=>
   refine(?_:r.look l=U)
   induction e:r.look l with
   |none=>rfl
   |some t=>
    obtain⟨⟨q,aH⟩,_⟩:=c.at e;exact absurd (wL.mpr DI) (h _ aH).2
  |cons k p=>
   refine(?_:r.look l=U\/_)
   induction e:r.look l with
   |none=>exact .inl aa
   |some t=>
    obtain⟨_,fG⟩:=c.at e
    induction t using T.casesOn with
    |num=>exact absurd (wL.mpr DI) (h _ fG).1
    |var n=>exact absurd (wL.mpr DI) (h _ fG).1
    |aQ cR=>exact .inr ⟨cR,aa,aj nofun fG.2 λq aH=>⟨λh'=>(h _ aH).1 (wL.mpr h'),λh'=>(h _ aH).2 (wL.mpr h')⟩⟩
def formOf(ps:List (List Str×T)):R:=ps.foldl (λr p=>gr p.2 p.1 r) (.b5 0)
structure Pg(ps:List (List Str×T))(r:R):Prop where
 dup:r.dup
 ew:r.ew
 size:r.size<=2*(ps.map λp=>p.1.length).sum
 dep:∀N,(∀p∈ps,p.1.length<=N)->r.dep<=N
 nZ:jW (λx=>∃p∈ps,x=p.1) r
 ends:∀p∈ps,walk p.1 (.aQ r)=I p.2
def vF(ps:List (List Str×T)):Prop:=(∀p∈ps,p.1≠[]/\qf p.2)/\ps.Pairwise λa b=>¬jT a.1 b.1/\¬jT b.1 a.1
theorem MM{ps:List (List Str×T)}{p:List Str×T}:formOf (ps++[p])=gr p.2 p.1 (formOf ps):=by unfold formOf;rw[List.foldl_append];rfl
theorem FN(h:vF ps):Pg ps (formOf ps):=by
 have key:∀(n:Nat) (ps:List (List Str×T)),ps.length=n->vF ps->Pg ps (formOf ps):=by
  intro n
  induction n with
  |zero=>
   intro ps hl h
   induction ps using List.casesOn with
   |nil=>exact⟨aL,aL,bx _,λaf aJ=>eV _,aL,nofun⟩
   |cons _ _=>cases hl
  |succ n aj=>
   intro ps hl h;rcases PV ps with rfl|⟨ps,p,rfl⟩
   ·cases hl
   rw[PW] at *;obtain⟨h1,h2⟩:=h;rw[PK]at h2;have ba:=aj ps (by rw[dp]at hl;exact yF hl) ⟨λq aH=>h1 q (jG _ aH),h2.1⟩;have hp:=h1 p (iH _ b9);have K:=U9 hp.2 (JN hp.1 ba.nZ λq aH=>by
    obtain⟨dU,gY,rfl⟩:=aH;exact h2.2.2 dU gY p b9)
   rw[MM];refine⟨K.dup ba.dup,K.ew ba.ew,?_,λN cg=>?_,vH.2 _ (λx ak=>?_) (K.nZ ba.nZ),λq aH=>?_⟩
   ·have:=K.size;have:=ba.size;rw[dY,vQ];show _<=2*(_+(p.1.length+0));exact fq 0x980700844080E2114213084501021 aa K.size ba.size
   ·have:=K.dep;have h3:=ba.dep N λq aH=>cg q (jG _ aH);have bY:=cg p (iH _ b9);exact Ub ‹_› ‹_› ‹_›
   ·rcases ak with ⟨q,aH,e⟩|e
    ·exact⟨q,jG _ aH,e⟩
    ·exact⟨p,iH _ b9,e⟩
   ·rcases gb.mp aH with aH|aH
    ·exact K.old _ _ (h1 q (jG _ aH)).2 (ba.ends q aH)
    ·rw[bN.mp aH];exact K.new
 exact key _ ps aa h
end
def ac1(t:T):Prop:=∀k,(t.nb k).1.size=t.size/\(t.nb k).1.dep=t.dep/\(t.dup->(t.nb k).1.dup)/\(t.ew->(t.nb k).1.ew)/\(∀{Q:List Str->Prop},m3 Q t->m3 Q (t.nb k).1)/\k<=(t.nb k).2
def ac2(r:R):Prop:=∀k,(r.nb k).1.size=r.size/\(r.nb k).1.dep=r.dep/\(r.dup->(r.nb k).1.dup)/\(r.ew->(r.nb k).1.ew)/\(∀{Q:List Str->Prop},jW Q r->jW Q (r.nb k).1)/\k<=(r.nb k).2/\(∀l,r.over l->(r.nb k).1.over l)/\∀l t,r.look l=I t->(∃j,(r.nb k).1.look l=I (t.nb j).1)
theorem zN:(∀t,ac1 t)/\∀r,ac2 r:=by
 refine T.both (λk=>⟨aa,aa,id,id,id,bx _⟩) (λn k=>⟨aa,aa,id,id,id,gH _⟩) (λr aj k=>?_) (λk=>⟨aa,aa,id,id,id,bx _,λaf h=>h,nofun⟩) (λn k=>⟨aa,aa,id,id,id,gH _,λaf h=>h,nofun⟩) λl t r h1 h2 k=>?_
 ·refine aB λae=>?_;obtain⟨a,b,c,d,e,f,_⟩:=aj k;exact ae ⟨ff (1 + ·) a,ff (1 + ·) b,c,d,λh=>⟨h.1,e h.2⟩,f⟩
 ·refine aB λae=>?_;obtain⟨a,b,c,d,e,f⟩:=h1 k;obtain⟨qb,cT,fG,f3,aG,hM,ck,fs⟩:=h2 (t.nb k).2;refine ae ⟨?_,?_,λh=>⟨ck _ h.1,c h.2.1,fG h.2.2⟩,λh=>⟨d h.1,f3 h.2⟩,λh=>⟨h.1,e h.2.1,aG h.2.2⟩,b0 f hM,λaf h=>h,λm u hm=>?_⟩
  ·refine(?_:1+(t.nb k).1.size+(r.nb (t.nb k).2).1.size=1+t.size+r.size);rw[a,qb]
  ·refine(?_:max (t.nb k).1.dep (r.nb (t.nb k).2).1.dep=max t.dep r.dep);rw[b,cT]
  ·have hm:(if l=m then I t else r.look m)=I u:=hm;refine(?_:(∃j,(if l=m then I (t.nb k).1 else (r.nb (t.nb k).2).1.look m)=_));by_cases q:l=m
   ·rw[aK q]at hm ⊢;cases hm;exact⟨k,aa⟩
   ·rw[aR q]at hm ⊢;exact fs m u hm
theorem Ig:∀{p:List Str}{t x:T}{k:Nat},walk p t=I x->(∃j,walk p (t.nb k).1=I (x.nb j).1):=by
 intro p
 induction p with
 |nil=>intro t x k h;cases h;exact⟨k,aa⟩
 |cons l p aj=>
  intro t x k h
  induction t using T.casesOn with
  |num=>exact a5 h
  |var n=>exact a5 h
  |aQ r=>
   have h:(r.look l).bind (walk p)=I x:=h
   induction e:r.look l with
   |none=>replace h:=e ▸ h;exact a5 h
   |some u=>
    replace h:=e ▸ h;obtain⟨j,bh⟩:=((zN.2 r) k).2.2.2.2.2.2.2 l u e;obtain⟨xa,rb⟩:=aj (k:=j) h;refine⟨xa,?_⟩;show((r.nb k).1.look l).bind (walk p)=_;rw[bh];exact rb
def GX(S:(Nat->Bool)->Prop)(k eo:Nat):Prop:=∀pz:Nat->Bool,(∃sp,eH ((∀n,n<k->sp n=pz n)) (S sp) (∀pA,(∀n,n<eo->pA n=sp n)->S pA))
theorem R7:(∀(t:T) (k:Nat),GX (λsp=>(t.nb k).1.eK sp) k (t.nb k).2)/\∀(r:R) (k:Nat),GX (λsp=>(r.nb k).1.eK sp) k (r.nb k).2:=by
 have one:∀(b:Bool) (k:Nat),GX (λsp=>sp k=b) k (k+1):=λb k pz=>⟨λn=>if n=k then b else pz n,λn ao=>aR (by exact λq=>er (bF 0x8421014811942120021 aa ao q)),aK aa,λpA h=>(h k (by exact jY _)).trans (aK aa)⟩;refine T.both (λk pz=>⟨pz,λaf aJ=>aa,aL,λaf aJ=>aL⟩) (λn k=>one aw k) (λr aj k=>aj k) (λk pz=>⟨pz,λaf aJ=>aa,aL,λaf aJ=>aL⟩) (λn k=>one aS k) λl t r h1 h2 k pz=>?_;refine aB λae=>?_;obtain⟨Sf,a1,eO,cI⟩:=h1 k pz;obtain⟨C9,a2,es,c4⟩:=h2 (t.nb k).2 Sf;have ar:=((zN.1 t) k).2.2.2.2.2;have nR:=((zN.2 r) (t.nb k).2).2.2.2.2.2.1;refine ae ⟨C9,λn ao=>?_,⟨cI C9 a2,es⟩,λpA h=>⟨cI pA λn ao=>?_,c4 pA h⟩⟩
 ·rw[a2 n (by exact d4 ao ar),a1 n ao]
 ·have h:∀n,n<(r.nb (t.nb k).2).2->pA n=C9 n:=h;rw[h n (by exact d4 ao nR),a2 n ao]
theorem KG:(∀t:T,t.size<=61->t.ec)/\∀r:R,(r.size<=61->r.ec)/\2*r.len<=r.size:=by
 refine T.both (λaf=>aL) (λn af=>aL) (λr aj h=>?_) ⟨λaf=>aL,bx _⟩ (λn=>⟨λaf=>aL,bx _⟩) λl t r h1 h2=>?_
 ·have h:1+r.size<=61:=h;exact⟨by have:=aj.2;exact bF 0x3DE09440214420843DF048108021 aa h this,aj.1 (by exact cp 0x1EF8240803DF048108021 aa h)⟩
 ·have hp:=T.pos t;refine⟨λh=>?_,?_⟩
  ·have h:1+t.size+r.size<=61:=h;exact⟨h1 (by exact bF 0x7BE090200F7C12902100021 aa h),h2.1 (by exact bF 0x7BE094200F7C12902100021 aa h)⟩
  ·have:=h2.2;exact show 2*(1+r.len)<=1+t.size+r.size from cb 0x6204200142100841018A21042408421 aa hp this
theorem mR(h:t.size<=61):dS 61 t:=⟨h,KG.1 t h⟩
def dm(bz:hS)(env:Nat->T)(eh:T->Prop):Nat->V->T->Prop
 |0,_,_=>False
 |n+1,v,t=>eh t/\(jE λ(f:Form) (ps:List V) (ts:List T)=>mn (v=cf f ps) (ie f ps) (ts.length=ps.length) (o0 bz env f ts t) (∀(i:Nat) (p:V) (u:T),ps[i]? =I p->ts[i]? =I u->dm bz env eh n p u))
section
variable {bz:hS}{env:Nat->T}{eh:T->Prop}{n m:Nat}{v b c:V}{t e u:T}{l:Str}{os:List Place}
theorem dm.up:∀{n:Nat}{v:V}{t:T},dm bz env eh n v t->dm bz env eh (n+1) v t:=by
 intro n
 induction n with
 |zero=>intro v t h;exact h.elim
 |succ n aj=>
  intro v t dh;refine aB λae=>?_;obtain⟨aE,f,ps,ts,h1,h2,h3,bY,c0⟩:=dh;exact ae ⟨aE,f,ps,ts,h1,h2,h3,bY,λi p u hp aY=>aj (c0 i p u hp aY)⟩
theorem dm.le(h:dm bz env eh n v t)(hm:n<=m):dm bz env eh m v t:=by
 induction hm with
 |refl=>exact h
 |step _ aj=>exact aj.up
theorem Lc(h:i<k):(kb A q k)[i]? =I (A (q++[(i:Int)])):=by
 unfold kb;rw[e6,PR h];rfl
theorem jS.tyB:∀{n:Nat}{v:V}{A:Place->T},jS bz env n v A->dm bz env (λaf=>True) n v (A []):=by
 intro n
 induction n with
 |zero=>intro v A h;exact h.elim
 |succ n aj=>
  rintro v A ⟨f,ps,h1,h2,h3,bY⟩;refine⟨aL,f,ps,kb A [] ps.length,h1,h2,by unfold kb;rw[bC,tO],h3,λi p u hp aY=>?_⟩;replace aY:=Lc (cE hp) ▸ aY;cases aY;exact aj (bY i p hp)
theorem dm.IE:∀{n:Nat}{v:V}{t:T}{os:List Place},dm bz env eh n v t->iC n v os->(∃A,eH (jS bz env n v A) (A []=t) (∀q∈os,eh (A q))):=by
 intro n
 induction n with
 |zero=>intro v t os h;exact h.elim
 |succ n aj=>
  intro v t os dh V9;refine aB λae=>?_;obtain⟨aE,f,ps,ts,rfl,h2,h3,bY,c0⟩:=dh;obtain⟨hM,hk,ca,aG,dQ,hl,aA,rfl⟩:=V9;obtain⟨rfl,rfl⟩:=mk_inj h2 dQ aG;have ch:∀i,(∃A:Place->T,∀p o u,ps[i]? =I p->ca[i]? =I o->ts[i]? =I u->jS bz env n p A/\A []=u/\∀q∈o,eh (A q)):=λi=>by
   by_cases aI:i<ps.length
   ·obtain⟨A,WK,WJ,FE⟩:=aj (c0 i _ _ (cD aI) (cD (by exact fS aI h3.symm))) (aA i _ _ (cD aI) (cD (by exact fS aI hl.symm)));refine⟨A,λp o u hp ho aY=>?_⟩;replace hp:=cD aI ▸ hp;rw[cD (by exact fS ‹_› (j1 ‹_›))]at ho aY;cases hp;cases ho;cases aY;exact⟨WK,WJ,FE⟩
   ·exact⟨λaf=>.num,λp o u hp=>absurd (cE hp) aI⟩
  refine ae ⟨λq=>match q with|[]=>t|z::q=>Classical.choose (ch z.toNat) q,?_,aa,λq aH=>?_⟩
  ·refine⟨f,ps,aa,h2,?_,λi p hp=>?_⟩
   ·have:kb (λq=>match q with|[]=>t|z::q=>Classical.choose (ch z.toNat) q) [] ps.length=ts:=by
     refine PU λi=>?_;rcases i4 i ps.length with aI|aI
     ·rw[Lc aI,cD (show i<ts.length by exact fS aI h3.symm)];congr 1;exact(HX (ch ((i:Int).toNat)) _ _ _ (by rw[Int.toNat_natCast];exact cD aI) (by rw[Int.toNat_natCast];exact cD (show i<ca.length by exact fS aI hl.symm)) (by rw[Int.toNat_natCast];exact cD (show i<ts.length by exact fS aI h3.symm))).2.1
     ·rw[hW (by unfold kb;rw[bC,tO];exact aI),hW (by exact cb 0x310203142129022 aa h3 aI)]
    rw[this];exact bY
   ·have aI:=cE hp;exact(HX (ch ((i:Int).toNat)) _ _ _ (by rw[Int.toNat_natCast];exact hp) (by rw[Int.toNat_natCast];exact cD (show i<ca.length by exact fS aI hl.symm)) (by rw[Int.toNat_natCast];exact cD (show i<ts.length by exact fS aI h3.symm))).1
  ·rcases gb.mp aH with aH|aH
   ·obtain⟨i,o,r,dH,sU,rfl⟩:=p1.mp aH;have aI:i<ca.length:=cE dH;rw[kx];exact(HX (ch ((i:Int).toNat)) _ _ _ (by rw[Int.toNat_natCast];exact cD (show i<ps.length by exact fS aI hl)) (by rw[Int.toNat_natCast];exact dH) (by rw[Int.toNat_natCast];exact cD (show i<ts.length by exact fq 0x8109C0101821380212982229023 aa h3 hl aI))).2.2 r sU
   ·rw[bN.mp aH];exact aE
theorem Jk{r:R}(aY:r.up)(h:r.look l=I t):(∃bI:R,hA bI.up (bI.look l=U) (r=bI.ins l t) (∀w,r.upd l w=bI.ins l w)):=by
 have kZ:∀m,(r.del λm=>m==l).look m=if (m==l)=aw then U else r.look m:=λm=>R.D2;have ao:(r.del λm=>m==l).look l=U:=by rw[kZ,k6];rfl
 have xg:=R.y0 (p:=λm=>m==l) aY;have gh:∀(w:T) m,((r.del λm=>m==l).ins l w).look m=if l=m then I w else r.look m:=λw m=>by
  rw[R.iv ao,kZ];by_cases q:l=m
  ·rw[aK q,aK q]
  ·rw[aR q,aR q,aR (λh=>q (beq_iff_eq.mp h).symm)]
 refine⟨r.del λm=>m==l,xg,ao,R.ext aY (R.lh xg ao) (λm=>?_) (by rw[R.sY,R.AK]),λw=>?_⟩
 ·rw[gh];by_cases q:l=m
  ·rw[aK q,<-q];exact h
  ·rw[aR q]
 ·have cv:r.look l≠U:=by rw[h];exact nofun
  have tW:∀{r:R},r.up->(r.upd l w).up:=λ{r}=>by
   induction r using R.ind with
   |aE=>exact id
   |h1 n=>exact id
   |h2 k u r aj=>
    intro h;rw[ni];by_cases e:k=l
    ·rw[aK e];exact h
    ·rw[aR e];exact⟨Ka h.1,aj h.2⟩
  have Xx:∀{r:R},(r.upd l w).fin=r.fin:=λ{r}=>by
   induction r using R.ind with
   |aE=>rfl
   |h1 n=>rfl
   |h2 k u r aj=>
    rw[ni];by_cases e:k=l
    ·rw[aK e];rfl
    ·rw[aR e];exact aj
  exact R.ext (tW aY) (R.lh xg ao) (λm=>by rw[zW cv,gh]) (by rw[Xx,R.sY,R.AK])
theorem IH(h:eh .num):dm bz env eh (n+1) (cf (.num z) []) .num:=⟨h,.num z,[],[],aa,aa,aa,aa,nofun⟩
theorem II(h:eh (env i)):dm bz env eh (n+1) (cf (.bu i) []) (env i):=⟨h,.bu i,[],[],aa,aa,aa,aa,nofun⟩
theorem zG{α:Type}{a x:α}{i:Nat}(h:[a][i]? =I x):x=a/\i=0:=by
 induction i with
 |zero=>cases h;exact⟨aa,aa⟩
 |succ i=>exact a5 h
theorem IK{r:R}(h:dm bz env eh n b (.aQ r))(aY:r.up)(hl:r.look l=I t)(hp:eh t):dm bz env eh (n+1) (cf (.get l) [b]) t:=by
 obtain⟨bI,h1,h2,h3,_⟩:=Jk aY hl;refine⟨hp,.get l,[b],[.aQ r],aa,aa,aa,⟨bI,h1,h2,by rw[<-h3]⟩,λi p u aI g5=>?_⟩;obtain⟨rfl,rfl⟩:=zG aI;cases g5;exact h
theorem CE{α:Type}{a c x:α}{i:Nat}(h:[a,c][i]? =I x):(i=0/\x=a)\/(i=1/\x=c):=by
 match i,h with
 |0,h=>cases h;exact .inl ⟨aa,aa⟩
 |1,h=>cases h;exact .inr ⟨aa,aa⟩
theorem IG{r:R}{w:T}(h:dm bz env eh n b (.aQ r))(h':dm bz env eh n c w)(aY:r.up)(hl:r.look l=I t)(hp:eh (.aQ (r.upd l w))):dm bz env eh (n+1) (cf (.put l) [b,c]) (.aQ (r.upd l w)):=by
 obtain⟨bI,h1,h2,h3,bY⟩:=Jk aY hl;refine⟨hp,.put l,[b,c],[.aQ r,w],aa,aa,aa,⟨bI,t,w,h1,h2,by rw[<-h3],by rw[bY]⟩,λi p u aI g5=>?_⟩;rcases CE aI with ⟨rfl,rfl⟩|⟨rfl,rfl⟩
 ·cases g5;exact h
 ·cases g5;exact h'
theorem IF(h:dm bz env eh n b .num)(h':dm bz env eh n c .num)(hp:eh .num):dm bz env eh (n+1) (cf .sum [b,c]) .num:=by
 refine⟨hp,.sum,[b,c],[.num,.num],aa,aa,aa,⟨aa,aa⟩,λi p u aI g5=>?_⟩;rcases CE aI with ⟨rfl,rfl⟩|⟨rfl,rfl⟩
 ·cases g5;exact h
 ·cases g5;exact h'
theorem inv(dQ:ie f ps)(h:dm bz env eh m (cf f ps) t):(c8 λk ts=>eH (ts.length=ps.length) (o0 bz env f ts t) (∀(i:Nat) (p:V) (u:T),ps[i]? =I p->ts[i]? =I u->dm bz env eh k p u)):=by
 induction m using Nat.casesOn with
 |zero=>exact h.elim
 |succ m=>
  refine aB λae=>?_;obtain⟨_,hM,hk,ts,e,iT,h3,bY,c0⟩:=h;obtain⟨rfl,rfl⟩:=mk_inj dQ iT e;exact ae ⟨m,ts,h3,bY,c0⟩
theorem Lp(h:dm bz env eh m (cf (.bu i) []) t):t=env i:=by obtain⟨_,_,_,h,_⟩:=inv (f:=.bu i) (ps:=[]) aa h;exact h
theorem Ey(h:dm bz env eh m (cf (.get l) [b]) t):(c8 λk r=>dm bz env eh k b (.aQ r)/\r.look l=I t):=by
 refine aB λae=>?_;obtain⟨k,ts,_,⟨r,aY,hl,rfl⟩,c0⟩:=inv (f:=.get l) (ps:=[b]) aa h;exact ae ⟨k,_,c0 0 b _ aa aa,by rw[R.iv hl,aK aa]⟩
theorem Lo(h:dm bz env eh m (cf (.put l) [b,c]) t):(oj λk r u w=>eH (dm bz env eh k b (.aQ r)) (r.look l=I u) (dm bz env eh k c w)):=by
 refine aB λae=>?_;obtain⟨k,ts,_,⟨r,u,w,aY,hl,rfl,_⟩,c0⟩:=inv (f:=.put l) (ps:=[b,c]) aa h;exact ae ⟨k,_,u,w,c0 0 b _ aa aa,by rw[R.iv hl,aK aa],c0 1 c _ aa aa⟩
theorem Ln(h:dm bz env eh m (cf .sum [b,c]) t):(∃k,eH (dm bz env eh k b .num) (dm bz env eh k c .num) (t=.num)):=by
 refine aB λae=>?_;obtain⟨k,ts,_,⟨rfl,aP⟩,c0⟩:=inv (f:=.sum) (ps:=[b,c]) aa h;exact ae ⟨k,c0 0 b _ aa aa,c0 1 c _ aa aa,aP⟩
end
mutual
noncomputable def T.g8:T->Prop
 |.num=>True
 |.var _=>False
 |.aQ r=>r.g8
noncomputable def R.g8:R->Prop
 |.nil=>True
 |.b5 _=>False
 |.fld _ t r=>t.g8/\r.g8
end
theorem Zk:(∀t:T,t.g8->∀m,t.tell m=(t.pr,m))/\∀r:R,r.g8->(∀m,r.tell m=(r.h4,m))/\r.fin=U/\r.iN=.none:=by
 refine T.both (λaf aJ=>aa) (λn h=>h.elim) (λr aj h m=>?_) (λaf=>⟨λaf=>aa,aa,aa⟩) (λn h=>h.elim) λl t r h1 h2 h=>?_
 ·refine aB λae=>?_;obtain⟨a,b,c⟩:=aj h;refine ae ((?_:(V.tup [.str "record",.tup (r.tell m).1,(oy r.fin (r.tell m).2).1],(oy r.fin (r.tell m).2).2)=(V.tup [.str "record",.tup r.h4,r.iN],m)));rw[a,b,c];rfl
 ·refine aB λae=>?_;obtain⟨a,b,c⟩:=h2 h.2;refine ae ⟨λm=>?_,b,c⟩;refine(?_:(V.tup [.str l,(t.tell m).1]::(r.tell (t.tell m).2).1,(r.tell (t.tell m).2).2)=(V.tup [.str l,t.pr]::r.h4,m));rw[h1 h.1,a]
theorem sub_self:(∀t:T,t.dup->t.c5 .var .b5/\t.sub .var .b5=t)/\∀r:R,r.dup->r.c5 .var .b5/\r.sub .var .b5=r:=by
 refine T.both (λaf=>⟨aL,aa⟩) (λn af=>⟨aL,aa⟩) (λr aj h=>⟨(aj h).1,ff T.aQ (aj h).2⟩) (λaf=>⟨aL,aa⟩) (λn af=>⟨aL,aa⟩) λl t r h1 h2 h=>?_;obtain⟨a,b⟩:=h1 h.2.1;obtain⟨c,d⟩:=h2 h.2.2;refine⟨⟨a,c,by rw[d];exact R.zX (R.rk h.2.2) h.1⟩,?_⟩;show(r.sub .var .b5).ins l (t.sub .var .b5)=_;rw[b,d,EB h.1]
theorem R0:(∀t:T,t.dup->t.g8->t.c5 f g/\t.sub f g=t)/\∀r:R,r.dup->r.g8->r.c5 f g/\r.sub f g=r:=by
 refine T.both (λaf aJ=>⟨aL,aa⟩) (λn af h=>h.elim) (λr aj h h'=>⟨(aj h h').1,ff T.aQ (aj h h').2⟩) (λaf aJ=>⟨aL,aa⟩) (λn af h=>h.elim) λl t r h1 h2 h h'=>?_;obtain⟨a,b⟩:=h1 h.2.1 h'.1;obtain⟨c,d⟩:=h2 h.2.2 h'.2;refine⟨⟨a,c,by rw[d];exact R.zX (R.rk h.2.2) h.1⟩,?_⟩;show(r.sub f g).ins l (t.sub f g)=_;rw[b,d,EB h.1]
theorem R9:(∀t:T,t.g8->t.eK sp)/\∀r:R,r.g8->r.eK sp:=
 T.both (λaf=>aL) (λn h=>h.elim) (λr aj h=>aj h) (λaf=>aL) (λn h=>h.elim) λl t r h1 h2 h=>⟨h1 h.1,h2 h.2⟩
theorem Ie:∀{p:List Str}{t x:T},t.c5 f g->walk p t=I x->walk p (t.sub f g)=I (x.sub f g):=by
 intro p
 induction p with
 |nil=>intro t x _ h;cases h;rfl
 |cons l p aj=>
  intro t x aV h
  induction t using T.casesOn with
  |num=>exact a5 h
  |var n=>exact a5 h
  |aQ r=>
   have h:(r.look l).bind (walk p)=I x:=h
   induction e:r.look l with
   |none=>replace h:=e ▸ h;exact a5 h
   |some u=>
    replace h:=e ▸ h;obtain⟨a1,a2⟩:=Oc aV e;refine(?_:((r.sub f g).look l).bind (walk p)=_);rw[a2];exact aj a1 h
def jK:V:=cf (.bu 0) []
def iU:V->List Str->V
 |b,[]=>b
 |b,l::p=>iU (cf (.get l) [b]) p
def pE(z:Int):V->List Str->V
 |b,[]=>b
 |b,l::p=>match p with
  |[]=>cf (.put l) [b,cf (.num z) []]
  |_::_=>cf (.put l) [b,pE z (cf (.get l) [b]) p]
noncomputable def j8:List Str->T->T
 |[],_=>.num
 |l::p,t=>match t with
  |.aQ r=>match r.look l with
   |some u=>.aQ (r.upd l (j8 p u))
   |none=>t
  |_=>t
section
variable {bz:hS}{env:Nat->T}{eh:T->Prop}{n m:Nat}{v b c:V}{t e u x:T}{l:Str}{p:List Str}
theorem Co(h:walk (l::p) e=I t):(c8 λr u=>eH (e=.aQ r) (r.look l=I u) (walk p u=I t)):=by
 induction e using T.casesOn with
 |num=>exact a5 h
 |var n=>exact a5 h
 |aQ r=>
  have h:(r.look l).bind (walk p)=I t:=h
  induction q:r.look l with
  |none=>rw[q]at h;exact a5 h
  |some u=>rw[q]at h;exact⟨r,u,aa,q,h⟩
theorem IJ(jb:∀{r:R}{l:Str}{t:T},eh (.aQ r)->r.look l=I t->eh t):∀{p:List Str}{n:Nat}{b:V}{e:T},dm bz env eh n b e->eh e->e.dup->walk p e=I t->dm bz env eh (n+p.length) (iU b p) t:=by
 intro p
 induction p with
 |nil=>intro n b e h _ _ hw;cases hw;exact h
 |cons l p aj=>
  intro n b e h hp hd hw;replace hw:=Co hw;obtain⟨r,u,rfl,hl,hw⟩:=hw;have:=aj (IK h (R.rk hd) hl (jb hp hl)) (jb hp hl) (va hd hl) hw;show dm bz env eh (n+(p.length+1)) (iU (cf (.get l) [b]) p) t;rw[show n+(p.length+1)=n+1+p.length by exact iF (bF 0xA109000084A020020 aa) (bF 0x21280802842400020 aa)];exact this
theorem Js:∀{p:List Str}{e x:T},walk p e=I x->x.size=1->(j8 p e).size=e.size/\(e.dup->(j8 p e).dup)/\walk p (j8 p e)=I .num:=by
 intro p
 induction p with
 |nil=>intro e x h ak;cases h;exact⟨ak.symm,λaf=>aL,aa⟩
 |cons l p aj=>
  intro e x h ak;obtain⟨r,u,rfl,hl,hw⟩:=Co h;obtain⟨a,b,c⟩:=aj hw ak;have q:j8 (l::p) (.aQ r)=.aQ (r.upd l (j8 p u)):=by
   refine(?_:(match r.look l with|some u=>T.aQ (r.upd l (j8 p u))|none=>_)=_);rw[hl]
  rw[q];have s:=(Jn (t:=j8 p u) hl).1;refine⟨?_,λhd=>Ni hd (b (va hd hl)),?_⟩
  ·exact show 1+(r.upd l (j8 p u)).size=1+r.size from iF (fq 0xE1080C10802021C053002229022 aa a s) (fq 0xC1080E10802021C053002329023 aa a s)
  ·refine(?_:((r.upd l (j8 p u)).look l).bind (walk p)=_);rw[zW (by rw[hl];exact nofun),aK aa];exact c
theorem Q6(hB:B=61):∀{p:List Str}{n:Nat}{b:V}{e x:T},p≠[]->dm bz env (dS B) n b e->dS B e->e.dup->walk p e=I x->x.size=1->dm bz env (dS B) (n+2*p.length) (pE z b p) (j8 p e):=by
 subst hB;intro p
 induction p with
 |nil=>intro n b e x h;exact absurd aa h
 |cons l p aj=>
  intro n b e x _ h aZ hd hw ak;have rd:dS 61 (j8 (l::p) e):=mR (by rw[(Js hw ak).1];exact aZ.size);replace hw:=Co hw;obtain⟨r,u,rfl,hl,hw⟩:=hw;have q:j8 (l::p) (.aQ r)=.aQ (r.upd l (j8 p u)):=by
   refine(?_:(match r.look l with|some u=>T.aQ (r.upd l (j8 p u))|none=>_)=_);rw[hl]
  have Ma:dS 61 u:=mR (k7 (d4 (zl hl) aZ.size));rw[q]at rd ⊢
  induction p with
  |nil=>
   refine(?_:dm bz env (dS 61) (n+1+1) (cf (.put l) [b,cf (.num z) []]) _);exact IG (h.le (by exact gH _)) (IH (mR (by refine(?_:1<=61);decide))) (R.rk hd) hl rd
  |cons k p=>
   have:=aj nofun (IK h (R.rk hd) hl Ma) Ma (va hd hl) hw ak;refine(?_:dm bz env (dS 61) (n+2*(p.length+1+1)) (cf (.put l) [b,pE z (cf (.get l) [b]) (k::p)]) _);rw[show n+2*(p.length+1+1)=(n+1+2*(k::p).length)+1 by exact show _=n+1+2*(p.length+1)+1 from iF (bF 0x421094021042400001084250004220020 aa) (bF 0x421094001088008421280420848000020 aa)];exact IG (h.le (by exact bF 0x14420848001020 aa)) this (R.rk hd) hl rd
def G8(bz:hS)(env:Nat->T)(b:V)(e:T):Prop:=∀m t,dm bz env (λaf=>True) m b t->t=e
theorem Ki:G8 bz env (cf (.bu 0) []) (env 0):=λm t h=>Lp h
theorem ME:∀{p:List Str}{b:V}{m:Nat}{t:T},dm bz env (λaf=>True) m (iU b p) t->(c8 λk u=>dm bz env (λaf=>True) k b u):=by
 intro p
 induction p with
 |nil=>intro b m t h;exact⟨m,t,h⟩
 |cons l p aj=>
  intro b m t h;obtain⟨k,u,aY⟩:=aj (b:=cf (.get l) [b]) h;obtain⟨eo,r,h1,_⟩:=Ey aY;exact⟨eo,_,h1⟩
theorem U6:∀{p:List Str}{b:V}{e:T},G8 bz env b e->dm bz env (λaf=>True) m (iU b p) t->walk p e=I t:=by
 intro p
 induction p with
 |nil=>intro b e h bw;exact ff I (h m t bw).symm
 |cons l p aj=>
  intro b e h bw;have base:∀{m:Nat}{t:T},dm bz env (λaf=>True) m (cf (.get l) [b]) t->(∃r,e=.aQ r/\r.look l=I t):=λbw=>by
   obtain⟨k,r,h1,h2⟩:=Ey bw;exact⟨r,(h _ _ h1).symm,h2⟩
  obtain⟨k,u,aY⟩:=ME (p:=p) (b:=cf (.get l) [b]) bw;obtain⟨r,rfl,hl⟩:=base aY;have:=aj (b:=cf (.get l) [b]) (e:=u) (λm t h'=>by
   obtain⟨bI,aG,fv⟩:=base h';cases aG;rw[hl]at fv;exact(gm fv).symm) bw
  refine(?_:(r.look l).bind (walk p)=_);rw[hl];exact this
theorem U5:∀{p:List Str}{b:V}{e t:T}{m:Nat},p≠[]->G8 bz env b e->dm bz env (λaf=>True) m (pE z b p) t->(∃x,walk p e=I x):=by
 intro p
 induction p with
 |nil=>intro b e t m h;exact absurd aa h
 |cons l p aj=>
  intro b e t m _ h bw
  induction p with
  |nil=>
   refine aB λae=>?_;obtain⟨k,r,u,w,h1,h2,_⟩:=Lo (show dm bz env (λaf=>True) m (cf (.put l) [b,cf (.num z) []]) t from bw);refine ae ?_;rw[<-h _ _ h1];exact⟨u,by refine(?_:(r.look l).bind (walk [])=_);rw[h2];rfl⟩
  |cons k p=>
   refine aB λae=>?_;obtain⟨j,r,u,w,h1,h2,h3⟩:=Lo (show dm bz env (λaf=>True) m (cf (.put l) [b,pE z (cf (.get l) [b]) (k::p)]) t from bw);have bL:=h _ _ h1;obtain⟨x,ak⟩:=aj (b:=cf (.get l) [b]) (e:=u) nofun (λm t h'=>by
    obtain⟨xa,bI,bY,c0⟩:=Ey h';have:=h _ _ bY;replace this:=(j1 (bL ..)) ▸ this;cases this;replace c0:=h2 ▸ c0;exact(gm c0).symm) h3
   refine ae ?_;rw[<-bL];exact⟨x,by refine(?_:(r.look l).bind (walk (k::p))=_);rw[h2];exact ak⟩
end
def eT(n w:Nat)(v:V):Prop:=(∃os,eH (iC n v os) (os.length<=w) (∀q j ps,i2 v q (cf (.bu j) ps)->j<1))
theorem iC.up:∀{n:Nat}{v:V}{os:List Place},iC n v os->iC (n+1) v os:=by
 intro n
 induction n with
 |zero=>intro v os h;exact h.elim
 |succ n aj=>
  rintro v os ⟨f,ps,ca,h1,h2,h3,bY,c0⟩;exact⟨f,ps,ca,h1,h2,h3,λi p o hp ho=>aj (bY i p o hp ho),c0⟩
section
variable {n m w w':Nat}{v b c:V}{f:Form}{ps:List V}{l:Str}
theorem eT.le(h:eT n w v)(ao:n<=m)(hw:w<=w'):eT m w' v:=by
 obtain⟨os,h1,h2,h3⟩:=h;refine⟨os,?_,b0 h2 hw,h3⟩;clear h2
 induction ao with
 |refl=>exact h1
 |step _ aj=>exact aj.up
theorem eT.mk(h:ie f ps)(aI:∀j,f=.bu j->j<1)(hp:∀p∈ps,eT n w p):eT (n+1) (ps.length*w+1) (cf f ps):=by
 have ch:∀bq:List V,(∀p∈bq,eT n w p)->(∃ca:List (List Place),eH (ca.length=bq.length) ((∀(i:Nat) (p:V) (o:List Place),bq[i]? =I p->ca[i]? =I o->iC n p o)) (∀k,(flat k ca).length<=bq.length*w)):=by
  intro bq
  induction bq with
  |nil=>intro _;exact⟨[],aa,nofun,λaf=>eV _⟩
  |cons q bq aj=>
   intro aH;obtain⟨ca,h1,h2,h3⟩:=aj λp hp=>aH p (dz _ hp);obtain⟨o,bY,c0,_⟩:=aH q b9;refine⟨o::ca,ff (· + 1) h1,λi p o' hp ho=>?_,λk=>?_⟩
   ·induction i with
    |zero=>cases hp;cases ho;exact bY
    |succ i=>exact h2 i p o' hp ho
   ·show(o.map _++flat (k+1) ca).length<=(bq.length+1)*w;rw[dp,bC,PG,PB];have:=h3 (k+1);exact fq 0x29C06200203982129021 aa c0 this
 obtain⟨ca,h1,h2,h3⟩:=ch ps hp;refine⟨flat 0 ca++[[]],⟨f,ps,ca,aa,h,h1,h2,aa⟩,by rw[dp];have:=h3 0;exact show _+1<=_ from bF 0x21280212002029021 aa this,λq j bq aV=>?_⟩;generalize aM:cf f ps=v at aV;generalize aY:cf (.bu j) bq=u at aV
 induction aV with
 |nil=>
  replace aY:=(j1 (aM ..)) ▸ aY;have:=Gj h;replace this:=(j1 (aY ..)) ▸ this;have:(I (Form.bu (j:Int).toNat,[]):Option (Form×List V))=I (f,ps):=this;replace this:=(Int.toNat_natCast ..) ▸ this;cases this;exact aI j aa
 |cons dQ VE df=>
  obtain⟨rfl,rfl⟩:=mk_inj h dQ aM;obtain⟨_,_,_,dH⟩:=hp _ (ee VE);subst aY;exact dH _ j bq df
theorem x9:eT 1 1 jK:=eT.mk (f:=.bu 0) (ps:=[]) (n:=0) (w:=0) aa (λj e=>by cases e;decide) nofun
theorem Gz:eT 1 1 (cf (.num z) []):=eT.mk (f:=.num z) (ps:=[]) (n:=0) (w:=0) aa nofun nofun
theorem NW(h:eT n w b):eT (n+1) (w+1) (cf (.get l) [b]):=(eT.mk (f:=.get l) (ps:=[b]) aa nofun λp hp=>by rw[bN.mp hp];exact h).le (bx _) (by exact show 1*w+1<=_ from cp 0x84800848110020 aa)
theorem NT(h:eT n w b)(h':eT n w c):∀p∈[b,c],eT n w p:=λp hp=>by
 rcases List.mem_cons.mp hp with e|hp
 ·rw[e];exact h
 ·rw[bN.mp hp];exact h'
theorem Gy(h:eT n w b)(h':eT n w c):eT (n+1) (2*w+1) (cf (.put l) [b,c]):=eT.mk (f:=.put l) (ps:=[b,c]) aa nofun (NT h h')
theorem NU(h:eT n w b)(h':eT n w c):eT (n+1) (2*w+1) (cf .sum [b,c]):=eT.mk (f:=.sum) (ps:=[b,c]) aa nofun (NT h h')
theorem NV:∀{p:List Str}{n w:Nat}{b:V},eT n w b->eT (n+p.length) (w+p.length) (iU b p):=by
 intro p
 induction p with
 |nil=>intro n w b h;exact h
 |cons l p aj=>
  intro n w b h;exact(aj (NW (l:=l) h)).le (by exact show _<=n+(p.length+1) from bF 0x21280802842400020 aa) (by exact show _<=w+(p.length+1) from bF 0x21280802842400020 aa)
theorem Zx(hp:p≠[])(hl:p.length<3):eT 5 11 (pE z jK p):=by
 match p,hp,hl with
 |[l],_,_=>exact(Gy (l:=l) x9 (Gz (z:=z))).le (by decide) (by decide)
 |[l,k],_,_=>
  exact(Gy (l:=l) (x9.le (by decide) (by decide)) (Gy (NW x9) (Gz.le (by decide) (by decide)):eT 3 5 (cf (.put k) [cf (.get l) [jK],cf (.num z) []]))).le (by decide) (by decide)
 |l::k::j::p,_,h=>exact absurd h (by exact show ¬p.length+1+1+1<3 from λq=>er (cp 0x210840308421084210900000021 aa q))
def kE(z:Int)(x:List Str×T):V:=match x.2 with
 |.num=>jK
 |_=>pE z jK x.1
def kW(z y:Int)(sw:Bool)(x:List Str×T):V:=if sw=aw then cf .sum [cf (.num y) [],iU (kE z x) x.1] else cf .sum [iU (kE z x) x.1,cf (.num y) []]
structure Case(ps:List (List Str×T))(ls:List Str)(bs:List V):Prop where
 free:vF ps
 ne:ps≠[]
 p3:ps.length<=6
 short:∀p∈ps,p.1.length<=5
 ub:∀p∈ps,p.2≠.num->p.1.length<3
 len:bs.length=ls.length
 six:ls.length<=6
 aF:ls.Nodup
 all:∀b∈bs,∃x∈ps,(∃sw,b=kW 7 0 sw x)
 each:∀x∈ps,(∃sw,kW 7 0 sw x∈bs)
def e2(ps:List (List Str×T)):T:=((T.aQ (formOf ps)).nb 0).1
noncomputable def nums(ls:List Str):List (Str×T):=ls.map λl=>(l,T.num)
def resT(ls:List Str):T:=.aQ (de (nums ls).reverse .nil)
def Gx(ls:List Str)(bs:List V):V:=cf (.make ls) bs
def x4(ps:List (List Str×T))(ls:List Str)(bs:List V):o7:=⟨"f",1,Gx ls bs,([e2 ps],resT ls)⟩
def Gi(ps:List (List Str×T))(ls:List Str):o7:=⟨"g",1,cf (.call "f") [jK],([e2 ps],resT ls)⟩
variable {bq:List (List Str×T)}{ls:List Str}{bs:List V}{bz:hS}{env:Nat->T}
theorem CW(h:∀p∈bq,p.1.length<=N):(bq.map λp=>p.1.length).sum<=bq.length*N:=by
 induction bq with
 |nil=>exact eV _
 |cons q bq aj=>
  have h2:=aj λp hp=>h p (dz _ hp);refine(?_:q.1.length+(bq.map λp=>p.1.length).sum<=(bq.length+1)*N);rw[PG,PB];exact fq 0x29C06200203982129021 aa (h q b9) h2
structure Due(bq:List (List Str×T))(D:T):Prop where
 size:D.size<=61
 dep:D.dep<=12
 dup:D.dup
 ew:D.ew
 nZ:m3 (λx=>∃p∈bq,x=p.1) D
 M7:∀p∈bq,p.2=.num->walk p.1 D=I .num
 AU:∀p∈bq,p.2≠.num->(∃j,walk p.1 D=I (.var j))
 eK:(∃sp,D.eK sp)
theorem Case.gM(C:Case bq ls bs):Due bq (e2 bq):=by
 have F:=FN C.free;obtain⟨a,b,c,d,e,_⟩:=zN.1 (.aQ (formOf bq)) 0;have FF:=CW C.short;have dH:=C.p3;obtain⟨q,aH⟩:(∃q,q∈bq):=by
  induction bq with
  |nil=>exact absurd aa C.ne
  |cons q _=>exact⟨q,b9⟩
 refine⟨?_,?_,c F.dup,d F.ew,e ⟨?_,F.nZ⟩,λp hp ao=>?_,λp hp ao=>?_,?_⟩
 ·unfold e2;rw[a];exact show 1+(formOf bq).size<=61 from cb 0x7BE09021004060994131465104A211021 aa F.size FF dH
 ·unfold e2;rw[b];exact show 1+(formOf bq).dep<=12 from cp 0xC090210040509021 aa (F.dep 5 C.short)
 ·induction aA:q.1 using List.casesOn with
  |nil=>exact absurd aA ((C.free.1 q aH).1)
  |cons l p=>exact⟨l,p,q,aH,aA.symm⟩
 ·obtain⟨j,bh⟩:=Ig (k:=0) (F.ends p hp);rw[ao]at bh;exact bh
 ·obtain⟨j,bh⟩:=Ig (k:=0) (F.ends p hp);rcases(C.free.1 p hp).2 with e|e
  ·exact absurd e ao
  ·rw[e]at bh;exact⟨j,bh⟩
 ·obtain⟨sp,_,h,_⟩:=R7.1 (.aQ (formOf bq)) 0 (λaf=>aS);exact⟨sp,h⟩
structure Ol(ls:List Str)(t:T):Prop where
 size:t.size<=13
 dep:t.dep<=12
 dup:t.dup
 g8:t.g8
theorem R.Zl{t:T}{r:R}(h:r.g8)(aP:t.g8):(r.ins l t).g8:=by
 induction r using R.ind with
 |aE=>exact⟨aP,aL⟩
 |h1 n=>exact h.elim
 |h2 k u r aj=>
  rw[R.kP];by_cases e:strLt k l=aw
  ·rw[aK e];exact⟨h.1,aj h.2⟩
  ·rw[aR e];exact⟨aP,h⟩
theorem TR:∀{xs:List (Str×T)},(∀x∈xs,x.2=.num)->(xs.map (·.1)).Nodup->(de xs .nil).size=2*xs.length/\(de xs .nil).dep<=1/\(de xs .nil).dup/\(de xs .nil).g8:=by
 intro xs
 induction xs with
 |nil=>intro _ _;exact⟨aa,eV _,aL,aL⟩
 |cons x xs aj=>
  intro h aF;refine aB λae=>?_;obtain⟨a,b,c,d⟩:=aj (λy a9=>h y (dz _ a9)) (zI aF);have ak:=h x b9;refine ae ⟨?_,?_,R.Ge c (by rw[ak];trivial) (D1 aF (λaf aJ=>aa:Off ((x::xs).map (·.1)) .nil)),R.Zl d (by rw[ak];trivial)⟩
  ·rw[zm,ak,a];exact show 1+1+2*xs.length=2*(xs.length+1) from iF (cp 0x109002110420842100020 aa) (cp 0x410821084000848010820 aa)
  ·refine(?_:((de xs .nil).ins x.1 x.2).dep<=1);rw[R.Gh,ak];refine(?_:max 1 _<=1);exact zO (bx _) (by assumption)
theorem Case.res(C:Case bq ls bs):Ol ls (resT ls):=by
 obtain⟨a,b,c,d⟩:=TR (xs:=(nums ls).reverse) (λx ak=>by
  obtain⟨l,_,rfl⟩:=ez.mp (B5.mp ak);rfl) (by
  rw[vR];refine afr.mpr (afC (λh=>kv h) ?_);unfold nums;rw[gw];have:ls.map ((λx:Str×T=>x.1) ∘ λl=>(l,T.num))=ls:=PN _;rw[this];exact C.aF)
 rw[qr,show(nums ls).length=ls.length from bC ..]at a;exact⟨by exact show 1+(de (nums ls).reverse .nil).size<=13 from bF 0x342508401010422844609041 aa C.six a,by exact show 1+(de (nums ls).reverse .nil).dep<=12 from cp 0xC090210040109021 aa b,c,d⟩
theorem H4(hl:ts.length=ls.length)(h:∀t∈ts,t=.num):ls.zip ts=nums ls:=by
 unfold nums
 induction ls generalizing ts with
 |nil=>rfl
 |cons l ls aj=>
  induction ts using List.casesOn with
  |nil=>cases hl
  |cons t ts=>
   rw[tN,h t b9,aj (yF hl) λt aP=>h t (dz _ aP)];rfl
theorem Nj(h:(∃eu,D=((T.aQ eu).nb 0).1))(aY:tH bk a6 u D)(az:u.eK sp)(aP:t.g8):Ej [u] t=hi ([D],t):=by
 obtain⟨eu,rfl⟩:=h;obtain⟨a,_⟩:=Xu.1 (.aQ eu) u 0 [] aY az ⟨aa,nofun⟩;refine(?_:V.tup [.tup [(u.tell []).1],(t.tell (u.tell []).2).1]=V.tup [.tup [((T.aQ eu).nb 0).1.pr],t.pr]);rw[a,Zk.1 t aP]
end
section
variable {bq:List (List Str×T)}{ls:List Str}{bs:List V}{bz:hS}{env:Nat->T}
theorem wj(h:x.2=.num):kE z x=jK:=by unfold kE;rw[h]
theorem ze(h:x.2≠.num):kE z x=pE z jK x.1:=by
 unfold kE
 induction q:x.2 using T.casesOn with
 |num=>exact absurd q h
 |var n=>rfl
 |aQ r=>rfl
theorem MS(h:dS 61 (.aQ r))(hl:r.look l=I t):dS 61 t:=mR (k7 (d4 (zl hl) h.size))
theorem Q7(hD:Due bq D)(C:Case bq ls bs)(ak:x∈bq):dm bz (λaf=>D) (dS 61) 11 (kW 7 0 sw x) .num:=by
 have FV:dS 61 D:=mR hD.size;have aI:dm bz (λaf=>D) (dS 61) 1 jK D:=II (env:=λaf=>D) (i:=0) FV;have key:dm bz (λaf=>D) (dS 61) 10 (iU (kE 7 x) x.1) .num:=by
  refine aB λae=>?_;by_cases ao:x.2=.num
  ·refine ae ?_;rw[wj ao];exact(IJ MS aI FV hD.dup (hD.M7 x ak ao)).le (by exact cp 0xA090210040509021 aa (C.short x ak))
  ·skip
   obtain⟨j,bh⟩:=hD.AU x ak ao;obtain⟨a,b,c⟩:=Js bh aa;refine ae ?_;rw[ze ao];have:=IJ MS (Q6 (z:=7) aa (C.free.1 x ak).1 aI FV hD.dup bh aa) (mR (by rw[a];exact hD.size)) (b hD.dup) c;exact this.le (by exact cp 0x5048410821000201842120061 aa (C.ub x ak ao))
 have f1:dS 61 .num:=mR (by refine(?_:1<=61);decide);have La:dm bz (λaf=>D) (dS 61) 10 (cf (.num 0) []) .num:=IH f1;unfold kW
 induction sw with
 |true=>exact IF La key f1
 |false=>exact IF key La f1
theorem Zy(C:Case bq ls bs)(ak:x∈bq):eT 11 33 (kW 7 0 sw x):=by
 have c0:=C.short x ak;have key:eT 10 16 (iU (kE 7 x) x.1):=by
  by_cases ao:x.2=.num
  ·rw[wj ao];exact(NV x9).le (by exact cp 0xA090210040509021 aa c0) (by exact cp 0x10090210040509021 aa c0)
  ·have h3:=C.ub x ak ao;rw[ze ao];exact(NV (Zx (C.free.1 x ak).1 h3)).le (by exact cp 0x50485080201842120021 aa h3) (by exact cp 0x8048B080201842120021 aa h3)
 have hH:eT 10 16 (cf (.num 0) []):=Gz.le (by decide) (by decide);unfold kW
 induction sw with
 |true=>exact NU hH key
 |false=>exact NU key hH
theorem Lq(cv:x.1≠[])(h:dm bz env (λaf=>True) m (kW 7 0 sw x) t):t=.num/\(∃y,walk x.1 (env 0)=I y/\(x.2=.num->y=.num)):=by
 have key:t=.num/\(∃k,dm bz env (λaf=>True) k (iU (kE 7 x) x.1) .num):=by
  unfold kW at h
  induction sw with
  |true=>
   obtain⟨k,_,h2,h3⟩:=Ln (show dm bz env (λaf=>True) m (cf .sum [cf (.num 0) [],iU (kE 7 x) x.1]) t from h);exact⟨h3,k,h2⟩
  |false=>
   obtain⟨k,h2,_,h3⟩:=Ln (show dm bz env (λaf=>True) m (cf .sum [iU (kE 7 x) x.1,cf (.num 0) []]) t from h);exact⟨h3,k,h2⟩
 obtain⟨aP,k,ar⟩:=key;refine⟨aP,?_⟩;refine aB λae=>?_;by_cases ao:x.2=.num
 ·rw[wj ao]at ar;exact ae ⟨.num,U6 Ki ar,λaf=>aa⟩
 ·rw[ze ao]at ar;obtain⟨eo,u,aY⟩:=ME ar;obtain⟨y,a9⟩:=U5 cv Ki aY;exact ae ⟨y,a9,λq=>absurd q ao⟩
theorem NM{aW:List T}{e:Nat->T}(hl:aW.length=1)(h:∀j,j<1->aW[j]? =I (e j)):aW=[e 0]:=by
 match aW,hl with
 |[a],_=>have:=h 0 (by decide);cases this;rfl
theorem Jw(hD:Due bq D)(aX:Ol ls t):ry 61 ([D],t):=by
 obtain⟨sp,az⟩:=hD.eK;refine⟨⟨sp,λu aY=>?_,aX.dup,R9.1 t aX.g8,by have:=aX.size;exact show t.size<=61 from cp 0xF7C12040D09021 aa this⟩,by refine(?_:1<=30);decide⟩;rw[bN.mp aY];exact⟨hD.dup,az,hD.size⟩
theorem Kl(C:Case bq ls bs):(oj λn os jx i1=>n<=100/\BM 61 100 [] (x4 bq ls bs) n os jx i1):=by
 have hD:=C.gM;have aX:=C.res;have dH:=C.six;have dQ:ie (.make ls) bs:=⟨C.len,by exact cp 0x7BC12040609021 aa dH,C.aF⟩;refine aB λae=>?_;obtain⟨os,ho,pP,EW⟩:eT 12 (bs.length*33+1) (Gx ls bs):=eT.mk dQ nofun λb au=>by
  obtain⟨x,ak,sw,rfl⟩:=C.all b au;exact Zy C ak
 have Wv:=C.len;have XE:dS 61 (resT ls):=mR (by have:=aX.size;exact cp 0xF7C12040D09021 aa this);have bw:dm [] (λaf=>e2 bq) (dS 61) 12 (Gx ls bs) (resT ls):=by
  refine⟨XE,.make ls,bs,bs.map λaf=>T.num,aa,dQ,bC ..,?_,λi p u hp aY=>?_⟩
  ·refine(?_:resT ls=.aQ (de (ls.zip (bs.map λaf=>T.num)).reverse .nil));rw[H4 (by rw[bC];exact C.len) λt aP=>by obtain⟨_,_,rfl⟩:=ez.mp aP;rfl];rfl
  ·replace aY:=hp ▸ e6 ▸ aY;cases aY;obtain⟨x,ak,sw,rfl⟩:=C.all p (ee hp);exact Q7 hD C ak
 obtain⟨A,aT,xK,FD⟩:=bw.IE ho;refine ae ?_;refine⟨12,os,λaf=>e2 bq,A,by decide,ho,by decide,b0 (by assumption:os.length<=bs.length*33+1) (by rw[Wv];exact b0 (qn (PC 33 (by assumption))) (by decide)),by refine(?_:1<=30);decide,EW,aT,λj af=>⟨mR hD.size,hD.dep⟩,FD,by rw[xK];exact aX.dep,?_,λaW t P=>?_,Jw hD aX⟩
 ·rw[xK];have h2:=aX.size;refine(?_:gU ([e2 bq]++[resT ls])<=100);rw[t5];exact show(e2 bq).size+0+(resT ls).size<=100 from bF 0x193C12802400020684A1087BE09021 aa hD.size h2
 ·refine aB λae=>?_;obtain⟨env,hC,Fx,he,aP⟩:=P.rM;have lP:=NM P.len he;have hB:=Fx.tyB;replace hB:=aP ▸ hB;obtain⟨k,ts,hl,WE,ar⟩:=inv dQ hB;have ZV:∀t∈ts,t=.num:=λt aP=>by
   obtain⟨i,aI,rfl⟩:=m8.mp aP;have hp:bs[i]? =I (bs[i]'(by exact fS aI hl)):=cD (by exact fS aI hl);obtain⟨x,ak,sw,e⟩:=C.all _ (ee hp);have:=ar i _ _ hp (cD aI);replace this:=e ▸ this;exact(Lq (C.free.1 x ak).1 this).1
  have EM:t=resT ls:=by
   rw[(WE:t=.aQ (de (ls.zip ts).reverse .nil)),H4 (by rw[hl];exact C.len) ZV];rfl
  have hw:∀x∈bq,(∃y,walk x.1 (env 0)=I y/\(x.2=.num->y=.num)):=λx ak=>by
   obtain⟨sw,au⟩:=C.each x ak;obtain⟨i,aI,e⟩:=m8.mp au;have:=ar i _ _ (cD aI:bs[i]? =I bs[i]) (cD (show i<ts.length by exact fS aI hl.symm));replace this:=e ▸ this;exact(Lq (C.free.1 x ak).1 this).2
  obtain⟨bk,a6,lE,_,_⟩:=P.most aT;obtain⟨sp,s1,_⟩:=P.eK;subst lP;obtain⟨a1,a2⟩:=lE 0 (env 0) aa;have aZ:tH bk a6 (env 0) (e2 bq):=by
   refine fits_of (e2 bq).size (bx _) (P.dup.1 _ b9) a1 a2.symm hD.dup hD.ew hD.nZ λp hp=>?_;obtain⟨x,ak,rfl⟩:=hp;obtain⟨y,h1,h2⟩:=hw x ak;refine⟨y,h1,λh3=>?_⟩;by_cases ao:x.2=.num
   ·exact h2 ao
   ·obtain⟨j,bh⟩:=hD.AU x ak ao;replace h3:=bh ▸ h3;cases h3
  refine ae ?_;rw[EM];exact Nj ⟨_,aa⟩ aZ (s1 _ b9) aX.g8
theorem TM(C:Case bq ls bs):(oj λn os jx i1=>n<=100/\BM 61 100 [("f",([e2 bq],resT ls))] (Gi bq ls) n os jx i1):=by
 have hD:=C.gM;have aX:=C.res;have dQ:ie (.call "f") [jK]:=by refine(?_:1<=30);decide
 refine aB λae=>?_;obtain⟨os,ho,pP,EW⟩:eT 2 2 (cf (.call "f") [jK]):=eT.mk (w:=1) dQ nofun λb au=>by rw[bN.mp au];exact x9
 have bw:dm [("f",([e2 bq],resT ls))] (λaf=>e2 bq) (dS 61) 2 (cf (.call "f") [jK]) (resT ls):=by
  obtain⟨cS,cZ⟩:=sub_self.1 _ hD.dup;obtain⟨U2,U1⟩:=sub_self.1 _ aX.dup;refine⟨(mR (by have:=aX.size;exact cp 0xF7C12040D09021 aa this):dS 61 (resT ls)),.call "f",[jK],[e2 bq],aa,dQ,aa,⟨([e2 bq],resT ls),aa,.var,.b5,λaf=>aL,λu aY=>?_,U2,?_,U1.symm⟩,λi p u hp aY=>?_⟩
  ·rw[bN.mp aY];exact cS
  ·refine(?_:[e2 bq]=[(e2 bq).sub .var .b5]);rw[cZ]
  ·obtain⟨rfl,rfl⟩:=zG hp;cases aY;exact II (env:=λaf=>e2 bq) (i:=0) (mR hD.size:dS 61 (e2 bq))
 obtain⟨A,aT,xK,FD⟩:=bw.IE ho;refine ae ?_;refine⟨2,os,λaf=>e2 bq,A,by decide,ho,by decide,by exact cp 0xFA3C12040209021 aa pP,by refine(?_:1<=30);decide,EW,aT,λj af=>⟨mR hD.size,hD.dep⟩,FD,by rw[xK];exact aX.dep,?_,λaW t P=>?_,Jw hD aX⟩
 ·rw[xK];have h2:=aX.size;refine(?_:gU ([e2 bq]++[resT ls])<=100);rw[t5];exact show(e2 bq).size+0+(resT ls).size<=100 from bF 0x193C12802400020684A1087BE09021 aa hD.size h2
 ·refine aB λae=>?_;obtain⟨env,hC,Fx,he,aP⟩:=P.rM;have lP:=NM P.len he;have hB:=Fx.tyB;replace hB:=aP ▸ hB;obtain⟨k,ts,hl,⟨s,az,P8,Qe,g1,g2,g3,dk,fc⟩,ar⟩:=inv dQ hB;have az:(I ([e2 bq],resT ls):Option rz)=I s:=az;refine ae ?_;cases az;have EM:t=resT ls:=by rw[fc];exact(R0.1 _ aX.dup aX.g8).2
  have dk:ts=[(e2 bq).sub P8 Qe]:=dk;subst dk;have Oe:=g2 _ b9;have hw:∀x∈bq,(∃y,walk x.1 (env 0)=I y/\(x.2=.num->y=.num)):=λx ak=>by
   rw[<-(Lp (ar 0 jK _ aa aa))];by_cases ao:x.2=.num
   ·exact⟨.num,Ie Oe (hD.M7 x ak ao),λaf=>aa⟩
   ·obtain⟨j,bh⟩:=hD.AU x ak ao;exact⟨_,Ie Oe bh,λq=>absurd q ao⟩
  refine aB λae=>?_;obtain⟨bk,a6,lE,_,_⟩:=P.most aT;obtain⟨sp,s1,_⟩:=P.eK;subst lP;obtain⟨a1,a2⟩:=lE 0 (env 0) aa;have aZ:tH bk a6 (env 0) (e2 bq):=by
   refine fits_of (e2 bq).size (bx _) (P.dup.1 _ b9) a1 a2.symm hD.dup hD.ew hD.nZ λp hp=>?_;obtain⟨x,ak,rfl⟩:=hp;obtain⟨y,h1,h2⟩:=hw x ak;refine⟨y,h1,λh3=>?_⟩;by_cases ao:x.2=.num
   ·exact h2 ao
   ·obtain⟨j,bh⟩:=hD.AU x ak ao;replace h3:=bh ▸ h3;cases h3
  refine ae ?_;rw[EM];exact Nj ⟨_,aa⟩ aZ (s1 _ b9) aX.g8
theorem YY(C:Case bq ls bs):Defs 61 100 [x4 bq ls bs]:=by
 refine⟨hV.mpr ⟨List.not_mem_nil,mr⟩,by show 1<=30;decide,λi D hD=>?_⟩;obtain⟨rfl,rfl⟩:=zG hD;exact Kl C
theorem YX(C:Case bq ls bs):Defs 61 100 [x4 bq ls bs,Gi bq ls]:=by
 refine⟨hV.mpr ⟨?_,hV.mpr ⟨List.not_mem_nil,mr⟩⟩,by show 2<=30;decide,λi D hD=>?_⟩
 ·intro h;exact absurd (show Str.ofString "f" = Str.ofString "g" from(bN.mp h)) (by decide +kernel)
 ·rcases CE hD with ⟨rfl,rfl⟩|⟨rfl,rfl⟩
  ·exact Kl C
  ·exact TM C
end
theorem vi{d:Nat}{zs:List Int}{σ:aN}{k:Int}(h:σ[0]? =I (.list (zs.map .int)))(ar:0<=k):Wp σ (bc (d+1) "_law_cell" [.ref 0,.int k]) (λr ag=>ag=σ/\(∃c,eH (r=.int c) (0<=c) (c<2147483647))):=by
 rw[adX];refine al (oC h) (al aa (al aa (tg (λe=>?_) λaf=>bZ ⟨aa,0,aa,by decide,by decide⟩)));have hl:k<((zs.map V.int).length:Nat):=vL e;replace hl:=(bC ..) ▸ hl;have ak:(zs.map V.int)[k.toNat]? =I (.int (zs[k.toNat]'(wd ar hl))):=by
  rw[e6,cD (wd ar hl)];rfl
 exact al (ir h ar ak) (al (JV (by decide)) (al (mC (by decide)) (bZ ⟨aa,_,aa,qu _ (by decide),qv _ (by decide)⟩)))
def ac3(cs:List Nat):Prop:=∀c∈cs,97<=c/\c<123
noncomputable def cF(cs:List Nat)(k:Nat)(z:Int)(j:Nat):Str:=⟨(cs.take k++(97+((z+3*(j:Int)) % 26).toNat)::cs.drop k).toArray⟩
theorem Uw(x:Int):97<=97+(x % 26).toNat/\97+(x % 26).toNat<123:=⟨ha _ _,Nat.add_lt_add_left ((HQ (qu _ (by decide))).mpr (qv _ (by decide))) 97⟩
theorem FJ:∀(cs:List Nat) (acc:Array Nat),(cs.map fF).foldl (λacc p=>acc++(Str.ofString "").cps++p.cps) acc=acc++cs.toArray:=by
 intro cO
 induction cO with
 |nil=>
  intro acc;simp
 |cons c cs FJ=>
  intro acc;rw[ea,List.foldl_cons,FJ];show acc ++ #[] ++ #[c]++cs.toArray=acc++(c::cs).toArray;simp
theorem MG:∀cs:List Nat,Txt.join (Str.ofString "") (cs.map fF)=⟨cs.toArray⟩:=by
 intro cO
 induction cO with
 |nil=>exact aa
 |cons c cs MG=>
  refine(?_:(⟨((c::cs).map fF |>.drop 1).foldl (λacc p=>acc++(Str.ofString "").cps++p.cps) (fF c).cps⟩:Str)=_);rw[ea,List.drop_one,List.tail_cons,FJ];refine(?_:(⟨#[c]++cs.toArray⟩:Str)=_);simp
theorem Ta{C:Cfg}{nm:Str}{σ:aN}{n:Nat}{cs:List Nat}(h:σ[n]? =I (.list (cs.map λc=>V.str (fF c))))(hl:cs.length<=100):runM C nm .join (.str "") [.ref n] σ=.ok (.str ⟨cs.toArray⟩) σ:=by
 have e:allStrs (cs.map λc=>V.str (fF c))=I (cs.map fF):=by
  rw[show(cs.map λc=>V.str (fF c))=(cs.map fF).map V.str from(gw ..).symm,Bg]
 refine(a4 (jn h)).trans ((a4 (a:=cs.map fF) (ag:=σ) (by rw[e];rfl)).trans ?_);have h1:((cs.map fF).map (·.length)).sum=cs.length:=by
  rw[gw];clear h hl e
  induction cs with
  |nil=>rfl
  |cons c cs aj=>rw[ea,List.sum_cons,aj,pe];exact show 1+_=_ from iF (cp 0x212008108020 aa) (cp 0x810802120020 aa)
 rw[aK (by rw[h1,(by decide +kernel:(Str.ofString "").length=0)];exact bF 0x1000000F84A01900100C9E09021 aa hl),MG];rfl
theorem sign_is(aE:0<=k)(h1:k<26):item (.str "abcdefghijklmnopqrstuvwxyz") (.int k) σ=.ok (.str (fF (97+k.toNat))) σ:=by
 refine(?_:bD ((place k (Str.ofString "abcdefghijklmnopqrstuvwxyz").length).bind λj=>((Str.ofString "abcdefghijklmnopqrstuvwxyz").cps[j]?).map λc=>V.str (fF c)) σ=_);rw[DJ aE (by rw[(by decide +kernel:(Str.ofString "abcdefghijklmnopqrstuvwxyz").length=26)];exact h1)];refine(?_:bD (((Str.ofString "abcdefghijklmnopqrstuvwxyz").cps[k.toNat]?).map λc=>V.str (fF c)) σ=_);rw[(by decide +kernel:∀j:Fin 26,(Str.ofString "abcdefghijklmnopqrstuvwxyz").cps[j.val]? =I (97+j.val)) ⟨k.toNat,wd (n:=26) aE h1⟩];rfl
theorem Y3{α:Type}{l:List α}{k:Int}(aE:0<=k)(h1:k<=l.length):cut l U (I k)=l.take k.toNat:=by
 unfold cut;refine(?_:(l.drop 0).take (clipAt l.length k-0)=_);rw[show clipAt l.length k=k.toNat by exact NJ aE h1];rfl
theorem Ny{α:Type}{l:List α}{k:Int}(aE:0<=k)(h1:k<=l.length):cut l (I k) U=l.drop k.toNat:=by
 unfold cut;refine(?_:(l.drop (clipAt l.length k)).take (l.length-clipAt l.length k)=_);rw[show clipAt l.length k=k.toNat by exact NJ aE h1,afk (by rw[HK];exact bx _)]
theorem UL{cs:List Nat}{k z:Int}{j:Nat}(aE:0<=k)(h1:k<=cs.length)(dH:cs.length<=6){σ:aN}{f:V->M (bE×Loc)}{Q:bE×Loc->aN->Prop}(q:Wp σ (f (.str (cF cs k.toNat z j))) Q) :
  Wp σ (bound V.none>>=λi=>bound (V.int k)>>=λfs=>j7 i fs (.str ⟨cs.toArray⟩)>>=λt=>binop .Add t (.str (fF (97+((z+3*(j:Int)) % 26).toNat)))>>=λeu=>bound (V.int k)>>=λi=>bound V.none>>=λfs=>j7 i fs (.str ⟨cs.toArray⟩)>>=λu=>binop .Add eu u>>=f) Q:=by
 have av:oV ⟨cs.toArray⟩ U (I k)=⟨(cs.take k.toNat).toArray⟩:=by unfold oV;rw[Y3 aE h1]
 have ay:oV ⟨cs.toArray⟩ (I k) U=⟨(cs.drop k.toNat).toArray⟩:=by unfold oV;rw[Ny aE h1]
 have add:∀(x y:List Nat),x.length+y.length<=100->binop .Add (.str ⟨x.toArray⟩) (.str ⟨y.toArray⟩) σ=.ok (.str ⟨(x++y).toArray⟩) σ:=λx y h=>by
  refine(?_:(if x.toArray.size+y.toArray.size<=sizeLine then pure (V.str (⟨x.toArray⟩++⟨y.toArray⟩)) else M.bad:M V) σ=_);rw[aK (by rw[List.size_toArray,List.size_toArray];exact cb 0x43140100C9E098A00849000000F8422 aa (aa:(16777216:Nat)=sizeLine) h)];refine(?_:Res.ok (V.str ⟨x.toArray++y.toArray⟩) σ=_);simp
 refine al aa (al aa (al (a:=.str ⟨(cs.take k.toNat).toArray⟩) (by rw[<-av];rfl) (al (add _ [_] (b0 (qn (b0 (afw _ _) dH)) (by decide))) (al aa (al aa (al (a:=.str ⟨(cs.drop k.toNat).toArray⟩) (by rw[<-ay];rfl) (al (add _ _ (by rw[dp,HK];exact b0 (B3 (qn (b0 (afw _ _) dH)) (b0 (BZ _ _) dH)) (by decide))) ?_)))))));rw[pg];exact q
structure Hd(ls:List Str):Prop where
 four:ls.length=4
theorem UK{d:Nat}{σ:aN}{c:Int}:Wp σ (bc (d+1) "_law_labels" [.int c,.int 4]) (λr ag=>gQ σ ag/\(c8 λ(n:Nat) (ls:List Str)=>hA (r=.ref n) (σ.length<=n) (ag[n]? =I (.list (ls.map V.str))) (Hd ls))):=by
 rw[adC];have cV:0<=c % 7/\c % 7<7:=⟨qu _ (by decide),qv _ (by decide)⟩;have MA:(16777216:Nat)=sizeLine:=rfl;refine al (mC (by decide)) (al (qL (by decide)) (al aa ?_));generalize c % 7=size at cV;refine al (mC ⟨afI cV.1,yO (P4 cV.2 1) (by decide)⟩) (al (qL (by decide)) (al (mC (by decide)) (al aa (al (qJ ⟨ph (by decide) cV.1,ph (vW cV.2) (by decide)⟩) ?_))));have df:0<=c / 7 % (size+1)/\c / 7 % (size+1)<=size:=by
  have hp:0<size+1:=afI cV.1;exact⟨qu _ (P1 hp),Int.lt_add_one_iff.mp (qv _ hp)⟩
 generalize c / 7 % (size+1)=k at df;generalize c / 49 % 26=zd;refine ru (J:=λaf=>True) aa mx adF (adG ..) (by rw[oB];exact b0 (k7 (CH (k:=7) cV)) (by decide)) (λi acc loc τ=>τ=σ/\((∃o,loc=[U,o,I (.int c),I (.str "abcdefghijklmnopqrstuvwxyz"),I (.int zd)]))/\(∃cs,eH (acc=cs.map (λc=>V.str (fF c))) (cs.length=i) (ac3 cs))) (λaf aJ b3 eW nd=>aL) ⟨aa,⟨_,aa⟩,[],aa,aa,λaf h=>nomatch h⟩ (λi v acc loc τ aM hp=>?_) λout loc τ hp=>?_
 ·obtain⟨rfl,⟨o,rfl⟩,cs,rfl,hlen,LX⟩:=hp;obtain⟨rfl,aI⟩:=r4 aM;rw[adI];refine bZ ?_;rw[adE];refine bZ ?_;rw[aK aa,adH];have hm:0<=(zd+c / 1274*(i:Int)) % 26/\(zd+c / 1274*(i:Int)) % 26<26:=⟨qu _ (by decide),qv _ (by decide)⟩;refine al (qL (by decide)) (al (JV ⟨yO (by decide) (i6 i),B8 aI (B8 cV.2 (by decide))⟩) (al aa (al (mC (by decide)) (al (sign_is hm.1 hm.2) (bZ ⟨aa,⟨_,aa⟩,cs++[_],by rw[dY];rfl,by rw[dp,hlen];rfl,λx ak=>?_⟩)))));rcases gb.mp ak with ak|ak
  ·exact LX x ak
  ·rw[bN.mp ak];exact Uw _
 ·obtain⟨rfl,_,cs,rfl,hlen,LX⟩:=hp;replace hlen:=oB ▸ hlen;refine al (Ta cP (by rw[hlen];exact b0 (k7 (CH (k:=7) cV)) (by decide))) (al aa (al (qJ (by decide)) ?_));have hle:gQ τ (τ++[O.list (cs.map λc=>V.str (fF c))]++[O.list []]):=ct.push.new;have lO:(τ++[O.list (cs.map λc=>V.str (fF c))]++[O.list []])[(τ++[O.list (cs.map λc=>V.str (fF c))]).length]? =I (.list []):=cP;have aZ:τ.length<(τ++[O.list (cs.map λc=>V.str (fF c))]).length:=by simp
  generalize (τ++[O.list (cs.map λc=>V.str (fF c))]).length=f at lO aZ;generalize τ++[O.list (cs.map λc=>V.str (fF c))]++[O.list []]=bH at lO hle;refine jz (J:=λaf=>True) aa mx (λi loc eA=>gQ τ eA/\((c8 λbS cn=>loc=[I (.int c),I (.int 4),I (.str "abcdefghijklmnopqrstuvwxyz"),I (.int size),I (.int k),I (.int zd),bS,I (.str ⟨cs.toArray⟩),I (.ref f),cn,U])) /\
   eA[f]? =I (.list (((List.range i).map (cF cs k.toNat (c / 49))).map V.str))) (λaf aJ b3 eW=>aL) ⟨hle,⟨_,_,aa⟩,lO⟩ (λi v loc eA aM hp=>?_) λloc eA hp=>?_
  ·obtain⟨hle,⟨bS,cn,rfl⟩,hl⟩:=hp;obtain⟨rfl,aI⟩:=r4 aM;rw[adD];have hm:0<=(c / 49+3*(i:Int)) % 26/\(c / 49+3*(i:Int)) % 26<26:=⟨qu _ (by decide),qv _ (by decide)⟩;refine al (qL (by decide)) (al (S8 (by decide)) (al aa (al (mC (by decide)) (al (sign_is hm.1 hm.2) (al (ly hl aa) (UL df.1 (by rw[hlen,afE cV.1];exact df.2) (by rw[hlen];exact afe (CH (k:=7) cV)) (al (oD hl (by exact bF 0x1421004010142120021 aa aZ) (by rw[bC,bC,tO];exact afb (kQ (n:=4) aI) (by decide))) (bZ ⟨hle.jJ (k7 aZ),⟨_,_,aa⟩,?_⟩))))))));rw[afq,dY,dY];exact fV hl
  ·obtain⟨hle,⟨bS,cn,rfl⟩,hl⟩:=hp;rw[adJ];replace hl:=oB ▸ hl;exact bZ ⟨hle,f,_,aa,k7 aZ,hl,⟨by rw[bC,tO];rfl⟩⟩
theorem M5:∀x y:List Str,PyData.eqvAll (x.map PyData.str) (y.map PyData.str)=decide (x=y)
 |[],[]=>rfl
 |[],b::y=>rfl
 |a::x,[]=>rfl
 |a::x,b::y=>by
  refine(?_:((a==b)&&PyData.eqvAll (x.map PyData.str) (y.map PyData.str))=_);rw[M5 x y];by_cases h:a=b
  ·subst h;rw[k6,Bool.true_and];exact decide_eq_decide.mpr ⟨λh=>by rw[h],λh=>(kz h).2⟩
  ·rw[rG.mpr h,Bool.false_and];exact(jf λq=>h (kz q).1).symm
theorem Gg:∀x:List Str,PyData.depthAll (x.map PyData.str)<=1:=by
 intro cO
 induction cO with
 |nil=>
  refine(?_:PyData.depthAll []<=1);exact eV _
 |cons a x Gg=>
  have:=Gg;refine(?_:PyData.depthAll (PyData.str a::x.map PyData.str)<=1);unfold PyData.depthAll;have h:(PyData.str a).depth<=1:=by unfold PyData.depth;decide
  assumption
section
variable {n m k:Nat}{x y:List Str}
theorem CG(h:σ[n]? =I (.list (x.map V.str))):ip σ (k+1) n=I (.list (x.map PyData.str)):=by rw[pn h,y6];rfl
theorem Iz(h:σ[n]? =I (.list (x.map V.str)))(h':σ[m]? =I (.list (y.map V.str))):ej σ (.ref n) (.ref m)=I (decide (x=y)):=by
 unfold ej;rw[show toPy σ (.ref n)=_ from CG (k:=3) h,show toPy σ (.ref m)=_ from CG (k:=3) h'];refine(?_:(if min (PyData.list (x.map PyData.str)).depth (PyData.list (y.map PyData.str)).depth<=200 then I (PyData.eqv (.list (x.map .str)) (.list (y.map .str))) else U)=_);rw[aK (b0 (HD _ _) (by unfold PyData.depth;have:=Gg x;exact cp 0x191E084240040109021 aa this))];refine(?_:I (PyData.eqvAll (x.map .str) (y.map .str))=_);rw[M5]
def jC(σ:aN)(ns:List Nat)(ps:List (List Str)):Prop:=ns.length=ps.length/\∀(i n:Nat) (p:List Str),ns[i]? =I n->ps[i]? =I p->σ[n]? =I (.list (p.map V.str))
theorem jC.le{ns:List Nat}{ps:List (List Str)}(h:jC σ ns ps)(l:∀n∈ns,∀o,σ[n]? =I o->ag[n]? =I o):jC ag ns ps:=⟨h.1,λi n p h1 h2=>l n (ee h1) _ (h.2 i n p h1 h2)⟩
theorem jC.snoc(h:jC σ ns ps)(hp:σ[n]? =I (.list (p.map V.str))):jC σ (ns++[n]) (ps++[p]):=by
 refine⟨by rw[dp,dp,h.1];rfl,λi Ua e8 h1 h2=>?_⟩;rcases i4 i ns.length with aI|aI
 ·replace h1:=pf aI ▸ h1;rw[pf (by rw[<-h.1];exact aI)]at h2;exact h.2 i Ua e8 h1 h2
 ·replace h1:=j0 aI ▸ h1;rw[j0 (by rw[<-h.1];exact aI),<-h.1]at h2;obtain⟨rfl,e⟩:=zG h1;replace h2:=e ▸ h2;cases h2;exact hp
theorem jC.tail(h:jC σ (a::ns) (q::ps)):σ[a]? =I (.list (q.map V.str))/\jC σ ns ps:=⟨h.2 0 a q aa aa,yF h.1,λi n p h1 h2=>h.2 (i+1) n p h1 h2⟩
theorem QX(h:jC σ ns ps)(e:σ[n]? =I (.list (ns.map V.ref)))(aG:σ[m]? =I (.list [])):ej σ (.ref n) (.ref m)=I ns.isEmpty:=by
 have hp:∀{ns:List Nat}{ps:List (List Str)},jC σ ns ps->gS (ip σ 3) (ns.map V.ref)=I (ps.map λp=>PyData.list (p.map PyData.str)):=by
  intro ns
  induction ns with
  |nil=>intro ps h;induction ps with
   |nil=>rfl
   |cons _ _=>cases h.1
  |cons a ns aj=>
   intro ps h
   induction ps with
   |nil=>cases h.1
   |cons q ps=>
    obtain⟨h1,h2⟩:=h.tail;refine(?_:(match ip σ 3 a,gS (ip σ 3) (ns.map V.ref) with|some d,some ds=>I (d::ds)|_,_=>U)=_);rw[aj h2,CG (k:=2) h1];rfl
 unfold ej;rw[show toPy σ (.ref n)=_ from pn (k:=3) e,show toPy σ (.ref m)=_ from pn (k:=3) aG,hp h]
 induction ns with
 |nil=>
  induction ps with
  |nil=>rfl
  |cons _ _=>cases h.1
 |cons a ns=>
  induction ps with
  |nil=>cases h.1
  |cons q ps=>
   refine(?_:(if min (PyData.list (PyData.list (q.map .str)::ps.map λp=>PyData.list (p.map PyData.str))).depth (PyData.list []).depth<=200 then I (PyData.eqv (.list (PyData.list (q.map .str)::ps.map λp=>PyData.list (p.map PyData.str))) (.list [])) else U)=_);rw[aK (b0 (B2 _ _) (by decide +kernel))];rfl
theorem Gn{α:Type}{l:List α}{k:Nat}:cut l U (I (k:Int))=l.take k:=by
 unfold cut;refine(?_:(l.drop 0).take (clipAt l.length (k:Int)-0)=_);rw[HO,vM];have aA:∀m:Nat,(max 0 (m:Int)).toNat=m:=λm=>by rw[HS (i6 _),Int.toNat_natCast]
 have e:clipAt l.length (k:Int)=(max 0 (min (k:Int) (l.length:Int))).toNat:=by unfold clipAt;rw[aR (qt.mpr (i6 k))]
 rw[e];rcases PD k l.length with h|h
 ·rw[HR (tP.mpr h),aA]
 ·rw[Int.min_eq_right (tP.mpr h),aA,iG,afk h]
theorem Tt{c:Int}{many nl:Nat}{ls:List Str}(hl:σ[nl]? =I (.list (ls.map V.str)))(bY:Hd ls)(hm:many<=5):Wp σ (bc (d+1) "_law_path" [.int c,.int many,.ref nl]) λr ag=>gQ σ ag/\(c8 λ(n:Nat) (p:List Str)=>hA (r=.ref n) (σ.length<=n) (ag[n]? =I (.list (p.map V.str))) (p.length=many)):=by
 rw[adp];have hq:=cE hl;refine al (m:=cH _) aa (al (qJ ⟨by exact wC,by exact wB ‹_› (by decide)⟩) (jz (l:=i9 0 many) (J:=λaf=>True) aa mx (λi loc ag=>gQ σ ag/\(jE λ(c:Int) (p:List Str) (o:Option V)=>eH (loc=[I (.int c),I (.int many),I (.ref nl),I (.ref σ.length),o,U]) (ag[σ.length]? =I (.list (p.map V.str))) (p.length=i))) (λaf aJ b3 eW=>aL) ⟨ct.push,c,[],_,aa,cP,aa⟩ ?_ ?_))
 ·rintro i v loc ag aM ⟨le,c,p,o,rfl,e,hp⟩;obtain⟨rfl,aI⟩:=r4 aM;rw[adq];have aA:0<=c % 4/\c % 4<4:=⟨qu _ (by decide),qv _ (by decide)⟩;have ak:(∃s,(ls.map V.str)[(c % 4).toNat]? =I (.str s)):=by
   have fu:(c % 4).toNat<ls.length:=by rw[bY.four];exact wd (n:=4) aA.1 aA.2
   exact⟨_,by rw[e6,cD fu];rfl⟩
  obtain⟨s,az⟩:=ak;refine al (ly e aa) (al (mC (by decide)) (al (ir (ct.at le hl) aA.1 az) (al (oD e (by exact bF 0x1421004010142120021 aa hq) (by rw[bC,hp];exact afb (kQ aI) (i5 hm (by decide)))) (al (qL (by decide)) (bZ ⟨le.jJ (bx _),_,p++[s],_,aa,?_,by rw[dp,hp];rfl⟩)))));rw[dY];exact fV e
 ·rintro loc ag ⟨le,c,p,o,rfl,e,hp⟩;rw[oB,Int.toNat_natCast]at hp;rw[adr];exact bZ ⟨le,_,p,aa,bx _,e,hp⟩
structure vv(ps:List (List Str)):Prop where
 free:ps.Pairwise λa b=>¬jT a b/\¬jT b a
 len:∀p∈ps,1<=p.length/\p.length<=5
theorem Ts{zs:List Int}{nl:Nat}{ls:List Str}(aE:σ[0]? =I (.list (zs.map .int)))(hl:σ[nl]? =I (.list (ls.map V.str)))(bY:Hd ls):Wp σ (bc (d+2) "_law_paths" [.ref 0,.ref nl]) λr ag=>gQ σ ag/\(jE λ(fp:Nat) (ns:List Nat) (ps:List (List Str))=>yy (r=.ref fp) (σ.length<=fp) (ag[fp]? =I (.list (ns.map V.ref))) (jC ag ns ps) (vv ps) (1<=ps.length) (ps.length<=6)):=by
 rw[adg];have fY:sizeLine=16777216:=rfl;refine al (m:=cH _) aa (Wp.step (vi (d:=d) (cB aE) (by decide)) ?_);intro k9 af1 dh;refine aB λae=>?_;obtain⟨rfl,A8,rfl,cI,c4⟩:=dh;have hm:0<=A8 % 6/\A8 % 6<6:=⟨qu _ (by decide),qv _ (by decide)⟩;refine ae (al (mC (by decide)) (al (m:=binop _ _ _) (a:=.int (1+A8 % 6)) aa (al (qJ (YH (k:=6) hm (by decide))) ?_)));generalize cg:1+A8 % 6=N;refine L6 (λi loc ag=>gQ σ ag/\(vG λ(ns:List Nat) (ps:List (List Str)) (bS:Option V) (cn:Option V) (eQ:Option V)=>yy (loc=[I (.ref 0),I (.ref nl),I (.ref σ.length),bS,cn,eQ,U,U,U]) (ag[σ.length]? =I (.list (ns.map V.ref))) ((∀n∈ns,σ.length<n/\n<ag.length)) (jC ag ns ps) (vv ps) ((1<=i->1<=ps.length)) (ps.length<=i))) λba op cl=>?_;refine jz (l:=i9 0 N) (J:=λaf=>True) aa mx ba (λaf aJ b3 eW=>aL)
  (cl ⟨ct.push,[],[],_,_,_,aa,cP,nofun,⟨aa,nofun⟩,⟨List.Pairwise.nil,nofun⟩,λh=>absurd h (by decide),bx _⟩) ?_ ?_
 ·intro i v loc cJ aM aH;replace aH:=op aH;obtain⟨le,ns,ps,bS,cn,eQ,rfl,hN,nQ,hL,jb,h1,dH⟩:=aH;obtain⟨rfl,aI⟩:=r4 aM;rw[adh];refine al (m:=binop _ _ _) (a:=.int (3+(i:Int))) aa (Wp.step (vi (d:=d) (ct.at le aE) (P2 (by decide) (i6 i))) ?_);intro k9 cJ dh;refine aB λae=>?_;obtain⟨rfl,x7,rfl,cI,c4⟩:=dh;have E6:0<=x7 % 5/\x7 % 5<5:=⟨qu _ (by decide),qv _ (by decide)⟩;refine ae (al (qL (by decide)) (al (mC (by decide)) (al (m:=binop _ _ _) (a:=.int (1+x7 % 5)) aa ?_)));obtain⟨many,An,VP,LW⟩:(∃many:Nat,eH ((1+x7 % 5)=(many:Int)) (1<=many) (many<=5)):=⟨(1+x7 % 5).toNat,(xY (k:=5) E6).1,(xY (k:=5) E6).2.1,(xY (k:=5) E6).2.2⟩;rw[An];refine Wp.step (Tt (d:=d) (ct.at le hl) bY LW) ?_;intro k9 b6 dh;refine aB λae=>?_;obtain⟨cM,np,p,rfl,LR,dI,EU⟩:=dh;have s4:=ct.at cM hN;have FA:=hL.le λn af o e=>ct.at cM e;have ago:=cE dI;have lf:=cE hN;have bad:∀q:List Str,(decide (q.take p.length=p) || decide (p.take q.length=q))=true↔jT p q\/jT q p:=λq=>by
   rw[afT,decide_eq_true_iff,decide_eq_true_iff];rfl
  have hq:ns.length=ps.length:=hL.1;have LO:ps.length<=6:=b0 dH (YI (k:=6) hm cg aI);refine ae (L7 (λj acc loc ag=>gQ b6 ag/\(jE λ(as:List Nat) (bq:List (List Str)) (o:Option V)=>mn (acc=as.map V.ref) (loc=[U,o,U,I (.ref np)]) ((∀n∈as,n∈ns)) (jC b6 as bq) ((as=[]->∀q∈ps.take j,¬jT p q/\¬jT q p)))) λad1 DM Gp=>?_);refine al (nw s4) (ru (l:=ns.map V.ref) (J:=λτ=>ct [] b6 τ) aa (nf λτ h=>ct.at h s4) adj (adk ..) (by rw[bC];exact cb 0x10A101826084C508A000001F09023 aa fY hq LO)
   ad1 (λaf aJ b3 eW h=>(DM h).1) (Gp ⟨.refl,[],[],_,aa,aa,nofun,⟨aa,nofun⟩,λaf q aH=>nomatch aH⟩) ?_ ?_)
  ·intro j u acc loc dq aY aH;replace aH:=DM aH;obtain⟨dW,as,bq,o,rfl,rfl,has,AE,Am⟩:=aH;rw[e6]at aY;obtain⟨n,ao,rfl⟩:=eU.mp aY;have bh:j<ps.length:=by have:=cE ao;exact fS this hq
   have aH:ps[j]? =I ps[j]:=cD bh;have AS:=ct.at dW (FA.2 j n _ ao aH);have F2:=ct.at dW dI;generalize ps[j]=q at aH AS;rw[adm];refine jR aa ?_;rw[adi];refine Wp.mono (Q:=λb ag=>b=(decide (q.take p.length=p) || decide (p.take q.length=q))/\gQ dq ag) ?_ λb iI a8=>?_
   ·refine al (oC F2) (al (m:=bound _) aa (al (m:=bound _) aa (al (wI AS) ?_)));rw[bC,Gn,<-aft];refine al (r6 (Iz cP (cB F2))) (al (m:=truth _) aa ?_)
    induction hd:decide (q.take p.length=p) with
    |true=>exact gD aa (bZ ⟨aa,ct.push⟩)
    |false=>
     refine d3 aa (al (oC (cB AS)) (al (m:=bound _) aa (al (m:=bound _) aa (al (wI (cB F2)) ?_))));rw[bC,Gn,<-aft];refine al (r6 (Iz cP (cB (cB AS)))) (al (m:=truth _) aa ?_)
     induction sO:decide (p.take q.length=q) with
     |true=>exact gD aa (bZ ⟨aa,ct.push.new⟩)
     |false=>exact d3 aa (bZ ⟨aa,ct.push.new⟩)
   ·obtain⟨au,d1⟩:=a8
    induction b using Bool.casesOn with
    |true=>
     rw[aK aa,adl];refine bZ (Gp ⟨dW.trans d1,as++[n],bq++[q],_,by rw[dY];rfl,aa,λm hm=>?_,AE.snoc (FA.2 j n q ao aH),λh=>by simp at h⟩);rcases gb.mp hm with hm|hm
     ·exact has m hm
     ·rw[bN.mp hm];exact ee ao
    |false=>
     refine Gp ⟨dW.trans d1,as,bq,_,aa,aa,has,AE,λh dU gY=>?_⟩;rw[jg,aH]at gY;rcases gb.mp gY with gY|gY
     ·exact Am h dU gY
     ·have e:dU=q:=bN.mp gY;subst e;have:¬(jT p dU\/jT dU p):=λh=>by rw[<-bad,<-au]at h;exact fw h
      exact⟨λh=>this (.inl h),λh=>this (.inr h)⟩
  ·intro out loc dq aH;replace aH:=DM aH;obtain⟨dW,as,bq,o,rfl,rfl,has,AE,Am⟩:=aH;rw[bC,hq,iG]at Am;have sk:gQ b6 (dq++[.list (as.map V.ref)]++[.list []]):=dW.new.new;refine al (m:=cH _) aa (al (r6 (QX (AE.le λn af o e=>ct.at sk e) (cB cP) cP)) (al (m:=truth _) aa ?_));have x1:=ct.at sk s4;have Ed:gQ σ (dq++[.list (as.map V.ref)]++[.list []]):=(le.trans cM).trans sk;have F1:=ct.at sk dI;have Fz:=FA.le λn af o e=>ct.at sk e;generalize (dq++[O.list (as.map V.ref)]++[O.list []]:aN)=iI at x1 Ed F1 Fz sk ⊢;have K4:∀{n:Nat}{o:O},cJ[n]? =I o->n<iI.length:=λe=>cE (ct.at sk (ct.at cM e))
   induction Mm:as using List.casesOn with
   |nil=>
    refine gD aa (al (ly x1 aa) (al (oD x1 (cE aE:0<σ.length) (by rw[bC];exact cb 0x810940101826084C508A000001F09023 aa fY hq LO)) (bZ (cl ⟨Ed.jJ (bx _),ns++[np],ps++[p],_,_,_,aa,by rw[dY];exact fV x1,λn ao=>?_,jC.snoc (Fz.le λn ao o e=>ef (by have:=(nQ n ao).1;exact gv this) e) (ef (by exact λq=>er (cb 0x8421014C1190213002129021 aa LR lf q)) F1),⟨?_,λq aH=>?_⟩,λaf=>by rw[dp];exact qp 1 _,by rw[dp];exact qn dH⟩))))
    ·rw[lF];refine aB λae=>?_;rcases gb.mp ao with ao|ao
     ·obtain⟨j,bh,e⟩:=m8.mp ao;exact ae ⟨(nQ n ao).1,K4 (hL.2 j n _ (by rw[<-e];exact cD bh) (cD (by exact fS bh hq):ps[j]? =I (ps[j]'(by exact fS bh hq))))⟩
     ·refine ae ?_;rw[bN.mp ao];exact⟨by exact d4 lf LR,cE F1⟩
    ·rw[PK];refine⟨jb.free,PJ _ _,λa aV b au=>?_⟩;rw[bN.mp au];exact(Am Mm a aV).symm
    ·rcases gb.mp aH with aH|aH
     ·exact jb.len q aH
     ·rw[bN.mp aH,EU];exact⟨VP,LW⟩
   |cons a as'=>
    refine d3 aa (bZ (cl ⟨Ed,ns,ps,_,_,_,aa,x1,λn ao=>?_,Fz,jb,λaf=>?_,by exact bF 0x4250102029021 aa dH⟩))
    ·obtain⟨j,bh,e⟩:=m8.mp ao;exact⟨(nQ n ao).1,K4 (hL.2 j n _ (by rw[<-e];exact cD bh) (cD (by exact fS bh hq):ps[j]? =I (ps[j]'(by exact fS bh hq))))⟩
    ·have hm:=has a (by rw[Mm];exact b9)
     induction ns using List.casesOn with
     |nil=>cases hm
     |cons _ _=>rw[<-hq];exact qn (eV _)
 ·intro loc cJ aH;replace aH:=op aH;obtain⟨le,ns,ps,bS,cn,eQ,rfl,hN,nQ,hL,jb,h1,dH⟩:=aH;rw[oB]at h1 dH;rw[adn];exact bZ ⟨le,_,ns,ps,aa,bx _,hN,hL,jb,h1 (cg ▸ (xY (k:=6) hm).2.1),b0 dH (cg ▸ (xY (k:=6) hm).2.2)⟩
end
mutual
noncomputable def iX(σ:aN):T->V->(Nat->Prop)->Prop
 |.num,v,_=>v=.str "number"
 |.var _,v,_=>v=.str "any"
 |.aQ r,v,A=>(oj λ(k:Nat) (cX:Nat) (tab:Tab) (ls:List Str)=>v=.ref k/\A k/\0<k/\σ[k]? =I (.dict cX tab)/\tab.map (·.1)=ls.map Sum.inr/\fg ls=r.fl.map (·.1)/\jA σ r tab λa=>A a/\a≠k)
noncomputable def jA(σ:aN):R->Tab->(Nat->Prop)->Prop
 |.nil,_,_=>True
 |.b5 _,_,_=>True
 |.fld l t r,tab,A=>(jE λ(v:V) (e5:Nat->Prop) (ku:Nat->Prop)=>mn (dF tab (.inr l)=I v) ((∀a,e5 a->A a/\¬ku a)) ((∀a,ku a->A a)) (iX σ t v e5) (jA σ r tab ku))
end
def vp(A:Nat->Prop)(σ ag:aN):Prop:=∀(a cX:Nat) (tab:Tab),A a->σ[a]? =I (.dict cX tab)->ag[a]? =I (.dict cX tab)
section
variable {A B N:Nat->Prop}{l:Str}{t:T}{r:R}{tab I2:Tab}{v:V}
theorem CR:(∀t:T,∀{v:V}{A B:Nat->Prop},iX σ t v A->(∀a,A a->B a)->iX σ t v B)/\∀r:R,∀{tab:Tab}{A B:Nat->Prop},jA σ r tab A->(∀a,A a->B a)->jA σ r tab B:=by
 refine T.both (λh af=>h) (λn af aJ b3 h eW=>h) (λr aj af aJ b3 h au=>?_) (λaf aJ=>aL) (λn af aJ b3 eW nd=>aL) λl t r h1 h2 af aJ b3 h au=>?_
 ·obtain⟨k,cX,tab,ls,a,b,c,d,e,f,g⟩:=h;exact⟨k,cX,tab,ls,a,au _ b,c,d,e,f,aj g λa a8=>by obtain⟨h1,h2⟩:=a8;exact⟨au _ h1,h2⟩⟩
 ·obtain⟨v,e5,ku,a,b,c,d,e⟩:=h;exact⟨v,e5,ku,a,λx ak=>⟨au _ (b x ak).1,(b x ak).2⟩,λx ak=>au _ (c x ak),d,e⟩
theorem qF:(∀t:T,∀{v:V}{A:Nat->Prop},iX σ t v A->vp A σ ag->iX ag t v A)/\∀r:R,∀{tab:Tab}{A:Nat->Prop},jA σ r tab A->vp A σ ag->jA ag r tab A:=by
 refine T.both (λh af=>h) (λn af aJ h b3=>h) (λr aj af aJ h az=>?_) (λaf aJ=>aL) (λn af aJ b3 eW=>aL) λl t r h1 h2 af aJ h az=>?_
 ·obtain⟨k,cX,tab,ls,a,b,c,d,e,f,g⟩:=h;exact⟨k,cX,tab,ls,a,b,c,az _ _ _ b d,e,f,aj g λa v dj aV=>az a v dj aV.1⟩
 ·obtain⟨v,e5,ku,a,b,c,d,e⟩:=h;exact⟨v,e5,ku,a,b,c,h1 d λx v dj ak=>az x v dj (b x ak).1,h2 e λx v dj ak=>az x v dj (c x ak)⟩
theorem S1(h:jA σ r tab A)(aP:∀l,r.look l≠U->dF I2 (.inr l)=dF tab (.inr l)):jA σ r I2 A:=by
 induction r using R.ind generalizing A with
 |aE=>trivial
 |h1 n=>trivial
 |h2 m u r aj=>
  obtain⟨v,e5,ku,a,b,c,d,e⟩:=h;refine⟨v,e5,ku,?_,b,c,d,aj e λl hl=>aP l ?_⟩
  ·rw[aP m (by refine(?_:(if m=m then I u else r.look m)≠U);rw[aK aa];exact nofun)];exact a
  ·refine(?_:(if m=l then I u else r.look l)≠U);by_cases q:m=l
   ·rw[aK q];exact nofun
   ·rw[aR q];exact hl
theorem S0(h:jA σ r tab A)(hl:r.look l=I t0):(c8 λ(v:V) (e5:Nat->Prop)=>hA (dF tab (.inr l)=I v) ((∀a,e5 a->A a)) (iX σ t0 v e5) (∀(ag:aN) (eu:T) (N:Nat->Prop),vp (λa=>A a/\¬e5 a) σ ag->iX ag eu v (λa=>e5 a\/N a)->(∀a,N a->¬A a)->jA ag (r.upd l eu) tab λa=>A a\/N a)):=by
 induction r using R.ind generalizing A with
 |aE=>exact a5 hl
 |h1 n=>exact a5 hl
 |h2 m u r aj=>
  obtain⟨v,e5,ku,a,b,c,d,e⟩:=h;have hl:(if m=l then I u else r.look l)=I t0:=hl;by_cases q:m=l
  ·replace hl:=aK q ▸ hl;cases hl;subst q;refine⟨v,e5,a,λx ak=>(b x ak).1,d,λag eu N az aP ao=>?_⟩;rw[ni,aK aa];refine⟨v,λx=>e5 x\/N x,ku,a,λx ak=>?_,λx ak=>.inl (c x ak),aP,qF.2 r e λx cX dj ak=>az x cX dj ⟨c x ak,λh1=>(b x h1).2 ak⟩⟩;rcases ak with ak|ak
   ·exact⟨.inl (b x ak).1,(b x ak).2⟩
   ·exact⟨.inr ak,λh2=>ao x ak (c x h2)⟩
  ·replace hl:=aR q ▸ hl;obtain⟨v',aee,qb,cT,f3,w⟩:=aj e hl;refine⟨v',aee,qb,λx ak=>c x (cT x ak),f3,λag eu N az aP ao=>?_⟩;rw[ni,aR q];refine⟨v,e5,λx=>ku x\/N x,a,λx ak=>⟨.inl (b x ak).1,λh=>h.elim (b x ak).2 λh=>ao x h (b x ak).1⟩,λx ak=>ak.imp (c x) id,qF.1 u d λx cX dj ak=>az x cX dj ⟨(b x ak).1,λh1=>(b x ak).2 (cT x h1)⟩,?_⟩;exact w ag eu N (λx cX dj ak=>az x cX dj ⟨c x ak.1,ak.2⟩) aP λx ak h2=>ao x ak (c x h2)
theorem Gk(h:dF tab k=U):dF (tab++[(k,v)]) eo=if eo=k then I v else dF tab eo:=by
 rw[<-vd h];unfold dF kY;rw[aR (λaV=>by
  obtain⟨p,hp,e⟩:=HP.mp aV;have:=PT.mp (BY.mp h) p hp;exact this e),List.find?_append]
 by_cases e:eo=k
 ·subst e;rw[aK aa,BY.mp h,aeY,qs,show decide ((eo,v).1=eo)=aw from m6 aa];rfl
 ·rw[aR e];have:List.find? (λp=>decide (p.1=eo)) [(k,v)]=U:=by
   rw[qs,show decide ((k,v).1=eo)=aS from jf λq=>e q.symm];rfl
  rw[this,aeW]
theorem JQ(h:jA σ r tab A)(hl:r.look l=U)(hg:dF tab (.inr l)=U)(aP:iX σ t v N)(ao:∀a,N a->¬A a):jA σ (r.ins l t) (tab++[(.inr l,v)]) λa=>A a\/N a:=by
 have ES:dF (tab++[(.inr l,v)]) (.inr l)=I v:=by rw[Gk hg,aK aa]
 have ext:∀{r:R}{A:Nat->Prop},jA σ r tab A->r.look l=U->jA σ r (tab++[(.inr l,v)]) A:=λh hl=>S1 h λm hm=>by
  rw[Gk hg,aR (λq=>hm (by rw[yE q];exact hl))]
 induction r using R.ind generalizing A with
 |aE=>exact⟨v,N,λaf=>False,ES,λx ak=>⟨.inr ak,id⟩,nofun,aP,aL⟩
 |h1 n=>exact⟨v,N,λaf=>False,ES,λx ak=>⟨.inr ak,id⟩,nofun,aP,aL⟩
 |h2 m u r aj=>
  rw[R.kP];by_cases c:strLt m l=aw
  ·rw[aK c];obtain⟨w,e5,ku,a,b,fG,d,e⟩:=h;have hl:(if m=l then I u else r.look l)=U:=hl;by_cases q:m=l
   ·rw[aK q]at hl;exact fU hl
   rw[aR q]at hl;refine⟨w,e5,λx=>ku x\/N x,?_,λx ak=>⟨.inl (b x ak).1,λh=>h.elim (b x ak).2 λh=>ao x h (b x ak).1⟩,λx ak=>ak.imp (fG x) id,d,aj e hl λx ak h2=>ao x ak (fG x h2)⟩;rw[Gk hg,aR (λh=>q (yE h))];exact a
  ·rw[aR c];exact⟨v,N,A,ES,λx ak=>⟨.inr ak,ao x ak⟩,λx ak=>.inl ak,aP,ext h hl⟩
theorem UA(h:r.look l=U):l∉r.fl.map (·.1):=by
 induction r using R.ind with
 |aE=>exact List.not_mem_nil
 |h1 n=>exact List.not_mem_nil
 |h2 m u r aj=>
  have h:(if m=l then I u else r.look l)=U:=h;by_cases q:m=l
  ·replace h:=aK q ▸ h;exact fU h
  replace h:=aR q ▸ h;exact λhm=>(List.mem_cons.mp hm).elim (λe=>q e.symm) (aj h)
theorem Nu(ar:tab.map (·.1)=ls.map Sum.inr)(az:fg ls=r.fl.map (·.1))(hl:r.look l=U):dF tab (.inr l)=U:=by
 unfold dF;rw[BY,PT];intro p hp aH;have h1:p.1∈tab.map (·.1):=ez.mpr ⟨p,hp,aa⟩;rw[ar,(vL aH:p.1=.inr l)]at h1;obtain⟨m,hm,e⟩:=ez.mp h1;rw[yE e]at hm;have:=qV.mpr hm;rw[az]at this;exact UA hl this
theorem Xn:(r.upd l u).fl.map (·.1)=r.fl.map (·.1):=by
 induction r using R.ind with
 |aE=>rfl
 |h1 n=>rfl
 |h2 m w r aj=>
  rw[ni];by_cases q:m=l
  ·rw[aK q];rfl
  ·rw[aR q];exact ff (m :: ·) aj
theorem Jl:fg (ls++[l])=iM l (fg ls):=by
 show fg (ls++[l])=fg (l::ls);refine PY (le:=λa b=>strLt b a=aS) (λa b af aJ h1 h2=>zc h1 h2) t7 t7 (t8.trans (List.Perm.trans ?_ t8.symm));exact List.perm_append_comm
end
noncomputable def sj(t:T):V:=match t with
 |.num=>.str "number"
 |_=>.str "any"
section
theorem KD{α:Type}{l:List α}{x:α}:place (-1) (l++[x]).length=I l.length/\(l++[x])[l.length]? =I x:=by
 refine⟨?_,by rw[j0 (bx _),ky];rfl⟩;unfold place;rw[aR (by decide),dp];show(if 0<=-1+((l.length+1:Nat):Int) then I (-1+((l.length+1:Nat):Int)).toNat else U)=_;rw[aK (by lia)];congr 1;lia
theorem Y4{α:Type}{l:List α}{x:α}:cut (l++[x]) U (I (-1))=l:=by
 unfold cut;refine(?_:((l++[x]).drop 0).take (clipAt (l++[x]).length (-1)-0)=_);have:clipAt (l++[x]).length (-1)=l.length:=by
  unfold clipAt;rw[aK (by decide),dp];refine(?_:(max 0 (min (-1+((l.length+1:Nat):Int)) ((l.length+1:Nat):Int))).toNat=l.length);rw[show(-1+((l.length+1:Nat):Int))=(l.length:Int) by rw[Int.natCast_add,P5,afL];exact Int.add_zero _,HR (tP.mpr (gH _)),HS (i6 _),Int.toNat_natCast]
 rw[this,HO,vM,List.take_left]
def Focus(gc m9:aN)(dC:Nat)(lf:T)(p:List Str)(nx:R)(i:Nat)(here:V)(σ:aN):Prop:=
 (jE λ(k:Nat) (r:R) (A:Nat->Prop)=>Hv (here=.ref k) (r.size<=1000) (Ready (p.drop i) r) (iX σ (.aQ r) (.ref k) A) ((∀a,A a->gc.length<=a/\a<σ.length)) (gQ gc σ) ((∀(n:Nat) (l:List V),m9[n]? =I (.list l)->σ[n]? =I (.list l))) (gc.length<=σ.length) (∀(ag:aN) (N:Nat->Prop),σ.length<=ag.length->vp (λa=>a<σ.length/\¬A a) σ ag->(∀a,N a->σ.length<=a/\a<ag.length)->iX ag (.aQ (gr lf (p.drop i) r)) (.ref k) (λa=>A a\/N a) ->
   (∃hC,iX ag (.aQ (gr lf p nx)) (.ref dC) hC/\∀a,hC a->gc.length<=a/\a<ag.length)))
theorem Focus.step{gc m9:aN}{dC:Nat}{lf:T}{p:List Str}{nx:R}{i:Nat}{here:V}{l m:Str}{q:List Str}(F:Focus gc m9 dC lf p nx i here σ)(hp:p.drop i=l::m::q)(mM:p.drop (i+1)=m::q)(aE:0<gc.length){α:Type}{K:V->M α}{Q:α->aN->Prop}(next:∀{Aq ag},Focus gc m9 dC lf p nx (i+1) Aq ag->Wp ag (K Aq) Q) :
  Wp σ (c3 (d9 (aC d) here "setdefault")>>=λW6=>cH (.dict 0 [])>>=λRN=>runM (aC d) "setdefault" W6 here [.str l,RN]>>=K) Q:=by
 refine aB λae=>?_;obtain⟨k,r,A,rfl,oM,rf,aP,aT,le,keep,hlen,qB⟩:=F;rw[hp]at rf qB;obtain⟨eo,cX,tab,ls,av,ar,hH,fe,kS,nL,iR⟩:=id aP;refine ae ?_;cases av;have fN:=aT k ar;refine al (JS fe) (al (m:=cH _) aa ?_);have AV:=cB (o':=.dict 0 []) fe;have g0:(σ++[O.dict 0 []]:aN).length=σ.length+1:=by simp
 rcases rf with ao|⟨cR,hl,VD⟩
 ·
  have hg:=Nu kS nL ao;have uK:tab.length=ls.length:=by have:=ff List.length kS;rwa [bC,bC]at this
  have cV:tab.length<sizeLine:=by
   rw[uK,<-si,nL,bC];have:=KO r;have:sizeLine=16777216:=rfl;lia
  refine al (J1 (key:=.inr l) AV hH aa hg cV) ?_;rw[vd hg];have hz:((σ++[.dict 0 []]:aN).set k (.dict (cX+1) (tab++[(.inr l,.ref σ.length)])))[σ.length]? =I (.dict 0 []):=ef (by exact λq=>er (bF 0x8421014811942120021 aa fN.2 q)) cP;have jL:=fV (o':=.dict (cX+1) (tab++[(.inr l,.ref σ.length)])) AV;have kf:((σ++[.dict 0 []]:aN).set k (.dict (cX+1) (tab++[(.inr l,.ref σ.length)]))).length=σ.length+1:=by rw[lF,g0]
  have hold:∀{a:Nat}{o:O},σ[a]? =I o->a≠k->((σ++[.dict 0 []]:aN).set k (.dict (cX+1) (tab++[(.inr l,.ref σ.length)])))[a]? =I o:=λe h=>ef (λq=>h q.symm) (cB e);generalize ((σ++[.dict 0 []]:aN).set k (.dict (cX+1) (tab++[(.inr l,.ref σ.length)])):aN)=dq at hz jL kf hold ⊢;refine next ⟨σ.length,.b5 0,λa=>a=σ.length,aa,eV _,?_,⟨σ.length,0,[],[],aa,aa,by exact bF 0x1421004010142120021 aa fN.2,hz,aa,aa,aL⟩,λa aV=>⟨by lia,by lia⟩,λn o gg e=>hold (le n o gg e) (λq=>by have:=cE e;exact er (cb 0x842101021300212982329021 aa fN.1 q this)),λn l' e=>hold (keep n l' e) (λq=>by have:=keep n l' e;rw[q,fe]at this;cases this),by exact fq 0xE408021300E1198212802129021 aa fN.1 fN.2 kf,λag N fv az cg h'=>?_⟩
  ·rw[mM]
   induction q using List.casesOn with
   |nil=>exact aa
   |cons _ _=>exact .inl aa
  ·rw[mM]at h';have ins:gr lf (l::m::q) r=r.ins l (.aQ (gr lf (m::q) (.b5 0))):=by
    show(match r.look l with|some (.aQ cR)=>_|_=>_)=_;rw[ao]
   rw[ins]at qB;refine qB ag (λa=>a=σ.length\/N a) (by exact cb 0x18A1018810842501023 aa kf fv) (λa v dj a8 e=>by obtain⟨h1,h2⟩:=a8;exact az a v dj ⟨by exact cb 0x4084C0080A1098010842501023 aa kf h1,by exact gv ‹_›⟩ (hold e λq=>h2 (q ▸ ar))) (λa aV=>?_) ?_
   ·rcases aV with aV|aV
    ·exact⟨by exact bF 0x2142029023 aa aV,by exact fq 0xC109C01014E1118810842501023 aa kf fv aV⟩
    ·have:=cg a aV;exact⟨by exact cb 0x18A1018810842501023 aa kf this.1,by exact bF 0xA1090010142120021 aa this.2⟩
   ·refine⟨k,cX+1,tab++[(.inr l,.ref σ.length)],ls++[l],aa,.inl ar,hH,az k _ _ ⟨by exact cb 0x60848008021280C11942120021 aa fN.2 kf,by lia⟩ jL,by rw[dY,dY,kS];rfl,by rw[Jl,nL,FQ],?_⟩;have h1:jA ag r tab λa=>A a/\a≠k:=qF.2 r iR λa v dj aV e=>az a v dj ⟨by have:=aT a aV.1;exact cb 0x4084C0080A1098010842501023 aa kf this.2,by have:=aT a aV.1;lia⟩ (hold e aV.2);have h2:=JQ h1 ao hg h' (λa aV h3=>by
     have:=aT a h3.1;rcases aV with aV|aV
     ·exact er (bF 0x8421014811942120021 aa this.2 aV)
     ·have:=cg a aV;lia)
    refine CR.2 _ h2 λa aV=>?_;rcases aV with aV|aV
    ·exact⟨.inl aV.1,aV.2⟩
    ·refine⟨.inr aV,λq=>?_⟩;rcases aV with aV|aV
     ·exact er (cb 0x8421014C1190C11142120021 aa fN.2 q aV)
     ·have:=cg a aV;exact er (fq 0x421080E60848708821280C11942120021 aa fN.2 kf q this.1)
 ·
  refine aB λae=>?_;obtain⟨v,e5,hg,q5,Ah,w⟩:=S0 iR hl;obtain⟨iQ,af3,af4,agm,rfl,lO,agr,agN,agA,agv,agw⟩:=id Ah;refine ae (al (J2 (key:=.inr l) AV aa hg) (next ⟨iQ,cR,e5,aa,by have:1+cR.size<1+r.size:=zl hl;exact bF 0x7D1E0942020420084A1080010FD1E09021 aa oM this,by rw[mM];exact VD,qF.1 _ Ah λa v dj af e=>cB e,λa aV=>⟨(aT a (q5 a aV).1).1,by rw[g0];have:=(aT a (q5 a aV).1).2;exact yG this⟩,λn o gg e=>cB (le n o gg e),λn l' e=>cB (keep n l' e),by exact fq 0xE408021300E1198212802129021 aa fN.1 fN.2 g0,λag N fv az cg h'=>?_⟩));rw[mM]at h';rw[g0]at fv cg;have ins:gr lf (l::m::q) r=r.upd l (.aQ (gr lf (m::q) cR)):=by
   show(match r.look l with|some (.aQ cR)=>_|_=>_)=_;rw[hl]
  rw[ins]at qB;refine qB ag N (by exact bF 0x14810142120021 aa fv) (λa v dj a8 e=>by obtain⟨h1,h2⟩:=a8;exact az a v dj ⟨by exact cb 0x4084C0080A1098010842501023 aa g0 h1,λh3=>h2 (q5 a h3).1⟩ (cB e)) (λa aV=>by have:=cg a aV;exact⟨by exact bF 0x14810142120021 aa this.1,by exact bF 0xA1090010142120021 aa this.2⟩) ?_;have rT:vp (λa=>(A a/\a≠k)/\¬e5 a) σ ag:=λa v dj a8 e=>by obtain⟨h1,h2⟩:=a8;exact az a v dj ⟨by have:=aT a h1.1;exact cb 0x4084C0080A1098010842501023 aa g0 this.2,h2⟩ (cB e)
  have h2:=w ag _ N rT h' λa aV h3=>by have:=cg a aV;have:=aT a h3.1;lia
  refine⟨k,cX,tab,ls,aa,.inl ar,hH,az k _ _ ⟨by exact cb 0x60848008021280C11942120021 aa fN.2 g0,λh3=>(q5 k h3).2 aa⟩ AV,kS,by rw[Xn];exact nL,CR.2 _ h2 λa aV=>?_⟩;rcases aV with aV|aV
  ·exact⟨.inl aV.1,aV.2⟩
  ·exact⟨.inr aV,λq=>by have:=cg a aV;exact er (cb 0x421080C109401090C11142120021 aa fN.2 q this.1)⟩
theorem Focus.last{gc m9:aN}{dC:Nat}{lf:T}{p:List Str}{nx:R}{i:Nat}{here:V}{l:Str}(F:Focus gc m9 dC lf p nx i here σ)(hp:p.drop i=[l])(oQ:qf lf):(∃ag,hA (setItem here (.str l) (sj lf) σ=.ok () ag) (gQ gc ag) (gc.length<=ag.length) ((∃hC,iX ag (.aQ (gr lf p nx)) (.ref dC) hC/\∀a,hC a->gc.length<=a/\a<ag.length))):=by
 refine aB λae=>?_;obtain⟨k,r,A,rfl,oM,rf,aP,aT,le,keep,hlen,qB⟩:=F;rw[hp]at rf qB;have ao:r.look l=U:=rf;obtain⟨eo,cX,tab,ls,av,ar,hH,fe,kS,nL,iR⟩:=aP;refine ae ?_;cases av;have hg:=Nu kS nL ao;have uK:tab.length=ls.length:=by have:=ff List.length kS;rwa [bC,bC]at this
 have cV:tab.length<sizeLine:=by
  rw[uK,<-si,nL,bC];have:=KO r;have:sizeLine=16777216:=rfl;lia
 refine⟨_,Dv (key:=.inr l) fe hH aa cV,λn o gg e=>ef (λq=>by have:=cE e;exact er (cb 0x842101021300213142229021 aa (aT k ar).1 q this)) (le n o gg e),by rw[lF];exact hlen,?_⟩;rw[vd hg];have VV:∀{σ:aN},iX σ lf (sj lf) λaf=>False:=by
  rcases oQ with rfl|rfl
  ·exact aa
  ·exact aa
 refine aB λae=>?_;obtain⟨hC,h1,h2⟩:=qB (σ.set k (.dict (cX+1) (tab++[(.inr l,sj lf)]))) (λaf=>False) (by rw[lF];exact bx _) (λa v dj a8 e=>by obtain⟨_,h2⟩:=a8;exact ef (λq=>h2 (q ▸ ar)) e) nofun (by
  refine⟨k,cX+1,_,ls++[l],aa,.inl ar,hH,(fV (o':=.dict (cX+1) (tab++[(.inr l,sj lf)])) fe),by rw[dY,dY,kS];rfl,by show _=(r.ins l lf).fl.map (·.1);rw[Jl,nL,FQ],?_⟩;exact CR.2 _ (JQ (qF.2 r iR λa v dj aV e=>ef (λq=>aV.2 q.symm) e:jA (σ.set k (.dict (cX+1) (tab++[(.inr l,sj lf)]))) r tab λa=>A a/\a≠k) ao hg VV nofun) λa aV=>aV.elim (λh=>⟨.inl h.1,h.2⟩) λh=>h.elim)
 exact ae ⟨hC,h1,h2⟩
theorem Focus.kept{gc m9:aN}{dC:Nat}{lf:T}{p:List Str}{nx:R}{i:Nat}{here:V}{n:Nat}{l:List V}(F:Focus gc m9 dC lf p nx i here σ)(e:m9[n]? =I (.list l)):σ[n]? =I (.list l):=by obtain⟨_,_,_,_,_,_,_,_,_,keep,_,_⟩:=F;exact keep n l e
theorem Focus.le{gc m9:aN}{dC:Nat}{lf:T}{p:List Str}{nx:R}{i:Nat}{here:V}(F:Focus gc m9 dC lf p nx i here σ):gQ gc σ:=by obtain⟨_,_,_,_,_,_,_,_,le,_,_,_⟩:=F;exact le
variable {ns:List Nat}{ps:List (List Str)}{fp:Nat}
def e7(put:Bool)(ps:List (List Str)):List (List Str×T):=ps.mapIdx λi p=>(p,if put=aw/\i=0 then .var 0 else .num)
theorem oR{put:Bool}{i:Nat}{p:List Str}(h:ps[i]? =I p):(e7 put ps)[i]? =I (p,if put=aw/\i=0 then .var 0 else .num):=by
 unfold e7;rw[HM,h];rfl
theorem jy{put:Bool}:(e7 put ps).length=ps.length:=HI ..
theorem F4{put:Bool}(h:vv ps):vF (e7 put ps):=by
 refine⟨λx ak=>?_,?_⟩
 ·obtain⟨i,aI,e⟩:=m8.mp ak;replace aI:=jy ▸ aI;have h2:(e7 put ps)[i]? =I x:=by rw[<-e];exact cD (by rw[jy];exact aI)
  replace h2:=((oR (put:=put) (cD aI)) ..) ▸ h2;have h2:=gm h2;subst h2;refine⟨λq=>?_,?_⟩
  ·have:=(h.len _ (HL aI)).1;replace this:=(show ps[i]=[] from q ..) ▸ this;exact absurd this (by decide)
  ·show qf (if put=aw/\i=0 then .var 0 else .num);by_cases c:put=aw/\i=0
   ·rw[aK c];exact .inr aa
   ·rw[aR c];exact .inl aa
 ·rw[afs];intro i j aI bh kT;rw[jy]at aI bh;have ay:(e7 put ps)[j]'(by rw[jy];exact bh)=(ps[j],if put=aw/\j=0 then .var 0 else .num):=gm ((cD _).symm.trans (oR (cD bh)));rw[(gm ((cD _).symm.trans (oR (cD aI))):(e7 put ps)[i]'(by rw[jy];exact aI)=(ps[i],if put=aw/\i=0 then .var 0 else .num)),ay];exact afs.mp h.free i j aI bh kT
theorem ML{bq:List (List Str×T)}(h:vF bq)(i:Nat):vF (bq.take i):=⟨λp hp=>h.1 p (HH hp),h.2.sublist (List.take_sublist _ _)⟩
theorem Rl{put:Bool}(aE:0<σ.length)(hN:σ[fp]? =I (.list (ns.map V.ref)))(hL:jC σ ns ps)(jb:vv ps)(dH:ps.length<=6):Wp σ (bc (d+1) "_law_tree" [.ref fp,.bool put]) λv ag=>gQ σ ag/\(∃A,iX ag (.aQ (formOf (e7 put ps))) v A):=by
 rw[ac5];have hq:=hL.1;have xB:=F4 (put:=put) jb;refine al (m:=cH _) aa (al (oC (cB hN)) ?_);rw[bC];refine al (qJ ⟨by exact wC,wB (b0 (HF (by assumption)) (by assumption:ps.length<=6)) (by decide)⟩) (jz (l:=i9 0 ns.length) (J:=λaf=>True) aa mx (λi loc ag=>gQ σ ag/\σ.length<=ag.length/\(oj λ(bS:Option V) (cn:Option V) (eQ:Option V) (A:Nat->Prop)=>eH (loc=[I (.ref fp),I (.bool put),I (.ref σ.length),bS,cn,eQ,U,U]) (iX ag (.aQ (formOf ((e7 put ps).take i))) (.ref σ.length) A) (∀a,A a->σ.length<=a/\a<ag.length))) (λaf aJ b3 eW=>aL)
  ⟨ct.push,by simp,U,U,U,λa=>a=σ.length,aa,⟨_,0,[],[],aa,aa,aE,cP,aa,aa,aL⟩,λa aV=>⟨by lia,by rw[dp,aV];exact jY _⟩⟩ ?_ ?_)
 ·rintro i v loc cJ aM ⟨le,hlen,bS,cn,eQ,A,rfl,aP,aT⟩;obtain⟨rfl,aI⟩:=r4 aM;have aI:i<ns.length:=by exact kQ ‹_›
  have ao:ns[i]? =I ns[i]:=cD aI;have hp:ps[i]? =I (ps[i]'(by exact fS aI hq)):=cD (by exact fS aI hq);generalize ns[i]=n at ao;generalize ps[i]=p at hp;have dx:=ct.at le (hL.2 i n p ao hp);have EU:=jb.len p (ee hp);rcases PV p with rfl|⟨e8,l,rfl⟩
  ·exact absurd EU.1 (by decide)
  rw[PW] at *;generalize oQ:(if put=aw/\i=0 then T.var 0 else T.num)=lf;have ak:=oR (put:=put) hp;rw[oQ]at ak;have gX:(e7 put ps).take (i+1)=(e7 put ps).take i++[(e8++[l],lf)]:=by rw[jg,ak];rfl
  have xC:=ML xB (i+1);rw[gX]at xC;have Pk:=FN (ML xB i);have VB:Ready (e8++[l]) (formOf ((e7 put ps).take i)):=JN (by simp) Pk.nZ λq aH=>by
   obtain⟨dU,gY,rfl⟩:=aH;exact(PK.mp xC.2).2.2 dU gY _ b9
  have oM:(formOf ((e7 put ps).take i)).size<=1000:=by
   have h1:=Pk.size;have h2:=CW (bq:=(e7 put ps).take i) (N:=5) λx ak=>by
    obtain⟨j,bh,e⟩:=m8.mp (HH ak);rw[jy]at bh;have h2:(e7 put ps)[j]? =I x:=by rw[<-e];exact cD (by rw[jy];exact bh)
    rw[(oR (put:=put) (cD bh))]at h2;rw[<-gm h2];exact(jb.len _ (HL bh)).2
   have h3:((e7 put ps).take i).length<=6:=by rw[rI,jy];exact KL ‹_›
   exact cb 0xFA3C1204060994131465104A211021 aa h1 h2 h3
  rw[ac7];have p4:(ns.map V.ref)[((i:Nat):Int).toNat]? =I (.ref n):=by rw[Int.toNat_natCast,e6,ao];rfl
  refine al (ir (ct.at le hN) (i6 _) p4) (al (m:=bound _) aa (al (m:=bound _) aa (al (wI dx) ?_)));rw[dY,show [l].map V.str=[V.str l] from aa,Y4];have aW:(cJ++[.list (e8.map V.str)]:aN)[cJ.length]? =I (.list (e8.map V.str)):=cP;have sI:(cJ++[.list (e8.map V.str)]:aN).length=cJ.length+1:=by simp
  have Ah:iX (cJ++[.list (e8.map V.str)]) (.aQ (formOf ((e7 put ps).take i))) (.ref σ.length) A:=qF.1 _ aP λa v dj af e=>cB e;refine al (nw aW) (jz (l:=e8.map V.str) (J:=λτ=>τ[cJ.length]? =I (.list (e8.map V.str))) aa (nf λaf h=>h)
   (λj loc ag=>c8 λ(here:V) (o:Option V)=>loc=[I (.ref fp),I (.bool put),I (.ref σ.length),I (.int i),I here,o,U,U]/\Focus σ (cJ++[.list (e8.map V.str)]) σ.length lf (e8++[l]) (formOf ((e7 put ps).take i)) j here ag) (λaf aJ b3 a8=>by obtain⟨_,_,_,F⟩:=a8;exact F.kept aW)
   ⟨.ref σ.length,_,aa,σ.length,_,A,aa,oM,VB,Ah,λa aV=>⟨(aT a aV).1,by rw[sI];have:=(aT a aV).2;exact yG this⟩,(le.new:gQ σ (cJ++[.list (e8.map V.str)])),λaf aJ h=>h,by exact cb 0x1881004250182329021 aa hlen sI,λag N fv az cg h'=>⟨_,h',λa aV=>?_⟩⟩ ?_ ?_)
  ·rcases aV with aV|aV
   ·have:=aT a aV;exact⟨this.1,by exact fq 0x6084E0080A109C01098810842501023 aa sI fv this.2⟩
   ·have:=cg a aV;exact⟨by exact fq 0x1C8101CC1084250182329021 aa hlen sI this.1,this.2⟩
  ·rintro j u loc b6 aY ⟨here,o,rfl,F⟩;rw[e6]at aY;obtain⟨s,az,rfl⟩:=eU.mp aY;have bh:=cE az;rw[ac6];have hd:(e8++[l]).drop j=s::(e8++[l]).drop (j+1):=by
    rw[yM (by rw[dp];exact cb 0x31401090010142120021 aa bh),List.getElem_append_left bh];congr 1;exact gm ((cD bh).symm.trans az)
   obtain⟨m,q,sO⟩:(c8 λm q=>(e8++[l]).drop (j+1)=m::q):=by
    induction h:(e8++[l]).drop (j+1) using List.casesOn with
    |nil=>
     have:=ff List.length h;rw[HK,dp]at this;have:e8.length+1-(j+1)=0:=this;exact absurd this (Nat.sub_ne_zero_of_lt (PA bh))
    |cons m q=>exact⟨m,q,aa⟩
   rw[sO]at hd;exact F.step hd sO aE λ{Aq ag} Pl=>bZ ⟨Aq,_,aa,Pl⟩
  ·rintro loc b6 ⟨here,o,rfl,F⟩;rw[bC]at F;rw[ac9];have hd:(e8++[l]).drop e8.length=[l]:=List.drop_left ..;obtain⟨dq,dB,dW,kf,hC,Vy,FE⟩:=F.last hd ((xB.1 _ (ee ak)).2:qf lf);have cM:gQ σ b6:=F.le;have VQ:sj lf=if put=aw/\i=0 then .str "any" else .str "number":=by
    rw[<-oQ];by_cases c:put=aw/\i=0
    ·rw[aK c,aK c];rfl
    ·rw[aR c,aR c];rfl
   refine al (a:=sj lf) (ag:=b6) ?_ (al (ir (ct.at cM hN) (i6 _) p4) (al (a:=.str l) (ag:=b6) ?_ (al (m:=setItem _ _ _) dB (bZ ⟨dW,kf,_,_,_,hC,aa,?_,FE⟩))))
   ·rw[VQ];refine(a4 (a:=put&&decide (i=0)) (ag:=b6) ?_).trans ?_
    ·refine(a4 (m:=truth _) aa).trans ?_
     induction put using Bool.casesOn with
     |false=>rfl
     |true=>
      show(cmp .Eq (V.int (i:Int)) (V.int 0)>>=λRM=>truth RM>>=λZO=>M.cond ZO (pure aw:M Bool) (pure aS:M Bool)) b6=_;show(M.cond ((i:Int)==0) (pure aw:M Bool) (pure aS:M Bool)) b6=_;by_cases c:i=0
      ·subst c;rfl
      ·rw[show((i:Int)==0)=aS from rG.mpr (λq=>c (yN q)),jf c];rfl
    ·induction put using Bool.casesOn with
     |false=>rfl
     |true=>
      by_cases c:i=0
      ·subst c;rfl
      ·rw[jf c,aR (λh=>c h.2)];rfl
   ·have eM:=ct.at cM (hL.2 i n _ ao hp);refine(a4 (lA eM)).trans ?_;show bD ((place (-1) ((e8++[l]).map V.str).length).bind λk=>((e8++[l]).map V.str)[k]?) b6=_;rw[dY,show [l].map V.str=[V.str l] from aa,KD.1];show bD ((e8.map V.str++[V.str l])[(e8.map V.str).length]?) b6=_;rw[KD.2];rfl
   ·rw[gX,MM];exact Vy
 ·rintro loc cJ ⟨le,hlen,bS,cn,eQ,A,rfl,aP,aT⟩;rw[oB,Int.toNat_natCast,hq,<-jy (put:=put),iG]at aP;rw[ac8];exact bZ ⟨le,A,aP⟩
end
noncomputable def zeros(k:Nat):List V:=List.replicate k (.int 0)
noncomputable def gV:List (Str×T)->Nat->List V×Nat
 |[],k=>([],k)
 |p::ps,k=>(.tup [.str p.1,(p.2.nb k).1.pr]::(gV ps (p.2.nb k).2).1,(gV ps (p.2.nb k).2).2)
theorem KF(p:Str×T):∀(ps:List (Str×T)) (k:Nat),gV (ps++[p]) k=((gV ps k).1++[.tup [.str p.1,(p.2.nb (gV ps k).2).1.pr]],(p.2.nb (gV ps k).2).2)
 |[],k=>rfl
 |q::ps,k=>by
  refine(?_:(V.tup [.str q.1,(q.2.nb k).1.pr]::(gV (ps++[p]) (q.2.nb k).2).1,(gV (ps++[p]) (q.2.nb k).2).2)=_);rw[KF p ps]at ⊢;rfl
theorem T6{r:R}(h:r.ew):∀k,(r.nb k).1.h4=(gV r.fl k).1/\(r.nb k).1.iN=.int ((gV r.fl k).2:Nat)/\(r.nb k).2=(gV r.fl k).2+1:=by
 induction r using R.ind with
 |aE=>exact h.elim
 |h1 n=>intro k;exact⟨aa,aa,aa⟩
 |h2 l t r aj=>
  intro k;refine aB λae=>?_;obtain⟨a,b,c⟩:=aj h.2 (t.nb k).2;exact ae ⟨ff (V.tup [.str l,(t.nb k).1.pr] :: ·) a,b,c⟩
theorem T5:(∀t:T,∀k,(t.nb k).2<=k+t.size)/\∀r:R,∀k,(r.nb k).2<=k+1+r.size:=by
 refine T.both (λk=>ha _ _) (λn k=>bx _) (λr aj k=>?_) (λk=>by exact show k<=k+1+0 from cp 0x10848001020 aa) (λn k=>bx _) λl t r h1 h2 k=>?_
 ·have:=aj k;exact show(r.nb k).2<=k+(1+r.size) from cb 0xC1080A020406084A001021 aa this
 ·exact show(r.nb (t.nb k).2).2<=k+1+(1+t.size+r.size) from hG 0x83042000425000E10202120007084C501021 aa (h1 k) (h2 (t.nb k).2)
theorem DU(ps:List (Str×T)):∀k,(gV ps k).2<=k+(d0 ps .nil).size:=by
 induction ps with
 |nil=>intro k;exact bx _
 |cons p ps aj=>
  intro k;have h1:=T5.1 p.2 k;have h2:=aj (p.2.nb k).2;exact show(gV ps (p.2.nb k).2).2<=k+(1+p.2.size+(d0 ps .nil).size) from hG 0x20C10800501C2041007084C501021 aa h1 h2
section
variable {nn:Nat}{A:Nat->Prop}
theorem S2(h:jA σ r tab A)(hp:p∈r.fl):(c8 λv e5=>dF tab (.inr p.1)=I v/\iX σ p.2 v e5):=by
 induction r using R.ind generalizing A with
 |aE=>cases hp
 |h1 n=>cases hp
 |h2 l t r aj=>
  obtain⟨v,e5,ku,a,b,c,e,f⟩:=h;rcases List.mem_cons.mp hp with q|hp
  ·subst q;exact⟨v,e5,a,e⟩
  ·exact aj f hp
theorem JZ(h:σ[k]? =I (.dict cX tab)):cmp .Eq (.ref k) (.str s) σ=.ok (.bool aS) σ:=by
 have av:toPy σ (.ref k)=U:=by refine(?_:ip σ 4 k=U);rw[IS,h]
 have ay:dictAt σ k=I tab:=by unfold dictAt;rw[h]
 refine(?_:c3 (λσ=>((ej σ (.ref k) (.str s)).or (s3 σ (.ref k) (.str s))).map V.bool) σ=_);have:((ej σ (.ref k) (.str s)).or (s3 σ (.ref k) (.str s))).map V.bool=I (.bool aS):=by
  unfold ej;rw[av];refine(?_:Option.map V.bool (Option.or U ((dictAt σ k).map λaf=>aS))=_);rw[ay];rfl
 rw[hP,this]
theorem Qn:zeros k++[.int 0]=zeros (k+1):=by unfold zeros;rw[List.replicate_succ']
theorem Cg:(zeros k).length=k:=List.length_replicate ..
theorem TB{r:R}(h:r.ew){p:Str×T}(hp:p∈r.fl):p.2.ew:=by
 induction r using R.ind with
 |aE=>cases hp
 |h1 n=>cases hp
 |h2 l t r aj=>
  rcases List.mem_cons.mp hp with e|hp
  ·subst e;exact h.1
  ·exact aj h.2 hp
theorem KZ{r:R}:r.fl.length=r.len:=by
 induction r using R.ind with
 |aE=>rfl
 |h1 n=>rfl
 |h2 l t r aj=>exact show r.fl.length+1=1+r.len from iF (bF 0xA1080212002029022 aa aj) (bF 0x21200A10802029023 aa aj)
theorem JX(ao:0<nn)(e:σ[nn]? =I (.list (zeros k)))(ar:k<=1000):(c3 (d9 C (.ref nn) "append")>>=λW5=>runM C "append" W5 (.ref nn) [(V.int 0)]) σ=.ok .none (σ.set nn (.list (zeros (k+1)))):=by
 refine(a4 (ly e aa)).trans ?_;rw[oD e ao (by rw[Cg];exact i5 ar (by decide +kernel)),Qn]
theorem US:∀(s:Nat) {t:T}{v:V}{A:Nat->Prop}{k d:Nat}{σ:aN},t.size<=s->s<=61->t.ew->iX σ t v A->0<nn->σ[nn]? =I (.list (zeros k))->k+t.size<=500->s+1<=d ->
  Wp σ (bc d "_law_kind" [v,.ref nn]) λr ag=>r=(t.nb k).1.pr/\ag[nn]? =I (.list (zeros (t.nb k).2))/\ct [nn] σ ag:=by
 intro s
 induction s with
 |zero=>intro t v A k d σ h;have:=T.pos t;exact absurd ‹_<=0› (B0 ‹1<=_›)
 |succ s aj=>
  intro t v A k d σ az Mz h8 aP ao dx ar hd;obtain⟨d,rfl⟩:(∃e,d=e+1):=⟨d-1,by exact rS (b0 (qp _ _) ‹_›)⟩;rw[adL]
  induction t using T.casesOn with
  |num=>
   have aM:v=.str "number":=aP;subst aM;exact⟨_,σ,mD,aa,dx,.refl⟩
  |var n=>
   have aM:v=.str "any":=aP;subst aM;refine⟨_,_,(eL (by decide +kernel)).trans ?_,aa,fV dx,ct.set b9 .refl⟩;unfold Hg;refine mD.trans ?_;have ar:k+1<=500:=ar;rw[<-M.assoc,a4 (JX ao dx (by exact cp 0x1F47824081F4F042120021 aa ar)),a4 (oC (fV dx)),Cg];refine(?_:(Pure.pure (V.tup [.str "blank",.int (((k+1:Nat):Int)-1)]):M V) _=_);rw[show(((k+1:Nat):Int)-1)=(k:Int) by lia];rfl
  |aQ r=>
   refine aB λae=>?_;obtain⟨cK,cX,tab,ls,rfl,_,hH,fe,kS,nL,iR⟩:=aP;have az:1+r.size<=s+1:=az;have ar:k+(1+r.size)<=500:=ar;have h8:r.ew:=h8;have hlen:=(KG.2 r).2;have uO:ls.length=r.len:=by rw[<-si,nL,bC,KZ]
   refine ae (al (JZ fe) (al (m:=truth _) aa (d3 aa ?_)));unfold Hg;refine al (JZ fe) (al (m:=truth _) aa (d3 aa ?_));unfold O7;have V0:tab.map (λp=>h7 p.1)=ls.map V.str:=by
    have:tab.map (λp=>h7 p.1)=(tab.map (·.1)).map h7:=by rw[gw];rfl
    rw[this,kS,gw];rfl
   refine al (zx fe) ?_;rw[V0];refine al (wH cP (by rw[bC];exact fq 0x103C1084E0080C7088A61082108480284200843DF042120021 aa Mz az hlen uO) wk) (al (nw cP) ?_);rw[nL];have ta:f9 σ (σ++[.list (ls.map V.str)]++[.list ((r.fl.map (·.1)).map V.str)]):=f9.push.new;have F7:(σ++[.list (ls.map V.str)]++[.list ((r.fl.map (·.1)).map V.str)]:aN)[(σ++[.list (ls.map V.str)]:aN).length]? =I (.list ((r.fl.map (·.1)).map V.str)):=cP;have pS:σ.length<(σ++[.list (ls.map V.str)]:aN).length:=by rw[dp];exact jY _
   generalize (σ++[O.list (ls.map V.str)]:aN).length=q1 at F7 pS ⊢;generalize (σ++[O.list (ls.map V.str)]++[O.list ((r.fl.map (·.1)).map V.str)]:aN)=b6 at ta F7 ⊢;have VH:=cE dx;have T1:cK≠nn:=λq=>by replace fe:=dx ▸ q ▸ fe;cases fe
   refine ru (l:=(r.fl.map (·.1)).map V.str) (J:=λτ=>ct [nn] b6 τ) aa (nf λτ h=>h _ _ (λhm=>by have:=bN.mp hm;exact er (cb 0x421080C508881098010942120021 aa pS VH this)) F7) adN (adO ..) (by rw[bC,bC,KZ];have:sizeLine=16777216:=rfl;exact fq 0x398208000007C2708CA6108217D3C12842020021 aa ar hlen this)
    (λi acc loc ag=>ct [nn] b6 ag/\(∃o,eH (acc=(gV (r.fl.take i) k).1) (loc=[U,o,U,I (.ref nn),I (.ref cK)]) (ag[nn]? =I (.list (zeros (gV (r.fl.take i) k).2))))) (λaf aJ b3 eW h=>h.1) ⟨.refl,_,aa,aa,ta.at dx⟩ ?_ ?_
   ·rintro i u acc loc ag aY ⟨le,o,rfl,rfl,YF⟩;replace aY:=e6 ▸ gw ▸ aY;refine aB λae=>?_;obtain⟨p,hp,rfl⟩:=eU.mp aY;have lN:=ee hp;have Al:p.2.size<1+r.size:=T.Dh lN;obtain⟨v',e5,hg,nI⟩:=S2 iR lN;have rT:vp e5 σ ag:=λa pk dj af e=>le _ _ (λhm=>by have:=bN.mp hm;replace e:=dx ▸ this ▸ e;cases e) (ta.at e);have hle:=DU (r.fl.take (i+1)) k;have VW:=DU (r.fl.take i) k;have cV:=take_size (r:=r) (i:=i+1);have gX:r.fl.take (i+1)=r.fl.take i++[p]:=by rw[jg,hp];rfl
    have oM:(d0 (r.fl.take (i+1)) .nil).size=(d0 (r.fl.take i) .nil).size+(1+p.2.size):=by
     rw[gX];generalize r.fl.take i=ps
     induction ps with
     |nil=>exact show 1+p.2.size+0=0+_ from iF (cp 0x20420004000902100020 aa) (cp 0x481080040840008020 aa)
     |cons q ps aj=>refine(?_:1+q.2.size+(d0 (ps++[p]) .nil).size=1+q.2.size+(d0 ps .nil).size+_);rw[aj];exact(pd ..).symm
    refine ae ((?_:Wp _ (bindTo _ _ (.str p.1) _) _));rw[adQ];refine jR aa ?_;rw[adM];refine jR aa ?_;rw[aK aa,adP];refine al (lz (key:=.inr p.1) (le _ _ (λhm=>T1 (bN.mp hm)) (ta.at fe)) aa hg) (Wp.step (aj (by exact hG 0x15010202101C0608C86084212808108021 aa az cV oM) (by exact cp 0x1EF8240803DF042120021 aa Mz) (TB h8 lN) (qF.1 _ nI rT) ao YF (by exact w3 0x7D3C1498010242101C0808CA8084E4018217D3C12842020021 aa ar VW cV oM) (by exact bF 0x2842400401094010842400021 aa hd)) ?_);rintro _ iI ⟨rfl,YE,d1⟩;have lM:=KF p (r.fl.take i) k;exact bZ ⟨le.trans d1,_,by rw[gX,lM],aa,by rw[gX,lM];exact YE⟩
   ·rintro out loc dq ⟨le,o,rfl,rfl,F5⟩;rw[bC,bC,iG]at F5 ⊢;refine aB λae=>?_;obtain⟨eO,es,f5⟩:=T6 h8 k;have hle:=DU r.fl k;have cV:=KN (ps:=r.fl) (r:=r.dx);replace cV:=(um ..) ▸ cV;have eM:=cB (o':=.list (gV r.fl k).1) F5;have VR:=cE F5;have cv:nn≠dq.length:=by exact gv VR
    refine ae ?_;rw[<-M.assoc];refine al (JX ao eM (by exact fq 0x1F47826080A7084E4018217D3C12842020021 aa ar hle cV)) ?_;refine al (wG (ef cv cP)) (al (oC (fV eM)) ?_);rw[Cg];refine al (m:=binop _ _ _) (a:=.int ((gV r.fl k).2:Nat)) (ag:=(dq++[O.list (gV r.fl k).1]:aN).set nn (.list (zeros ((gV r.fl k).2+1)))) ?_ (bZ ⟨?_,?_,?_⟩)
    ·refine(?_:Res.ok (V.int ((((gV r.fl k).2+1:Nat):Int)-1)) _=_);rw[show((((gV r.fl k).2+1:Nat):Int)-1)=((gV r.fl k).2:Int) by lia]
    ·refine(?_:V.tup [.str "record",.tup (gV r.fl k).1,.int ((gV r.fl k).2:Nat)]=V.tup [.str "record",.tup (r.nb k).1.h4,(r.nb k).1.iN]);rw[eO,es]
    ·refine(?_:_=I (O.list (zeros (r.nb k).2)));rw[f5];exact fV eM
    ·exact(ct.ex λn o af e=>ta.at e:ct [nn] σ b6).trans (ct.set b9 (le.trans .push))
end
section
variable {n:Nat}{b:V}{p:List Str}
theorem MF:∀{p:List Str}{b:V},iU b (p++[l])=cf (.get l) [iU b p]
 |[],b=>rfl
 |m::p,b=>MF (p:=p) (b:=cf (.get m) [b])
theorem WT(e:σ[n]? =I (.list (p.map V.str))):bc (d+1) "_law_got" [b,.ref n] σ=.ok (iU b p) σ:=by
 rw[adS];refine Og (al (nw e) (jz (l:=p.map V.str) (J:=λτ=>τ=σ) aa (nf λτ h=>by rw[h];exact e) (λi loc ag=>ag=σ/\(∃o,loc=[I (iU b (p.take i)),I (.ref n),o])) (λaf aJ b3 h=>h.1) ⟨aa,_,aa⟩ ?_ ?_))
 ·rintro i v loc ag aM ⟨rfl,o,rfl⟩;rw[e6]at aM;obtain⟨l,hl,rfl⟩:=eU.mp aM;rw[adT];refine bZ ⟨aa,I (.str l),?_⟩;rw[jg,hl];show _=[I (iU b (p.take i++[l])),_,_];rw[MF];rfl
 ·rintro loc ag ⟨rfl,o,rfl⟩;rw[bC,iG,adU];exact bZ ⟨aa,aa⟩
theorem Th:∀{p:List Str}{b:V}{n d:Nat}{σ:aN},p≠[]->σ[n]? =I (.list (p.map V.str))->p.length<=d->Wp σ (bc d "_law_put" [b,.ref n]) λv ag=>v=pE 7 b p/\gQ σ ag:=by
 intro p
 induction p with
 |nil=>intro b n d σ h;exact absurd aa h
 |cons l p aj=>
  intro b n d σ _ e hd;have hd:p.length+1<=d:=hd;obtain⟨d,rfl⟩:(∃k,d=k+1):=⟨d-1,by exact rS (b0 (qp _ _) ‹_›)⟩;rw[adb];refine al (oC e) (al zy (al (m:=truth _) aa ?_));rw[bC]
  induction p with
  |nil=>exact gD aa (al (ir e (i:=0) (by decide) aa) (bZ ⟨aa,.refl⟩))
  |cons m p=>
   refine d3 (rG.mpr (λq=>Nat.succ_ne_zero _ (yF (yN q)))) ?_;unfold O3;refine al (ir e (i:=0) (by decide) aa) (al (ir e (i:=0) (by decide) aa) (al (m:=bound _) aa (al (m:=bound _) aa (al (wI e) ?_))));rw[Ny (by decide) (by show(1:Int)<=((((l::m::p).map V.str).length:Nat):Int);rw[bC];exact uy (qn (eV _)))];refine Wp.step (aj (b:=cf (.get l) [b]) nofun (show(σ++[.list ((m::p).map V.str)]:aN)[σ.length]? =I (.list ((m::p).map V.str)) from cP) (by exact PE hd)) ?_;rintro _ ag ⟨rfl,le⟩;exact bZ ⟨aa,ct.push.trans le⟩
def kt(f:Nat->Option PyData)(m:Nat)(v:V):Prop:=(∃d,eH (ox f v=I d) (d.depth<=m) (PyData.eqv d d=aw))
theorem y2:∀{l:List V},(∀x∈l,kt f m x)->(∃ds,eH (gS f l=I ds) (PyData.depthAll ds<=m) (PyData.eqvAll ds ds=aw)):=by
 intro cO
 induction cO with
 |nil=>intro _;exact⟨[],aa,by simp [PyData.depthAll],by simp [PyData.eqvAll]⟩
 |cons x l y2=>
  intro h;refine aB λae=>?_;obtain⟨d,h1,h2,h3⟩:=h x b9;obtain⟨ds,bY,c0,dH⟩:=y2 λy a9=>h y (dz _ a9);refine ae ⟨d::ds,?_,?_,?_⟩
  ·refine(?_:(match ox f x,gS f l with|some d,some ds=>I (d::ds)|_,_=>U)=_);rw[h1,bY]
  ·refine(?_:max d.depth (PyData.depthAll ds)<=m);exact tM.mpr ⟨h2,c0⟩
  ·refine(?_:(PyData.eqv d d&&PyData.eqvAll ds ds)=aw);rw[h3,dH];rfl
theorem kt.mono(h:kt f m v)(hm:m<=gK):kt f gK v:=by obtain⟨d,a,b,c⟩:=h;exact⟨d,a,b0 b hm,c⟩
theorem A1:kt f m (.str s):=⟨.str s,aa,by simp [PyData.depth],by simp [PyData.eqv]⟩
theorem Nr:kt f m (.int i):=⟨.int i,aa,by simp [PyData.depth],by simp [PyData.eqv]⟩
theorem Y0:kt f m .none:=⟨.none,aa,by simp [PyData.depth],by simp [PyData.eqv]⟩
theorem s5(h:∀x∈l,kt f m x):kt f (m+1) (.tup l):=by
 obtain⟨ds,h1,h2,h3⟩:=y2 h;refine⟨.tuple ds,?_,qn h2,h3⟩;show(gS f l).map PyData.tuple=_;rw[h1];rfl
theorem ye{P:V->Prop}{a c:V}(h:P a)(h':P c):∀x∈[a,c],P x:=λx ak=>by
 rcases List.mem_cons.mp ak with e|ak
 ·rw[e];exact h
 ·rw[bN.mp ak];exact h'
theorem J5(f:Nat->Option PyData):(∀t:T,kt f (3*t.dep) t.pr)/\∀r:R,(∀x∈r.h4,kt f (3*r.dep+1) x)/\kt f 0 r.iN:=by
 refine T.both ((s5 (m:=0) λx ak=>by rw[bN.mp ak];exact A1).mono (by refine(?_:0+1<=3*1);decide)) (λn=>(s5 (m:=0) (ye A1 Nr)).mono (by refine(?_:0+1<=3*1);decide)) (λr aj=>?_) ⟨nofun,Y0⟩ (λn=>⟨nofun,Nr⟩) λl t r h1 h2=>?_
 ·have h:=s5 (m:=3*r.dep+2) (f:=f) (l:=[.str "record",.tup r.h4,r.iN]) λx ak=>by
   rcases List.mem_cons.mp ak with e|ak
   ·rw[e];exact A1
   rcases List.mem_cons.mp ak with e|ak
   ·rw[e];exact s5 aj.1
   ·rw[bN.mp ak];exact aj.2.mono (eV _)
  exact h.mono (by exact show 3*r.dep+2+1<=3*(1+r.dep) from cp 0x408403104220906200020 aa)
 ·refine⟨λx ak=>?_,h2.2⟩;have hd:(R.fld l t r).dep=max t.dep r.dep:=rfl;rcases List.mem_cons.mp ak with e|ak
  ·rw[e];exact(s5 (ye A1 h1)).mono (by rw[hd];exact Ud)
  ·exact(h2.1 x ak).mono (by rw[hd];exact Uc)
theorem Sw(h:D.dep<=12)(h':t.dep<=12):kt f 38 (hi ([D],t)):=by
 refine s5 (m:=37) (ye (s5 (m:=36) λx ak=>?_) (((J5 f).1 t).mono (by exact cp 0x25F04831040C09061 aa h')));rw[bN.mp ak];exact((J5 f).1 D).mono (by exact cp 0x24F04831040C09061 aa h)
theorem Cu(hl:∀f,∀z∈l,kt f m z)(hm:m<=100)(ex:σ[x]? =I (.list l))(nY:σ[y]? =I (.list l)):ej σ (.tup [.str s,.ref x]) (.tup [.str s,.ref y])=I aw:=by
 refine aB λae=>?_;obtain⟨ds,h1,h2,h3⟩:=y2 (hl (ip σ 3));have k:∀{x:Nat},σ[x]? =I (.list l)->toPy σ (.tup [.str s,.ref x])=I (.tuple [.str s,.list ds]):=λ{x} ex=>by
  refine(?_:Option.map PyData.tuple (match I (PyData.str s),(match ip σ 4 x,I [] with|some d,some ds=>I (d::ds)|_,_=>U) with|some d,some ds=>I (d::ds)|_,_=>U)=_);rw[pn (k:=3) ex,h1];rfl
 refine ae ?_;unfold ej;rw[k ex,k nY];refine(?_:(if min (PyData.tuple [.str s,.list ds]).depth (PyData.tuple [.str s,.list ds]).depth<=200 then I (PyData.eqv (.tuple [.str s,.list ds]) (.tuple [.str s,.list ds])) else U)=_);rw[aK (b0 (HD _ _) ?_)]at ⊢
 ·refine(?_:I ((s==s)&&(PyData.eqvAll ds ds&&aw))=_);rw[h3,k6]at ⊢;rfl
 ·have av:(PyData.str s).depth=0:=by simp [PyData.depth]
  refine(?_:max (PyData.str s).depth (max (PyData.depthAll ds+1) 0)+1<=200);exact ae2 (i5 (zO (by rw[av];exact eV _) (zO (qn (b0 (by assumption) (by assumption:_<=100))) (eV _))) (by decide:101<200))
def hZ(k:Nat):Str:=Str.ofString "r" ++ fF (97+k)
theorem SO:∀n:Fin 7,((List.range n.val).map hZ).Pairwise (λa b=>strLt b a=aS):=by decide +kernel
theorem Sh(hp:l.Perm m)(az:l.Pairwise λa b=>strLt b a=aS):fg m=l:=
 (PY (le:=λa b=>strLt b a=aS) (λa b af aJ h1 h2=>zc h1 h2) az t7 (hp.trans t8.symm)).symm
theorem SQ:∀n:Fin 7,((List.range n.val).map hZ).Nodup:=by decide +kernel
theorem TS:∀{xs:List (Str×T)},(∀x∈xs,x.2=.num)->(de xs .nil).fl=(fg (xs.map (·.1))).map λl=>(l,T.num):=by
 intro xs
 induction xs with
 |nil=>intro _;rfl
 |cons x xs aj=>
  intro h;have ak:=h x b9;have key:∀{r:R}{ls:List Str},r.fl=ls.map (λl=>(l,T.num))->(r.ins x.1 x.2).fl=(iM x.1 ls).map λl=>(l,T.num):=by
   intro r
   induction r using R.ind with
   |aE=>intro ls e;induction ls with
    |nil=>refine(?_:[(x.1,x.2)]=_);rw[ak];rfl
    |cons _ _=>exact Kz e
   |h1 n=>intro ls e;induction ls with
    |nil=>refine(?_:[(x.1,x.2)]=_);rw[ak];rfl
    |cons _ _=>exact Kz e
   |h2 m u r Va=>
    intro ls e
    induction ls with
    |nil=>exact NA e
    |cons l ls=>
     have av:(m,u)=(l,T.num):=(kz e).1;have ay:r.fl=ls.map (λl=>(l,T.num)):=(kz e).2;cases av;rw[R.kP];refine(?_:_=(if strLt m x.1=aw then m::iM x.1 ls else x.1::m::ls).map _);by_cases c:strLt m x.1=aw
     ·rw[aK c,aK c];refine(?_:(m,T.num)::(r.ins x.1 x.2).fl=_);rw[Va ay];rfl
     ·rw[aR c,aR c];refine(?_:(x.1,x.2)::(m,T.num)::r.fl=_);rw[ak,ay];rfl
  exact key (aj λy a9=>h y (dz _ a9))
theorem SW(ao:n<=6)(hp:((List.range n).map hZ).Perm ls):(resT ls).pr=.tup [.str "record",.tup (((List.range n).map hZ).map λl=>.tup [.str l,.tup [.str "number"]]),.none]:=by
 have Ax:∀x∈(nums ls).reverse,x.2=.num:=λx ak=>by
  obtain⟨l,_,rfl⟩:=ez.mp (B5.mp ak);rfl
 have uT:((nums ls).reverse.map (·.1))=ls.reverse:=by
  rw[vR];congr 1;unfold nums;rw[gw];exact PN _
 have av:(de (nums ls).reverse .nil).h4=((List.range n).map hZ).map λl=>.tup [.str l,.tup [.str "number"]]:=by
  rw[DG,TS Ax,uT,gw,Sh (hp.trans (afo ls).symm) (SO ⟨n,by exact cp 0x7084240040609021 aa ao⟩)];rfl
 have ay:(de (nums ls).reverse .nil).iN=.none:=by
  rw[DH];have:∀{xs:List (Str×T)},(de xs .nil).dx=.nil:=by
   intro xs
   induction xs with
   |nil=>rfl
   |cons x xs aj=>
    refine(?_:((de xs .nil).ins x.1 x.2).dx=.nil);have:∀{r:R},(r.ins x.1 x.2).dx=r.dx:=by
     intro r
     induction r using R.ind with
     |aE=>rfl
     |h1 n=>rfl
     |h2 m u r aj=>
      rw[R.kP];by_cases c:strLt m x.1=aw
      ·rw[aK c];exact aj
      ·rw[aR c];rfl
    rw[this];exact aj
  rw[this];rfl
 refine(?_:V.tup [.str "record",.tup (de (nums ls).reverse .nil).h4,(de (nums ls).reverse .nil).iN]=_);rw[av,ay]
end
section
variable {n fp:Nat}{ns:List Nat}{ps:List (List Str)}{put:Bool}{e1 dv:List (Str×V)}
structure Hn(put:Bool)(ps:List (List Str))(e1:List (Str×V)):Prop where
 len:e1.length=ps.length
 fst:e1.map (·.1)=(List.range ps.length).map hZ
 at_:∀(j:Nat) (x:List Str×T),(e7 put ps)[j]? =I x->(∃sw,e1[j]? =I (hZ j,kW 7 0 sw x))
theorem Hn.case(F:Hn put ps e1)(jb:vv ps)(h1:1<=ps.length)(dH:ps.length<=6)(Ak:put=aw->∀p,ps[0]? =I p->p.length<3)(hp:dv.Perm e1):Case (e7 put ps) (dv.map (·.1)) (dv.map (·.2)):=by
 have mem:∀x∈e7 put ps,(c8 λj p=>eH (ps[j]? =I p) ((e7 put ps)[j]? =I x) (x=(p,if put=aw/\j=0 then .var 0 else .num))):=λx ak=>by
  refine aB λae=>?_;obtain⟨j,bh,e⟩:=m8.mp ak;rw[jy]at bh;have h2:(e7 put ps)[j]? =I x:=by rw[<-e];exact cD (by rw[jy];exact bh)
  have h3:=oR (put:=put) (cD bh);refine ae ⟨j,ps[j],cD bh,h2,?_⟩;rw[h2]at h3;exact gm h3
 refine⟨F4 jb,λq=>?_,by rw[jy];exact dH,λx ak=>?_,λx ak ao=>?_,by rw[bC,bC],by rw[bC,hp.length_eq,F.len];exact dH,?_,λb au=>?_,λx ak=>?_⟩
 ·have:=ff List.length q;rw[jy]at this;have:ps.length=0:=this;exact er (cp 0x421080012044408421 aa h1 this)
 ·refine aB λae=>?_;obtain⟨j,p,h,_,rfl⟩:=mem x ak;exact ae ((jb.len p (ee h)).2)
 ·refine aB λae=>?_;obtain⟨j,p,h,_,rfl⟩:=mem x ak;by_cases c:put=aw/\j=0
  ·refine ae ?_;rw[c.2]at h;exact Ak c.1 p h
  ·exact absurd (aR c) ao
 ·have h2:=(hp.map (·.1)).nodup_iff.mpr (by rw[F.fst];exact SQ ⟨ps.length,by exact cp 0x7084240040609021 aa dH⟩);exact h2
 ·refine aB λae=>?_;obtain⟨g,hg,rfl⟩:=ez.mp au;obtain⟨j,bh,e⟩:=m8.mp (hp.mem_iff.mp hg);have V4:j<ps.length:=by rw[<-F.len];exact bh
  have ak:=oR (put:=put) (cD V4);obtain⟨sw,az⟩:=F.at_ j _ ak;rw[cD bh,e]at az;refine ae ⟨_,ee ak,sw,?_⟩;rw[gm az]
 ·refine aB λae=>?_;obtain⟨j,p,_,h,_⟩:=mem x ak;obtain⟨sw,az⟩:=F.at_ j x h;exact ae ⟨sw,ez.mpr ⟨_,hp.mem_iff.mpr (ee az),aa⟩⟩
theorem Qh{l:List (Str×V)}:(l.map (·.1)).zip (l.map (·.2))=l:=by
 induction l with
 |nil=>rfl
 |cons p l aj=>rw[ea,ea,tN,aj]
def lC(dv:List (Str×V)):List V:=[.tup [.str "f",.int 1,.tup [.str "make",.tup (dv.map gp)]],.tup [.str "g",.int 1,.tup [.str "call",.str "f",.tup [.tup [.str "input",.int 0]]]]]
theorem J4:lC dv=[x4 bq (dv.map (·.1)) (dv.map (·.2)),Gi bq (dv.map (·.1))].map AY:=by
 have:cf (.make (dv.map (·.1))) (dv.map (·.2))=.tup [.str "make",.tup (dv.map gp)]:=by
  refine(?_:V.tup [.str "make",.tup (((dv.map (·.1)).zip (dv.map (·.2))).map gp)]=_);rw[Qh]
 refine(?_:_=[V.tup [.str "f",.int 1,cf (.make (dv.map (·.1))) (dv.map (·.2))],V.tup [.str "g",.int 1,cf (.call "f") [jK]]]);rw[this];rfl
theorem Lf(e:Nat)(h:145<=e):JoinOk 61 e:=QJ 61 e (by exact cp 0x10C10F7C11080101091F0421 aa h)
theorem Le(C:Case bq (dv.map (·.1)) (dv.map (·.2)))(aE:0<σ.length)(hp:σ[nE]? =I (.list (lC dv))):Wp σ (bc 149 "judged" [.ref nE]) λv ag=>(∃iy,hA (v=.tup [.str "good",.ref iy]) (ag[iy]? =I (.list [hi ([e2 bq],resT (dv.map (·.1))),hi ([e2 bq],resT (dv.map (·.1)))])) (σ.length<=iy) (cc σ ag)):=
 Il (d:=142) (B:=61) (N:=100) (λe he=>Lf e he) (by decide) (by decide) (by decide) (by decide) (YX C) aE (by rw[<-J4];exact hp)
theorem U0(C:Case bq (dv.map (·.1)) (dv.map (·.2)))(aE:0<σ.length)(hp:σ[nE]? =I (.list ((lC dv).take 1))):Wp σ (bc 149 "judged" [.ref nE]) λv ag=>(∃iy,hA (v=.tup [.str "good",.ref iy]) (ag[iy]? =I (.list [hi ([e2 bq],resT (dv.map (·.1)))])) (σ.length<=iy) (cc σ ag)):=
 Il (d:=142) (B:=61) (N:=100) (ds:=[x4 bq (dv.map (·.1)) (dv.map (·.2))]) (λe he=>Lf e he) (by decide) (by decide) (by decide) (by decide) (YY C) aE (by rw[hp,J4 (bq:=bq)];rfl)
variable {v1 v2 IB v4 Cw v6 IA:V}{bS cn eQ:Option V}
theorem Nk(C:Case bq (dv.map (·.1)) (dv.map (·.2)))(f:Nat->Option PyData):kt f 38 (hi ([e2 bq],resT (dv.map (·.1)))):=Sw C.gM.dep C.res.dep
theorem RL(C:Case bq (dv.map (·.1)) (dv.map (·.2)))(sN:gM=hi ([e2 bq],resT (dv.map (·.1))))(aE:0<σ.length)(hp:σ[nE]? =I (.list (lC dv)))(aA:σ[iy]? =I (.list [gM,gM]))(ar:0<iy)(cv:nE≠iy) :
  Wp σ (He 149 v1 v2 IB v4 Cw v6 bS cn eQ IA gM (.ref nE) (.tup [.str "good",.ref iy])) λv af=>v=.bool aw:=by
 have hD:=Nk C;rw[<-sN]at hD;unfold He;refine al qK (al (ly aA aa) (al (oD aA ar (by refine(?_:2<sizeLine);decide +kernel)) (al (m:=bound _) aa (al (m:=bound _) aa (al (wI (ef cv.symm hp)) ?_)))));have Av:cut (lC dv) U (I 1)=(lC dv).take 1:=Gn (k:=1);rw[Av];have LP:=cB (o':=.list ((lC dv).take 1)) (ef (k:=iy) (o':=.list ([gM,gM]++[.str "more"])) cv.symm hp);have LL:((σ.set iy (.list ([gM,gM]++[.str "more"])))++[.list ((lC dv).take 1)]:aN)[(σ.set iy (.list ([gM,gM]++[.str "more"]))).length]? =I (.list ((lC dv).take 1)):=cP;have sI:0<((σ.set iy (.list ([gM,gM]++[.str "more"])))++[.list ((lC dv).take 1)]:aN).length:=by rw[dp];exact show 0<_+1 from qm _
 generalize ((σ.set iy (.list ([gM,gM]++[.str "more"])))++[.list ((lC dv).take 1)]:aN)=cJ at LP LL sI ⊢;refine Wp.step (U0 C sI LL) ?_;intro k9 b6 dh;refine aB λae=>?_;obtain⟨kd,rfl,ay,_,cM⟩:=dh;rw[<-sN]at ay;refine ae (al (m:=cH _) aa (al (r6 (Cu (m:=38) (λf z hz=>by rw[bN.mp hz];exact hD f) (by decide) (cB ay) cP)) (al (m:=truth _) aa (gD aa ?_))));refine Wp.step (Le C (by rw[dp];exact show 0<_+1 from qm _) (cB (o':=.list [gM]) (cM.list LP))) ?_;intro k9 dq dh;refine aB λae=>?_;obtain⟨q2,rfl,dB,_,dW⟩:=dh;rw[<-sN]at dB;exact ae (al (m:=cH _) aa (al (r6 (Cu (m:=38) (λf=>ye (hD f) (hD f)) (by decide) (cB dB) cP)) (bZ aa)))
theorem I5(C:Case bq (dv.map (·.1)) (dv.map (·.2)))(sN:gM=hi ([e2 bq],resT (dv.map (·.1))))(aE:0<σ.length)(aZ:σ[fK]? =I (.list (dv.map gp))) :
  Wp σ (BA 149 v1 v2 IB v4 Cw (.ref fK) bS cn eQ IA gM) λv af=>v=.bool aw:=by
 have hD:=Nk C;rw[<-sN]at hD;unfold BA;refine al (wG aZ) (al (m:=cH _) aa ?_);have hp:(σ++[.list (lC dv)]:aN)[σ.length]? =I (.list (lC dv)):=cP;refine Wp.step (Le C (by rw[dp];exact show 0<_+1 from qm _) hp) ?_;rintro _ b6 ⟨kd,rfl,ay,sK,cM⟩;rw[dp]at sK;have sK:σ.length+1<=kd:=sK;rw[<-sN]at ay;refine al (m:=cH _) aa (al (Dy (Cu (m:=38) (λf=>ye (hD f) (hD f)) (by decide) (cB ay) cP)) (al (m:=truth _) aa (d3 aa ?_)));exact RL C sN (by rw[dp];exact show 0<_+1 from qm _) (cB (cM.list hp)) (cB ay) (by exact bF 0x1421004010142120021 aa sK) (by exact λq=>er (bF 0x8421014811942120021 aa sK q))
theorem Sq{k:Nat}(h:k<6):item (.str "abcdef") (.int k) σ=.ok (.str (fF (97+k))) σ:=by
 refine(?_:bD ((place (k:Int) (Str.ofString "abcdef").length).bind λj=>((Str.ofString "abcdef").cps[j]?).map λc=>V.str (fF c)) σ=_);rw[DJ (i6 _) (by rw[(by decide +kernel:(Str.ofString "abcdef").length=6)];exact w0 (by assumption))];refine(?_:bD (((Str.ofString "abcdef").cps[(k:Int).toNat]?).map λc=>V.str (fF c)) σ=_);rw[Int.toNat_natCast,(by decide +kernel:∀j:Fin 6,(Str.ofString "abcdef").cps[j.val]? =I (97+j.val)) ⟨k,h⟩];rfl
end
section
variable {n fp nl:Nat}{ns:List Nat}{ps:List (List Str)}{put:Bool}{e1 dv:List (Str×V)}{zs:List Int}
structure Lay(σ:aN)(zs:List Int)(fp:Nat)(ns:List Nat)(ps:List (List Str))(put:Bool):Prop where
 qG:σ[0]? =I (.list (zs.map .int))
 zD:σ[fp]? =I (.list (ns.map V.ref))
 lists:jC σ ns ps
 ok:vv ps
 one:1<=ps.length
 six:ps.length<=6
 ub:put=aw->∀p,ps[0]? =I p->p.length<3
theorem Lay.le(L:Lay σ zs fp ns ps put)(h:gQ σ ag):Lay ag zs fp ns ps put:=⟨ct.at h L.qG,ct.at h L.zD,L.lists.le λn af o e=>ct.at h e,L.ok,L.one,L.six,L.ub⟩
theorem Z0(L:Lay σ zs fp ns ps put)(F:Hn put ps e1)(aZ:σ[fK]? =I (.list (e1.map gp))) :
  Wp σ (Hf 149 (I (.ref 0)::I v2::I (.ref fp)::I (.bool put)::I Cw::I (.ref fK)::bS::cn::eQ::n_17)) λv af=>v=.bool aw:=by
 rw[adA];have aE:0<σ.length:=cE L.qG;have xD:e1.length<=6:=by rw[F.len];exact L.six
 have fY:sizeLine=16777216:=rfl;refine al (nw aZ) (th (l:=e1.map gp) aa (nf λτ h=>by rw[h];exact aZ) adw (adx ..) (by rw[bC];exact bF 0x148104000003E12846609021 aa xD fY) (λloc=>(∃o,loc=[U,o])) ⟨_,aa⟩ (λv=>match v with|.tup (a::_)=>I (.tup [a,.tup [.str "number"]])|_=>U) ?_ ?_)
 ·rintro v loc aM ⟨o,rfl⟩;obtain⟨p,_,rfl⟩:=ez.mp aM;exact⟨_,by rw[adz];rfl,⟨_,aa⟩,aw,by rw[adv];rfl,_,by rw[ady];exact(a4 (m:=item _ _) gI).trans aa,aa⟩
 have nT:(e1.map gp).filterMap (λv=>match v with|.tup (a::_)=>I (V.tup [a,.tup [.str "number"]])|_=>U)=((List.range ps.length).map hZ).map λl=>.tup [.str l,.tup [.str "number"]]:=by
  rw[<-F.fst,yL,gw];exact sW λq af=>aa
 rw[nT];refine al (wG cP) ?_;have oe:=L.le (ag:=σ++[.list (((List.range ps.length).map hZ).map λl=>.tup [.str l,.tup [.str "number"]])]) ct.push;have Mf:=cB (o':=.list (((List.range ps.length).map hZ).map λl=>.tup [.str l,.tup [.str "number"]])) aZ;generalize (σ++[.list (((List.range ps.length).map hZ).map λl=>.tup [.str l,.tup [.str "number"]])]:aN)=cJ at oe Mf ⊢;have h1:0<cJ.length:=cE oe.qG;refine Wp.step (Rl (d:=148) (put:=put) h1 oe.zD oe.lists oe.ok oe.six) ?_;rintro Ra b6 ⟨cM,A,nI⟩;have BF:=oe.le cM;have Wf:=ct.at cM Mf;refine al (m:=cH _) aa ?_;have Mv:=FN (F4 (put:=put) L.ok);have cV:(T.aQ (formOf (e7 put ps))).size<=61:=by
  have a:=Mv.size;have b:=CW (bq:=e7 put ps) (N:=5) λx ak=>by
   obtain⟨j,bh,e⟩:=m8.mp ak;rw[jy]at bh;have h3:=oR (put:=put) (cD bh);have h2:(e7 put ps)[j]? =I x:=by rw[<-e];exact cD (by rw[jy];exact bh)
   rw[h3]at h2;rw[<-gm h2];exact(L.ok.len _ (HL bh)).2
  rw[jy]at b;have:=L.six;exact show 1+(formOf (e7 put ps)).size<=61 from cb 0x7BE09021004060994131465104A211021 aa a b this
 have Vx:iX (b6++[.list []]) (.aQ (formOf (e7 put ps))) Ra A:=qF.1 _ nI λa v dj af e=>cB e;have h2:0<b6.length:=cE BF.qG;refine Wp.step (US (nn:=b6.length) 61 (k:=0) cV (by decide) Mv.ew Vx h2 (show(b6++[.list []]:aN)[b6.length]? =I (.list (zeros 0)) from cP) (by exact cp 0xFA782400401007BE09021 aa cV) (by decide)) ?_;rintro _ dq ⟨rfl,_,dW⟩;have K3:gQ b6 dq:=λn o ao e=>dW n o (λhm=>absurd (bN.mp hm) (gv (cE e))) (cB e);have O9:=BF.le K3;have Fi:=ct.at K3 Wf;have h3:0<dq.length:=cE O9.qG;refine Wp.step (vi (d:=148) O9.qG (by decide)) ?_;rintro _ dq ⟨rfl,c,rfl,cI,c4⟩;refine al (qL (by decide)) (al (mC (by decide)) (al zy (al (m:=truth _) aa ?_)));have gM:∀{dv:List (Str×V)},dv.Perm e1->V.tup [.tup [((T.aQ (formOf (e7 put ps))).nb 0).1.pr],.tup [.str "record",.tup (((List.range ps.length).map hZ).map λl=>.tup [.str l,.tup [.str "number"]]),.none]]=hi ([e2 (e7 put ps)],resT (dv.map (·.1))):=λ{dv} hp=>by
  have mM:((List.range ps.length).map hZ).Perm (dv.map (·.1)):=by rw[<-F.fst];exact(hp.map (·.1)).symm
  show _=V.tup [.tup [(e2 (e7 put ps)).pr],(resT (dv.map (·.1))).pr];rw[SW L.six mM];rfl
 refine tg (λaf=>?_) λaf=>?_
 ·refine al (JT Fi) (al (a:=.ref dq.length) (ag:=dq++[.list (e1.map gp).reverse]) ?_ ?_)
  ·have df:listAt dq fK=I (e1.map gp):=by unfold listAt;rw[Fi]
   refine(a4 (a:=(e1.map gp).reverse) (ag:=dq) ?_).trans aa;rw[hP];have:Src.back dq (.rev fK (e1.map gp).length)=I (e1.map gp).reverse:=by
    show(listAt dq fK).bind (λl=>if l.length=(e1.map gp).length then I l.reverse else U)=_;rw[df];exact aK aa
   rw[this]
  ·have hp:e1.reverse.Perm e1:=afo e1;refine I5 (F.case L.ok L.one L.six L.ub hp) (gM hp) (by rw[dp];exact show 0<_+1 from qm _) ?_;rw[vR];exact cP
 ·exact I5 (F.case L.ok L.one L.six L.ub (afB _)) (gM (afB _)) h3 Fi
theorem I6(L:Lay σ zs fp ns ps put)(dd:∀x,(e7 put ps)[0]? =I x->st=kE 7 x):Wp σ (BB 149 (.ref 0) v2 (.ref fp) (.bool put) st) λv af=>v=.bool aw:=by
 unfold BB;have aE:0<σ.length:=cE L.qG;have fY:sizeLine=16777216:=rfl;have hq:=L.lists.1;have dH:=L.six;refine al (m:=cH _) aa (al (oC (cB L.zD)) ?_);rw[bC];refine al (qJ ⟨by exact wC,wB (b0 (HF (by assumption)) (by assumption:ps.length<=6)) (by decide)⟩) (jz (l:=i9 0 ns.length) (J:=λaf=>True) aa mx (λi loc ag=>gQ σ ag/\(oj λ(e1:List (Str×V)) (bS:Option V) (cn:Option V) (eQ:Option V)=>mn (loc=(I (.ref 0)::I v2::I (.ref fp)::I (.bool put)::I st::I (.ref σ.length)::bS::cn::eQ::n_17)) (ag[σ.length]? =I (.list (e1.map gp))) (e1.length=i) (e1.map (·.1)=(List.range i).map hZ) (∀(j:Nat) (x:List Str×T),j<i->(e7 put ps)[j]? =I x->(∃sw,e1[j]? =I (hZ j,kW 7 0 sw x))))) (λaf aJ b3 eW=>aL)
  ⟨ct.push,[],U,U,U,aa,cP,aa,aa,λj x bh=>absurd bh (ae7 _)⟩ ?_ ?_)
 ·rintro i v loc cJ aM ⟨le,e1,bS,cn,eQ,rfl,hN,hlen,uT,df⟩;obtain⟨rfl,aI⟩:=r4 aM;have aI:i<ns.length:=by exact kQ ‹_›
  have ao:ns[i]? =I ns[i]:=cD aI;have hp:ps[i]? =I (ps[i]'(by exact fS aI hq)):=cD (by exact fS aI hq);generalize ns[i]=n at ao;generalize ps[i]=p at hp;have oe:=L.le le;have dx:=oe.lists.2 i n p ao hp;have ak:=oR (put:=put) hp;generalize LD:(p,if put=aw/\i=0 then T.var 0 else T.num)=x at ak;have Vo:x.1=p:=by rw[<-LD]
  have p4:(ns.map V.ref)[((i:Nat):Int).toNat]? =I (.ref n):=by rw[Int.toNat_natCast,e6,ao];rfl
  rw[adu];refine al (a:=kE 7 x) (ag:=cJ) ?_ (al (ir oe.zD (i6 _) p4) (al (WT (d:=148) dx) (al (m:=cH _) aa (al (m:=binop _ _ _) (a:=.int (3+(i:Int))) aa ?_))))
  ·refine(a4 zy).trans ((a4 (m:=truth _) aa).trans ?_);by_cases c:i=0
   ·subst c;refine(?_:(M.cond aw (pure st:M V) _) cJ=_);rw[dd x ak];rfl
   ·rw[show((i:Int)==0)=aS from rG.mpr (λq=>c (yN q))];have:x.2=.num:=by rw[<-LD];exact aR λh=>c h.2
    rw[wj this];rfl
  rw[<-Vo];generalize L8:iU (kE 7 x) x.1=lS;have BF:=oe.le (ag:=cJ++[.list [.tup [lS,.tup [.str "number",.int 0]],.tup [.tup [.str "number",.int 0],lS]]]) ct.push;refine Wp.step (vi (d:=148) BF.qG (P2 (by decide) (i6 _))) ?_;rintro _ _ ⟨rfl,c,rfl,cI,c4⟩;refine al (qL (by decide)) (al (mC (by decide)) ?_);have hm:c / 5 % 2=0\/c / 5 % 2=1:=by
   have a:=qu (c / 5) (show(2:Int)≠0 by decide);have b:=qv (c / 5) (show(0:Int)<2 by decide);lia
  have s4:=cB (o':=.list [.tup [lS,.tup [.str "number",.int 0]],.tup [.tup [.str "number",.int 0],lS]]) hN;have fu:=cE hN;have key:∀(a b:V) (sw:Bool),kW 7 0 sw x=cf .sum [a,b]->Wp (cJ++[.list [.tup [lS,.tup [.str "number",.int 0]],.tup [.tup [.str "number",.int 0],lS]]]) (c3 (d9 (aC 149) (.ref σ.length) "append")>>=λW4=>item (V.str "abcdef") (.int (i:Int))>>=λRK=>binop .Add (V.str "r") RK>>=λRJ=>binop .Add (V.tup [(V.str "sum")]) (.tup [a,b])>>=λRI=>runM (aC 149) "append" W4 (.ref σ.length) [(V.tup [RJ,RI])]>>=λaf7=>(pure (bE.next,(I (V.ref 0)::I v2::I (.ref fp)::I (.bool put)::I st::I (.ref σ.length)::I (.int (i:Int))::I lS::I (.tup [a,b])::n_17)):M (bE×Loc))) (Turn (λi loc ag=>gQ σ ag/\(oj λ(e1:List (Str×V)) (bS:Option V) (cn:Option V) (eQ:Option V)=>mn (loc=(I (.ref 0)::I v2::I (.ref fp)::I (.bool put)::I st::I (.ref σ.length)::bS::cn::eQ::n_17)) (ag[σ.length]? =I (.list (e1.map gp))) (e1.length=i) (e1.map (·.1)=(List.range i).map hZ) (∀(j:Nat) (x:List Str×T),j<i->(e7 put ps)[j]? =I x->(∃sw,e1[j]? =I (hZ j,kW 7 0 sw x))))) (λr ag=>Wp ag (dN r) λv af=>v=.bool aw) i):=by
   intro a b sw Wb;refine al (ly s4 aa) (al (Sq (by exact cb 0x304213002020426004260942129022 aa hq dH aI)) (al (m:=binop _ _ _) (a:=.str (hZ i)) (ag:=cJ++[.list [.tup [lS,.tup [.str "number",.int 0]],.tup [.tup [.str "number",.int 0],lS]]]) ?_ (al (m:=binop _ _ _) (a:=cf .sum [a,b]) (ag:=cJ++[.list [.tup [lS,.tup [.str "number",.int 0]],.tup [.tup [.str "number",.int 0],lS]]]) ?_ (al (oD s4 aE (by rw[bC];exact hG 0x4084E0080A10A0010A0E111826084C508A000001F09023 aa fY hq dH hlen aI)) (bZ ⟨ct.jJ (le.trans .push) (bx _),e1++[(hZ i,cf .sum [a,b])],_,_,_,aa,?_,by rw[dp,hlen];rfl,?_,λj y bh a9=>?_⟩)))))
   ·refine(?_:(if (Str.ofString "r").length+(fF (97+i)).length<=sizeLine then pure (V.str (Str.ofString "r" ++ fF (97+i))) else M.bad:M V) _=_);have d8:(Str.ofString "r").length=1:=by decide +kernel
    have eD:(fF (97+i)).length=1:=rfl;rw[aK (by exact bF 0x4294010042510A000001F09023 aa fY eD)];rfl
   ·refine(?_:(if [V.str "sum"].length+[a,b].length<=sizeLine then pure (V.tup ([V.str "sum"]++[a,b])) else M.bad:M V) _=_);rw[aK (by exact show 1+2<=sizeLine from cp 0x8208420082000001F09023 aa fY)];rfl
   ·rw[dY];exact fV s4
   ·rw[dY,uT,afq,dY];rfl
   ·rcases i4 j i with rb|rb
    ·obtain⟨RV,h⟩:=df j y rb a9;exact⟨RV,by rw[pf (by exact fS rb hlen.symm)];exact h⟩
    ·have e:j=i:=by exact iF (bF 0xA4080212802120021 aa bh) (bF 0x2902029021 aa rb)
     subst e;rw[ak]at a9;cases a9;exact⟨sw,by rw[j0 (by exact bF 0x2902029022 aa hlen),hlen,ky,Wb];rfl⟩
  rcases hm with hm|hm
  ·rw[hm];refine al (ir cP (i:=0) (by decide) aa) (key lS (.tup [.str "number",.int 0]) aS ?_);unfold kW;rw[L8];rfl
  ·rw[hm];refine al (ir cP (i:=1) (by decide) aa) (key (.tup [.str "number",.int 0]) lS aw ?_);unfold kW;rw[L8];rfl
 ·rintro loc cJ ⟨le,e1,bS,cn,eQ,rfl,hN,hlen,uT,df⟩;rw[oB,Int.toNat_natCast,hq]at hlen uT df;exact Z0 (L.le le) ⟨hlen,uT,λj x ak=>df j x (by have:=cE ak;rw[jy]at this;exact this) ak⟩ hN
theorem law07:O0 tx07 150:=λzs af=>by
 have aE:([.list (zs.map .int)]:aN)[0]? =I (.list (zs.map .int)):=rfl
 suffices h:Wp [.list (zs.map .int)] (bc 150 "law" [.ref 0]) λv af=>v=.bool aw by
  obtain⟨_,σ,e,rfl⟩:=h;exact⟨σ,e⟩
 rw[adt];refine Wp.step (vi (d:=148) aE (by decide)) ?_;rintro _ _ ⟨rfl,cI,rfl,_,_⟩;refine Wp.step (UK (d:=148)) ?_;rintro _ cJ ⟨dG,nl,ls,rfl,_,oS,bY⟩;have s1:=ct.at dG aE;refine Wp.step (Ts (d:=147) s1 oS bY) ?_;rintro _ b6 ⟨cM,fp,ns,ps,rfl,_,hN,hL,jb,j9,Tu⟩;have s2:=ct.at cM s1;obtain⟨n,ao⟩:(∃n,ns[0]? =I n):=⟨_,cD (by have:=hL.1;exact bF 0x508401004042846408421 aa j9 this)⟩;obtain⟨p,hp⟩:(∃p,ps[0]? =I p):=⟨_,cD (by exact cp 0x4084010040408421 aa j9)⟩;have dx:=hL.2 0 n p ao hp;have oU:(ns.map V.ref)[((0:Nat):Int).toNat]? =I (.ref n):=by rw[Int.toNat_natCast,e6,ao];rfl
 refine Wp.step (P:=λv ag=>ag=b6/\(∃put,v=.bool put/\(put=aw->p.length<3))) ?_ ?_
 ·refine Wp.step (vi (d:=148) s2 (by decide)) ?_;rintro _ b6 ⟨rfl,c,rfl,_,_⟩;refine al (mC (by decide)) (al zy (al (m:=truth _) aa ?_))
  induction c % 2==1 with
  |true=>
   refine gD aa (al (ir hN (i:=0) (by decide) oU) (al (oC dx) ?_));rw[bC];exact al (m:=cmp _ _ _) (a:=.bool (decide ((p.length:Int)<3))) (ag:=b6) aa (bZ ⟨aa,_,aa,λh=>by have:=vL h;exact kQ ‹_›⟩)
  |false=>exact d3 aa (bZ ⟨aa,aS,aa,nofun⟩)
 rintro _ b6 ⟨rfl,put,rfl,Ak⟩;have L:Lay b6 zs fp ns ps put:=⟨s2,hN,hL,jb,j9,Tu,λh q aH=>by replace aH:=hp ▸ aH;cases aH;exact Ak h⟩;have ak:=oR (put:=put) hp;refine al (m:=truth _) aa ?_
 induction put with
 |true=>
  refine gD aa (al (ir hN (i:=0) (by decide) oU) (Wp.step (Th (b:=jK) (d:=149) (λq=>?_) dx (by have:=Ak aa;exact cp 0x12BE090201842120021 aa this)) ?_))
  ·have:=(jb.len p (ee hp)).1;replace this:=q ▸ this;exact absurd this (by decide)
  ·rintro _ dq ⟨rfl,dW⟩;refine I6 (L.le dW) λx gf=>?_;replace gf:=ak ▸ gf;cases gf;rw[aK ⟨aa,aa⟩];exact(ze (x:=(p,T.var 0)) nofun).symm
 |false=>
  refine d3 aa (I6 L λx gf=>?_);replace gf:=ak ▸ gf;cases gf;exact(wj aa).symm
end
end Mine.Internal

end
end
end
open PySem PySem.W PyProof.Rows
set_option tactic.hygienic true in
set_option maxHeartbeats 8000000 in
theorem PySem.Challenge.cw_uf010004_07_holds : PySem.Challenge.rw_uf010004_07.Holds := by
  refine Mine.Internal.front ?_
  intro w s₀ s₁ mg mb G Y fa o pm cd doc dV kV ho hd hcd hD hmg hg args vals as hpre hlay hrd hwl hlo
  refine Ground.open G ?_
  intro T B D TE TW
  have hmg' : mg "law" = some (.ref fa) := Mine.Internal.lawD_name ▸ hmg
  clear hmg
  clear hd hcd hD
  wrow_args hpre hlay hrd hwl hlo
  rename_i zs _ _ _ _ _ _ _ la vs _ hL _ hw _ hI _ hlen _
  have hB := Mine.Internal.base_of (tab := Mine.Internal.tab07) (mtab := Mine.Internal.mt07) (gs := Mine.Internal.gs07) (cs := Mine.Internal.cs07) T TE (by decide +kernel) (by kernel_rfl) (by decide +kernel) (by decide +kernel) (by decide +kernel) (by kernel_rfl)
  refine wpAny_mono (Mine.Internal.law_run (tx := Mine.Internal.tx07) hB (by decide +kernel) hmg' (by decide +kernel) (Mine.Internal.list_at hL hw) hI (by omega) Mine.Internal.law07 (Mine.Internal.room_caller (by decide))) (fun v s' hp => ?_) fun _ _ f => f.elim
  obtain ⟨rfl, h1, h2, h3⟩ := hp
  exact GoodW.toG ⟨.inl ⟨_, .bool true, [], rfl, fun _ => by kernel_rfl, .bool true, by kernel_rfl, fun _ => ⟨List.nodup_nil, fun _ hm => absurd hm List.not_mem_nil⟩⟩, h1, h2, h3.trans hg⟩
