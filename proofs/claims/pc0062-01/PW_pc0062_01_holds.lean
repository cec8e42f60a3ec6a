import PyProof.Rows.All
import Wide.All
import Wide.FinOn
import KE.KDictOf
import KE.KSortTup
import KE.KSuper
import PySem.Challenge.RW_pc0062_01
open Nat renaming le_trans->Wh,le_of_ble_eq_true->Wi,lt_of_lt_of_le->Ww,add_le_add_right->Wy,zero_le->Wz,succ_le_succ->WB,le_refl->WC,le_add_right->WD,lt_of_le_of_lt->WJ,lt_succ_self->WK,add_le_add_left->WL,lt_succ_of_lt->WM,beq->WV,eq_of_beq_eq_true->WY,ble->W2,add_assoc->W3,le_succ->W9,le_of_eq->Xf,ne_of_lt->Xi,add_comm->Xj,le_add_left->Xz,lt_succ_of_le->XA,ble_eq->XD,min_eq_left->X6,succ_pos->X9,add_le_add->Yh,le_of_succ_le->Yo,sub_self->Yq,zero_add->Yx,le_of_succ_le_succ->Yy,le_of_lt->Yz,noConfusion->YG,le_of_lt_succ->YI,lt_irrefl->YM,min_eq_right->YV,lt_add_of_pos_right->YW,le_of_not_le->YX,ne_of_gt->YZ,add_right_comm->Y0,le_succ_of_le->Y2,succ->Y6,not_lt_of_le->Ze,mul_le_mul_left->Zg,min_le_left->Zk,not_lt->Zu,le_antisymm->ZG,lt_trans->ZL,sub_add_cancel->ZR,not_le_of_lt->Z9,min_le_right->aaa,blt->aad,lt_or_eq_of_le->aax,beq_refl->aaD,sub_le->aa9,exists_eq_add_of_le->abp,ne_of_beq_eq_false->abx,mul_succ->aby,lt_or_ge->abz,lt_of_succ_lt_succ->abA,le_total->abB,not_succ_le_zero->abT,mul_le_mul_right->abU,mod_lt->ab6,lt_of_le_of_ne->ab7,lt_trichotomy->ach,lt_of_sub_pos->aci,add_left_comm->acj,le_of_not_lt->acv,mul_le_mul->acR,lt_add_one->acS,succ_sub->ac9,min_self->ada,sub_sub->adi,log2_lt->adj,max_le->adm
open List renaming mem_singleton->Wj,length_map->Wm,mem_cons->Wo,mem_cons_self->Wr,all_eq_true->Wt,mem_cons_of_mem->Wu,length_append->Wv,mem_append->WH,append_nil->WI,size_toArray->WN,nodup_cons->WO,map->WQ,any_eq_true->WR,getElem?_eq_getElem->WS,not_mem_nil->WW,length_cons->WZ,any_cons->W5,mem_append_left->W6,map_append->W8,getElem?_eq_some_iff->Xb,lookup_cons->Xg,getElem?_map->Xh,mem_filter->Xl,append_assoc->Xq,nodup_nil->Xr,getElem?_append_right->Xs,map_map->Xu,length_filter_le->Xv,length_reverse->Xy,mem_append_right->XE,length_eq_zero_iff->XM,isEmpty_iff->XN,flatMap_cons->XO,getElem?_eq_none->XW,pairwise_cons->XZ,mem_of_getElem?->X0,map_cons->X3,take_of_length_le->X7,getD->X8,getElem?_append_left->Yc,mem_map_of_mem->Yd,replicate->Yg,range->Yj,take_left->Yn,length->Ys,map_eq_nil_iff->Yu,any_nil->Yv,length_take->YA,getElem?_toArray->YB,contains_iff_mem->YC,getElem?_eq_none_iff->YE,mem_map->YH,map_congr_left->YN,filterMap_cons->YO,length_drop->YR,isEmpty_map->YS,length_replicate->Y1,take_length->Zb,map_reverse->Zc,filter_cons->Zd,all_cons->Zi,foldl_cons->Zj,filter_cons_of_pos->Zl,filter_cons_of_neg->Zm,nodup_append->Zq,all_map->Zr,lookup->Zv,nil_append->ZD,forIn_cons->ZE,any_map->ZI,zip_cons_cons->ZN,mem_range->ZO,forall_mem_singleton->ZV,foldl_append->ZX,any_eq_false->ZY,cons_ne_nil->Z8,filter_eq_nil_iff->aab,drop_eq_nil_of_le->aac,head?_drop->aae,set_append_right->aag,mem_iff_getElem?->aah,append_toArray->aap,take_add_one->aay,reverse_cons->aaz,getLast?_eq_some_getLast->aaJ,count_cons->aaN,all_append->aaO,tail_drop->aa2,head?->aa3,getD_eq_getElem?_getD->aa4,getLastD_eq_getLast?->aba,length_filterMap_le->abg,drop_nil->abh,any_eq_not_all_not->abl,length_eq_one_iff->abq,getElem?_set_self->abr,take_append_drop->abC,lookup_cons_self->abD,length_singleton->abE,getElem?_reverse->abF,dropLast_eq_take->abG,getElem?_set_ne->abP,replicate_succ->abV,length_take_le->abW,eraseDups_cons->abX,mem_filterMap->ab1,getElem?_take->ab2,length_range->ab8,ext_getElem?->ab9,all_eq_false->aca,tail->ack,mem_reverse->acm,getElem_mem->acn,cons->aco,append_cons->acp,all_reverse->acq,length_zip->acw,take_take->acF,filterMap->acG,drop_take->acH,take_nil->acT,toArray->ac0,map_id->adb,filter->ade,take->adn
open Option.some renaming inj->Wn
open Bool renaming noConfusion->Ws,and_eq_true_iff->WE,and_eq_true->W7,or_false->XC,or_eq_true_iff->XF,eq_iff_iff->XK,and_true->XT,false_ne_true->X1,and_eq_false_iff->Zt,or_eq_false_iff->Zw,or_eq_true->ZF,and_false->ZP,false_or->Z0,false_eq_true->aav,not_not->aaA,not_eq_true'->aaB,false_and->acP,true_and->acY,true->ado
open PySem.Heap renaming get?_push_of_some->Wx,get?_push_size->WA,lt_size->WU,size_push->Yt,SameBut->Yw,get?_update_self->Zs,ExtBut->aaj,get?_update_other->abu
open Int renaming le_trans->WG,le_refl->WT,le_of_eq->W0,le_antisymm->Xa,add_assoc->Xc,toNat_of_nonneg->Xe,one_mul->Xm,ofNat_le->Xn,zero_add->XB,le_of_lt->XH,add_zero->XI,add_comm->XJ,natAbs_add_le->XQ,add_sub_cancel->XS,ofNat_lt->XX,not_lt->X4,lt_of_lt_of_le->X5,sub_eq_zero->Yi,not_le->Yp,natCast_nonneg->YD,toNat_natCast->Y3,sub_nonpos_of_le->Y7,neg_le_of_neg_le->Y8,natAbs_neg->Y9,le_of_lt_add_one->Za,lt_of_le_of_lt->Zo,neg_mul->Zp,sub_nonneg_of_le->Zx,sub_le_sub_right->Zy,neg_neg->Zz,le_of_sub_nonpos->ZA,add_le_add_right->ZC,mul_zero->ZM,sub_add_cancel->ZS,neg_le_neg->ZT,lt_irrefl->Z7,min_eq_left->aai,sub_neg->aal,lt_iff_le_and_ne->aam,toNat_of_nonpos->aas,add_right_neg->aaE,mul_one->aaP,natCast_pos->aaX,natAbs_mul->abb,le_add_of_nonneg_right->abc,add_le_add->abd,le_natAbs->abm,lt_add_of_pos_right->abt,sub_zero->abH,ne_of_gt->abI,lt_trans->abJ,lt_or_le->abK,lt_add_one_of_le->abY,add_lt_add_right->abZ,sub_eq_add_neg->acd,toNat->acx,ofNat_nonneg->acy,min_eq_right->acz,max_eq_right->acA,sub_nonneg->acU,ofNat_inj->ac1,zero_sub->adf,fdiv_one->adg,mul_add->adk,lt_succ->adl,ofNat->adq
open PySem.SetTable renaming below->WX,insertAt->XG,Probe->YJ,runEnd->Z4,has->aao,fill->aaL,mask->abN,bits->abO,fits->ab3
open Option renaming map->W4,isSome_iff_exists->Ye,none->YU,bind_some->Y4,isNone_iff_eq_none->aaW,bind_eq_some_iff->aa8,map_eq_some_iff->abf,getD->abo,isSome_map->abS,map_some->ab5
open Array renaming length_toList->Xd,getElem?_toList->XU,toList_push->ZW,eq_empty_of_size_eq_zero->aaH,toArray_toList->abL,forIn_toList->ab0,toList_inj->acg,mk->adp
open List.cons renaming inj->Xk
open PySem.Str renaming ofString->Xw,length->aaw,length->aaC
open Classical renaming typeDecidableEq->Xx,byContradiction->ZH
open Exists renaming elim->XY
open Nat.succ renaming inj->Yb
open PySem.Around renaming under_plainId->Yk
open PySem.Builtin.Str renaming strSliceIndices->Yl
open PySem.Challenge renaming pw_pc0062_01->Ym,rw_pc0062_01->aaZ
open Prod.mk renaming inj->Yr
open PySem.Builtin.Tuple renaming tupleExact->YF,tupleItemsOf->aaK,tupleHashOf->aaR
open Ne renaming symm->YK
open PySem.Builtin.Int renaming intBits->YL,intTooBig->abj
open PySem.Heap.SameBut renaming update->YQ
open List.Perm renaming refl->YT,swap->acI
open PySem.W renaming instObj->YY,fnIn->acQ,boot_heap->adO,findIn->ad1,boot_drawn->ad6,noRoadLSs->aec,nsIn->aed,keepIn->aee,callWith_of->aek,topFrame->aeo,look_both->aeL,topStub->aeM,topRun->ae0,ks_superIn->ae2,typeIn->ae3,openGood->ae4,kas_sort->ae8,kat_cons->afE,kat_yes->afF,topFrom->afY
open PySem.W.Fast renaming sEq->Y5,tw14364793385576792824->ZJ,te8326940854005059898->aar,te14364793385576792824->aaY,tw4187177175401517315->aa5
open PySem.F renaming slot_tuple_iterator_next->Zf,slot_zip_next->aak,args_list_extend_2->aaV,entry_list_extend->aa1,slot_list_extend->aa7,args_tuple_iterator_next_1->abe,entry_tuple_iterator_next->abi,entry_dict_get->abk,slot_dict_get->abn,slot_tuple_getitem->ace,slot_str_getitem->acB,args_tuple_add_2->acC,slot_tuple_hash->acK,plain_tuple_new->acL,plain_list_iadd->acM,entry_tuple_add->acN,args_zip_next_1->acO,slot_tuple_add->acV,slot_bool_hash->acW,entry_zip_next->acX,slot_set_iter->ac2,slot_int_rmul->ac3,plain_set_new->ac4
open PySem.W.Looks renaming of_pure->Zh
open PyProof.Rows.IntsAre renaming length->Zn
open PySem.SetTable.probe renaming go->ZK
open And renaming right->ZQ,left->aan,intro->abw
open PySem.Builtin.List renaming listTooLong->ZU,listLengthHint->aaI,listSameRef->aa0
open PySem.Builtin.Range renaming rangeSize->ZZ
open Int.ofNat renaming inj->Z6
open PyProof.Rows.F renaming plain_set_update_loop->aaf,entry_set_update_loop->abQ
open Iff renaming rfl->aaq
open PySem.pyHashByItsType renaming reduced->aat
open PySem.PyData renaming strOk->aau,eqv->aaM,canLayAll0->abR,depthAll->ab4,eqvAll->acu
open PySem.Builtin.Slice renaming slicePartIndex->aaF,slicePlaces->aaT
open BEq renaming comm->aaG
open PySem.Heap.DictOf renaming new->aaQ
open PySem.Builtin.SmallTypes renaming nextOf->aaS
open PySem.pickOrder renaming go->aaU
open PySem.Calls renaming call_function_entry->aa6,spliced_cons->aeb,Name_function_global->af5,loadGlobal_builtin->af6
open Decidable renaming not_not->abv,not_and_iff_or_not->adt
open PySem renaming wpAt_of_wpAny->abM,wpAny_bind->adw,Shared->adx,wpAny_pure->ady,Expr->adz,wpAny->adA,model->adB,Around->adC,wpAny_holding->adD,OsState->adF,wpAny_standAt->adG,mainGlobals->adH,rawInt->adI,sizeLine_eq->adJ,pyIter->adK,wpAny_call_entry->adL,starEach->adM,wpAny_field->adN,hashInt->adP,GenState->adQ,codeAny->adR,backTo->adS,wpAny_newObj_type->adT,treeTable->adU,FuncData->adV,builtinsNs->adW,sysModules->adX,getItem->adY,wpAny_rule->adZ,IsPair->ad0,Comprehension->ad2,wpAny_seqItems->ad3,IsZip->ad5,wpAny_specialOf->ad7,codeAny_builtin->ad8,wpAny_ite_split->ad9,typeOf->aea,hashStr->aef,ItemsOf->aeg,again->aeh,wpAny_of_eq->aej,wpAny_callSpecial?_slot->ael,wpAny_point->aem,wpAny_setField_rec->aen,Flow->aep,Const->aeq,binaryOp->aer,compareOp->aes,wpAny_truthy_bool->aet,plainId_quiet->aeu,unsupported->aev,builtinType->aew,builtinType_eq_fast->aex,isTrue->aey,IsPart->aez,assignEach->aeA,wpAny_askSetting->aeB,eqIsQuiet_byValue->aeC,call_meets->aeD,wpAny_mono->aeE,Result->aeF,typeLookup->aeG,wpAny_newList->aeH,codeAny_of_tree->aeI,cellsFrom->aeJ,pushCells->aeK,CmpOp->aeN,Scope->aeO,foldedForSure->aeP,wpAny_isInstance->aeQ,bootBuiltins->aeR,Walks->aeS,wpAny_newTuple->aeT,methodCallPos->aeU,pyNext->aeV,strIterType->aeW,intKind->aeX,intKind_is->aeY,wpAny_setState_of->aeZ,BoolOp->ae1,wpAny_Name->ae5,setItem->ae6,isSubtype_type->ae7,entryFor->afb,getMethod->afc,bindArgs->afd,callWith->afe,wpAny_call->afg,backToKw->afh,keywordEach->afi,methodCall->afj,wpAny_attempt->afk,runOwn->afl,codeAny_mono->afm,relabel->afn,swapsWith->afo,swappedStores->afp,argsOk->afq,Operator->afr,UnaryOp->afs,wpAny_ret_mkInt->aft,wpAny_pyHash_int->afu,wpAny_pyHash_str->afv,storeName->afw,typeIs_int->afx,wpAny_pyIter_tuple->afy,wpAny_pyIter_list->afz,typeLookup_type->afG,builtinLookup_eq_fast->afH,wpAny_collect_seq->afI,call_meetsIn->afJ,pushCells_keeps->afK,evalEach->afL,subscripted->afM,methodCallForm->afN,arm_assign_Name->afO,letOwnedTupleGo->afP,firstArgMember->afQ,ZipApart->afR,wpAny_onRaise->afS,foldedSetIterable->afT,arm_execs_nil->afU,bindName->afV,pickOrder->afW,wpAny_setEntries_of->afX,wpAny_ite_false->afZ,wpAny_callSpecialIfBoundUnlessNone?_slot->af0,wpAny_eqBool_int->af1,wpAny_loadName_local->af2,wpAny_loadName_cell->af3,wpAny_loadName_free->af4,eval_Constant->af7,wpAny_mkText->af8,concat_meets->af9,noFill_tuple_add->aga,seq_tuple_add->agb,wpAny_runValue->agc,wpAny_updateSeq->agd,entryFor_of_tree->agj,wpAny_pyIter_range->agk,callType_codes->agl,getMethod_builtin->agm,wpAny_list_append_plain->agn,recursionLimit->ago,arm_eval_UnaryOp->agp,arm_eval_Tuple->agr,wpAny_letTemporaryGo->agt,list_getitem_lookup->agu,wpAny_sequenceKey->agv,arm_eval_Call->agx,arm_assign_Tuple->agy,wpAny_pyIter_enum->agz,wpAny_setField->agA,wpAny_handled->agB,wpAny_updateSeq_pair->agC,isSubtype_stop->agD,wpAny_pyIter_zip->agE,foldedIterable->agF,wpAny_runOwn->agG,slot_list_setitem->agH,exec_Assign_arm->agI,pairTrees_length->agJ,entryFor_alias->agK,wpAny_pyIter_slot->agL,wpAny_fieldsOf->agM
open List.Pairwise renaming map->acb
open PySem.Env renaming kindOf->acf
open PySem.P renaming lt_int->acr,gt_int->acs
open Prod renaming ext->acD
open PySem.W.OpenLaw renaming row->acE
open PySem.IsRange renaming new->acJ
open PySem.Walks renaming tuple->acZ,list->ac7
open PySem.swappedStores renaming match_8->ac5,match_5->ac6
open PUnit renaming unit->ac8
open Sum.inl renaming inj->adh
open PySem.DictEntry renaming refKey->ads
open PySem.AutoListH renaming list___mul___list_int_3->adu
open PyProof.Rows renaming seqObj->adE,IntsAre->ad4,sortedHeap->aei,listUpdate_at->ae9,seqEpoch_at->afa,wpAny_release'->aff,slot_list_sort->afA,entry_list_sort->afB,args_list_sort->afC,sortedHeap_old->afD,plain_sorted->age,entry_sorted->agf,args_sorted1->agg,list_sort_plain->agh,listItems_at->agi,markedEach_of_false->agq,subscriptTail->ags,slot_tuple_getitem->agw
set_option Elab.async false
set_option genSizeOf false
set_option genInjectivity false
set_option bootstrap.genMatcherCode false
set_option linter.all false
set_option exponentiation.threshold 2000
set_option maxRecDepth 100000
noncomputable section
namespace Mm
def agN:=@congrArg
def agO:=@if_pos
def agP:=@if_neg
def agQ:=@beq_iff_eq
noncomputable def agR:=@absurd
def agS:=@of_decide_eq_true
def agT:=@decide_eq_true
def agU:=@decide_eq_true_iff
def agV:=@beq_eq_false_iff_ne
def agW:=@beq_self_eq_true
def agX:=@decide_eq_false_iff_not
def agY:=@decide_eq_false
def agZ:=@of_decide_eq_false
def ag0:=@bne_iff_ne
def ag1:=@Classical.byContradiction
end Mm
open Mm
namespace HL
open PySem PySem.W PyProof.Rows PySem.Calls
def A8{L:Look}{l:List Stmt}(k:Nat)(h:aec L (l.take k))(t:aec L (l.drop k)):aec L l:=by
 have:∀a b:List Stmt,aec L a->aec L b->aec L (a++b):=by
  intro a b G hb
  induction a with
  |nil=>exact hb
  |cons x a i=>
   have G:(noRoadLS L x&&aec L a):=G;exact aeL (a:=noRoadLS L x) (WE.mp G).1<|i (WE.mp G).2
 exact abC k l▸this _ _ h t
def Pa{L:Look}{l:List Stmt}(h:PySem.W.Fast.tw8326940854005059898 L l):aec L l:=(congrFun (congrFun aar _) _).trans h
set_option maxHeartbeats 0 in
def ws:OpenLaw.wellSaid PySem.Challenge.rw_pc0062_01:=by
 refine(congrFun PySem.W.Fast.te9446332074065402090 _).trans ?_;delta PySem.W.Fast.tw9446332074065402090
 repeat' (with_reducible apply aeL)
 case' x.x.x.x.x.x.x.x.x.x.x.x.x.x.x.x.x.x=>
  delta PySem.W.Fast.tw17960256430627541270
  repeat' (with_reducible apply aeL)
  case' x.x=>
   delta PySem.W.Fast.tw2436336058641802641
   repeat' (with_reducible apply aeL)
   case' x.x.x.x.x.x.x.x.x.x.x.x=>
    delta PySem.W.Fast.tw12908688711261696721
    repeat' (with_reducible apply aeL)
    rotate_left 4;refine(congrFun (congrFun aar _) _).symm.trans ?_;have e:∀a b:Bool,∀l m:List Str,a=b->l=m->({strict:=a,foot:=none,bare:=l}:Look)={strict:=b,foot:=none,bare:=m}:=by
     rintro a _ l _ rfl rfl;rfl
    rw[e _ false _ [] (by decide+kernel) (by decide+kernel)];refine A8 60 (Pa ?_)<|A8 24 (Pa ?_)<|Pa ?_
 all_goals (decide+kernel)
noncomputable abbrev P:=Ym
noncomputable def ev:Env:={scope:=P.main.scope,locals:=mainNs,globals:=mainNs,cells:=[],code:=.ref 13,frame:=some 14}
def bd:List Stmt:=behindTheImports P
noncomputable def ps:Pos:=⟨0,0,0,0⟩
noncomputable def VS:Option Value:=some<|.ref 6
def A0(w:World)(os:adF):Option (adx×Thread):=Fast.tw15667345088766844465 ZJ P w 11 VS 12 ⟨adO w.params,#[],ad6,boot_toks,os⟩<|aeM P
noncomputable def bt(l:List Obj):BT:=(l.foldl (λp o=>(p.1.ins p.2 o,p.2+1)) (BT.nil,0)).1
def S0(w:World)(os:adF):SharedT:=match A0 w os with
 |some (s,_)=>⟨bt s.heap.objs.toList,s.heap.objs.size,s.heap.life,s.gens,s.drawn,s.toks,s.os⟩
 |none=>⟨.nil,0,(adO w.params).life,#[],ad6,0,os⟩
def Qf(w:World)(os:adF):A0 w os=some ((S0 w os).abs,⟨Fast.tw11892475500146522536 ZJ (.body bd ev),.body bd ev,ps,[aeo ps]⟩):=by kernel_rfl
def pre(w:World)(os:adF):topGo adU P w 11 VS 12 ⟨adO w.params,#[],ad6,boot_toks,os⟩ (aeM P)=some ((S0 w os).abs,⟨denote adU (.body bd ev),.body bd ev,ps,[aeo ps]⟩):=by
 rw[Fast.te15667345088766844465,aaY,Fast.te11892475500146522536];exact Qf w os
def th:Thread:=⟨(Fast.tw12563942051412417395 bd ev).wrap doneF deadEnd id id,.body bd ev,ps,[aeo ps]⟩
def R(w:World)(os:adF):Option (aep×SharedT×Code×Pos):=Fast.tw10110043849684766642 ZJ P w 11 VS 1 8272 (S0 w os) th
def Qs(w:World)(os:adF):segRunT adU P w 11 VS 1 8272 (S0 w os) (piecesOf bd ev (.body bd ev) ps [aeo ps])=R w os:=by
 show segRunT adU P w 11 VS 1 8272 (S0 w os) ⟨(execs bd ev).wrap doneF deadEnd id id,.body bd ev,ps,[aeo ps]⟩=_;rw[Fast.te10110043849684766642,aaY,Fast.te12563942051412417395]
 rfl
def fin(T:String->Option Builtin)(p:Program)(w:World)(s:adx)(c:Code)(q:Pos):ae0 T p w 11 VS 2 s ⟨doneF .next,c,q,[aeo ps]⟩=some s:=by
 obtain⟨h,g,drawn,t,os⟩:=s
 rfl
def V7(w:World)(s:adx):segRun adU P w 11 VS 1 1 s (blockOf bd ev (.body bd ev) ps [aeo ps])=some (.next,s,.body bd ev,ps):=by
 obtain⟨h,g,drawn,t,os⟩:=s
 kernel_rfl
def run{w:World}{os:adF}{S:SharedT}{q:Pos}(h:R w os=some (.next,S,.body bd ev,q)):
  ae0 adU P w 11 VS (12+(1+(8272+2))) ⟨adO w.params,#[],ad6,boot_toks,os⟩ (aeM P)=some S.abs:=by
 refine go_top (pre w os)<|piece_block (V7 w _) ?_;have e:bd=bd++[]:=(WI bd).symm;have k:=piece_app (rest:=[]) (segRun_of<|(Qs w os).trans h)<|piece_nil<|fin adU P w S.abs (.body bd ev) q;rw[WI] at k;exact k
def Ke(w:World):((adO w.params).isNs adH,(adO w.params).objs.size,(adO w.params).nsMap adH "__annotations__")=(true,11,VS):=by kernel_rfl
def Mk:∀w:World,(fencedOpening adU P w 100000).map (λs=>(s.heap,s.gens,s.drawn,s.toks))=some (adO w.params,adp [],ad6,boot_toks):=
 boot_open (by kernel_rfl) (by decide) λs=>by kernel_rfl
def q:Program:=view P [107]
noncomputable def loose:List Str:=P.boundNames.filter λn=>n !=("law":Str)
def uU(w:World)(s:adx):Bool:=staticsOk (importedModules P.main.body) (adO w.params) s.heap&&namesBound P s.heap&&gensDone s&&laidKept (adO w.params) s.heap
def t0:(defOf q "law").isSome:=by decide+kernel
end HL
namespace Mm
@[elab_as_elim] def aa{L:Sort _}{a:L}{p:L->Prop}{b:L}(h:a=b)(x:p b):p a:=h▸x
@[elab_as_elim] def av{L:Sort _}{a:L}{p:L->Prop}{b:L}(h:b=a)(x:p b):p a:=h▸x
section
variable{A B D E F H I J C:Sort _}{G:Prop}{Z:C->Prop}{d:C}{a c m r a5 a6 a7 a8 a9:Prop}{b1 b2 b3 b4:A->Prop}{b e n L c5 c6:A->B->Prop}{i j o M d5 d6:A->B->D->Prop}{k l p N e5 e6:A->B->D->E->Prop}{Q T U Y f5 f6 f7 f8 f9:A->B->D->E->F->Prop}{g1 g2:A->B->D->E->F->H->Prop}{i1 i2 i3 i4 i5 i6 i7 i8:A->B->D->E->F->H->I->J->Prop}
def ak(h:a/\c)(q:a->c->G):G:=q h.1 h.2
def aC(h:a/\c/\m)(q:a->c->m->G):G:=q h.1 h.2.1 h.2.2
def aV(h:a/\c/\m/\r)(q:a->c->m->r->G):G:=q h.1 h.2.1 h.2.2.1 h.2.2.2
def dQ(h:a/\c/\m/\r/\a5/\a6)(q:a->c->m->r->a5->a6->G):G:=q h.1 h.2.1 h.2.2.1 h.2.2.2.1 h.2.2.2.2.1 h.2.2.2.2.2
def dA(h:a/\c/\m/\r/\a5/\a6/\a7/\a8/\a9)(q:a->c->m->r->a5->a6->a7->a8->a9->G):G:=q h.1 h.2.1 h.2.2.1 h.2.2.2.1 h.2.2.2.2.1 h.2.2.2.2.2.1 h.2.2.2.2.2.2.1 h.2.2.2.2.2.2.2.1 h.2.2.2.2.2.2.2.2
def dS(h:a/\c/\∃x y,b x y/\e x y)(q:a->c->∀x y,b x y->e x y->G):G:=h.2.2.elim λx g=>g.elim λy g=>q h.1 h.2.1 x y g.1 g.2
def cM(h:a/\∃x,b1 x)(q:a->∀x,b1 x->G):G:=h.2.elim λx g=>q h.1 x g
def kO(h:a/\∃x,b1 x/\b2 x)(q:a->∀x,b1 x->b2 x->G):G:=h.2.elim λx g=>q h.1 x g.1 g.2
def dF(h:a/\∃x,b1 x/\b2 x/\b3 x)(q:a->∀x,b1 x->b2 x->b3 x->G):G:=h.2.elim λx g=>q h.1 x g.1 g.2.1 g.2.2
def Fy(h:a/\∃x y,b x y)(q:a->∀x y,b x y->G):G:=h.2.elim λx g=>g.elim λy g=>q h.1 x y g
def dN(h:a/\∃x y z w v,Q x y z w v/\T x y z w v/\U x y z w v/\Y x y z w v/\f5 x y z w v/\f6 x y z w v/\f7 x y z w v)(q:a->∀x y z w v,Q x y z w v->T x y z w v->U x y z w v->Y x y z w v->f5 x y z w v->f6 x y z w v->f7 x y z w v->G):G:=h.2.elim λx g=>g.elim λy g=>g.elim λz g=>g.elim λw g=>g.elim λv g=>q h.1 x y z w v g.1 g.2.1 g.2.2.1 g.2.2.2.1 g.2.2.2.2.1 g.2.2.2.2.2.1 g.2.2.2.2.2.2
@[elab_as_elim] def GF{f:C}(h:d=f/\a)(q:a->Z f):Z d:=h.1.symm▸q h.2
@[elab_as_elim] def nI{f:C}(h:d=f/\∃x y z w v,Q x y z w v/\T x y z w v/\U x y z w v/\Y x y z w v)(q:∀x y z w v,Q x y z w v->T x y z w v->U x y z w v->Y x y z w v->Z f):Z d:=h.2.elim λx g=>g.elim λy g=>g.elim λz g=>g.elim λw g=>g.elim λv g=>h.1.symm▸q x y z w v g.1 g.2.1 g.2.2.1 g.2.2.2
def af(h:∃x,b1 x)(q:∀x,b1 x->G):G:=h.elim λx h=>q x h
def ae(h:∃x,b1 x/\b2 x)(q:∀x,b1 x->b2 x->G):G:=h.elim λx h=>q x h.1 h.2
def aj(h:∃x,b1 x/\b2 x/\b3 x)(q:∀x,b1 x->b2 x->b3 x->G):G:=h.elim λx h=>q x h.1 h.2.1 h.2.2
def aK(h:∃x,b1 x/\b2 x/\b3 x/\b4 x)(q:∀x,b1 x->b2 x->b3 x->b4 x->G):G:=h.elim λx h=>q x h.1 h.2.1 h.2.2.1 h.2.2.2
def jb(h:∃x,b1 x/\b2 x/\∃y,b x y)(q:∀x,b1 x->b2 x->∀y,b x y->G):G:=h.elim λx h=>h.2.2.elim λy g=>q x h.1 h.2.1 y g
def d9(h:∃x y,b x y)(q:∀x y,b x y->G):G:=h.elim λx h=>h.elim λy h=>q x y h
def cF(h:∃x y,b x y/\e x y)(q:∀x y,b x y->e x y->G):G:=h.elim λx h=>h.elim λy h=>q x y h.1 h.2
def aq(h:∃x y,b x y/\e x y/\n x y)(q:∀x y,b x y->e x y->n x y->G):G:=h.elim λx h=>h.elim λy h=>q x y h.1 h.2.1 h.2.2
def aG(h:∃x y,b x y/\e x y/\n x y/\L x y)(q:∀x y,b x y->e x y->n x y->L x y->G):G:=h.elim λx h=>h.elim λy h=>q x y h.1 h.2.1 h.2.2.1 h.2.2.2
def az(h:∃x y,b x y/\e x y/\n x y/\L x y/\c5 x y)(q:∀x y,b x y->e x y->n x y->L x y->c5 x y->G):G:=h.elim λx h=>h.elim λy h=>q x y h.1 h.2.1 h.2.2.1 h.2.2.2.1 h.2.2.2.2
def eP(h:∃x y,b x y/\e x y/\n x y/\L x y/\c5 x y/\c6 x y)(q:∀x y,b x y->e x y->n x y->L x y->c5 x y->c6 x y->G):G:=h.elim λx h=>h.elim λy h=>q x y h.1 h.2.1 h.2.2.1 h.2.2.2.1 h.2.2.2.2.1 h.2.2.2.2.2
def uZ(h:∃x y z,i x y z)(q:∀x y z,i x y z->G):G:=h.elim λx h=>h.elim λy h=>h.elim λz h=>q x y z h
def jn(h:∃x y z,i x y z/\j x y z)(q:∀x y z,i x y z->j x y z->G):G:=h.elim λx h=>h.elim λy h=>h.elim λz h=>q x y z h.1 h.2
def bK(h:∃x y z,i x y z/\j x y z/\o x y z)(q:∀x y z,i x y z->j x y z->o x y z->G):G:=h.elim λx h=>h.elim λy h=>h.elim λz h=>q x y z h.1 h.2.1 h.2.2
def aY(h:∃x y z,i x y z/\j x y z/\o x y z/\M x y z)(q:∀x y z,i x y z->j x y z->o x y z->M x y z->G):G:=h.elim λx h=>h.elim λy h=>h.elim λz h=>q x y z h.1 h.2.1 h.2.2.1 h.2.2.2
def gD(h:∃x y z,i x y z/\j x y z/\o x y z/\M x y z/\d5 x y z)(q:∀x y z,i x y z->j x y z->o x y z->M x y z->d5 x y z->G):G:=h.elim λx h=>h.elim λy h=>h.elim λz h=>q x y z h.1 h.2.1 h.2.2.1 h.2.2.2.1 h.2.2.2.2
def jx(h:∃x y z,i x y z/\j x y z/\o x y z/\M x y z/\d5 x y z/\d6 x y z)(q:∀x y z,i x y z->j x y z->o x y z->M x y z->d5 x y z->d6 x y z->G):G:=h.elim λx h=>h.elim λy h=>h.elim λz h=>q x y z h.1 h.2.1 h.2.2.1 h.2.2.2.1 h.2.2.2.2.1 h.2.2.2.2.2
def bQ(h:∃x y z w,k x y z w/\l x y z w/\p x y z w)(q:∀x y z w,k x y z w->l x y z w->p x y z w->G):G:=h.elim λx h=>h.elim λy h=>h.elim λz h=>h.elim λw h=>q x y z w h.1 h.2.1 h.2.2
def bE(h:∃x y z w,k x y z w/\l x y z w/\p x y z w/\N x y z w)(q:∀x y z w,k x y z w->l x y z w->p x y z w->N x y z w->G):G:=h.elim λx h=>h.elim λy h=>h.elim λz h=>h.elim λw h=>q x y z w h.1 h.2.1 h.2.2.1 h.2.2.2
def hV(h:∃x y z w,k x y z w/\l x y z w/\p x y z w/\N x y z w/\e5 x y z w/\e6 x y z w)(q:∀x y z w,k x y z w->l x y z w->p x y z w->N x y z w->e5 x y z w->e6 x y z w->G):G:=h.elim λx h=>h.elim λy h=>h.elim λz h=>h.elim λw h=>q x y z w h.1 h.2.1 h.2.2.1 h.2.2.2.1 h.2.2.2.2.1 h.2.2.2.2.2
@[elab_as_elim] def tc{f:A->B->D->E->C}(h:∃x y z w,d=f x y z w/\k x y z w/\l x y z w)(q:∀x y z w,k x y z w->l x y z w->Z (f x y z w)):Z d:=h.elim λx h=>h.elim λy h=>h.elim λz h=>h.elim λw h=>h.1.symm▸q x y z w h.2.1 h.2.2
@[elab_as_elim] def nJ{f:A->B->D->E->C}(h:∃x y z w,d=f x y z w/\k x y z w/\l x y z w/\p x y z w/\N x y z w/\e5 x y z w)(q:∀x y z w,k x y z w->l x y z w->p x y z w->N x y z w->e5 x y z w->Z (f x y z w)):Z d:=h.elim λx h=>h.elim λy h=>h.elim λz h=>h.elim λw h=>h.1.symm▸q x y z w h.2.1 h.2.2.1 h.2.2.2.1 h.2.2.2.2.1 h.2.2.2.2.2
def ji(h:∃x y z w v,Q x y z w v/\T x y z w v/\U x y z w v/\Y x y z w v/\f5 x y z w v/\f6 x y z w v/\f7 x y z w v/\f8 x y z w v/\f9 x y z w v)(q:∀x y z w v,Q x y z w v->T x y z w v->U x y z w v->Y x y z w v->f5 x y z w v->f6 x y z w v->f7 x y z w v->f8 x y z w v->f9 x y z w v->G):G:=h.elim λx h=>h.elim λy h=>h.elim λz h=>h.elim λw h=>h.elim λv h=>q x y z w v h.1 h.2.1 h.2.2.1 h.2.2.2.1 h.2.2.2.2.1 h.2.2.2.2.2.1 h.2.2.2.2.2.2.1 h.2.2.2.2.2.2.2.1 h.2.2.2.2.2.2.2.2
def eS(h:∃x y z w v u,g1 x y z w v u/\g2 x y z w v u)(q:∀x y z w v u,g1 x y z w v u->g2 x y z w v u->G):G:=h.elim λx h=>h.elim λy h=>h.elim λz h=>h.elim λw h=>h.elim λv h=>h.elim λu h=>q x y z w v u h.1 h.2
def c9(h:∃x y z w v u t s,i1 x y z w v u t s/\i2 x y z w v u t s/\i3 x y z w v u t s/\i4 x y z w v u t s/\i5 x y z w v u t s/\i6 x y z w v u t s/\i7 x y z w v u t s/\i8 x y z w v u t s)(q:∀x y z w v u t s,i1 x y z w v u t s->i2 x y z w v u t s->i3 x y z w v u t s->i4 x y z w v u t s->i5 x y z w v u t s->i6 x y z w v u t s->i7 x y z w v u t s->i8 x y z w v u t s->G):G:=h.elim λx h=>h.elim λy h=>h.elim λz h=>h.elim λw h=>h.elim λv h=>h.elim λu h=>h.elim λt h=>h.elim λs h=>q x y z w v u t s h.1 h.2.1 h.2.2.1 h.2.2.2.1 h.2.2.2.2.1 h.2.2.2.2.2.1 h.2.2.2.2.2.2.1 h.2.2.2.2.2.2.2
end
def cB{L Y:Type}{o:Option L}{f:L->Option Y}{b:Y}{G:Prop}(h:o.bind f=some b)(q:∀a,o=some a->f a=some b->G):G:=ae (aa8.mp h) q
def fZ{L Y:Type}{o:Option L}{f:L->Y}{b:Y}{G:Prop}(h:o.map f=some b)(q:∀a,o=some a->f a=b->G):G:=ae (abf.mp h) q
def fc{L Y:Type}{l:List L}{f:L->Y}{b:Y}{G:Prop}(h:b∈l.map f)(q:∀a,a∈l->f a=b->G):G:=ae (YH.mp h) q
section
variable{a b c d k m n x y:Nat}
def cy(h:a<=b)(e:W2 b c):a<=c:=Wh h<|Wi e
def yY(h:a<=b)(e:W2 (b+1) c):a<c:=WJ h<|Wi e
def Pp(h:a<b)(e:W2 b c):a<c:=Ww h<|Wi e
def E5(h:a<b)(e:W2 b (c+1)):a<=c:=YI<|Ww h<|Wi e
def ab(e:W2 a b):a<=b:=Wi e
def fg(h:a+(k+1)<=b):a<b:=Ww (YW<|X9 k) h
def tM(h:a+k<=b):a<=b:=Wh (WD ..) h
def Nj(h:a+k<b):a<b:=WJ (WD ..) h
def l6(e:a=b)(h:b<=c):a<=c:=e▸h
def rA(e:b=a)(h:b<=c):a<=c:=e▸h
def K4(e:b=a)(h:b<c):a<c:=e▸h
def jq(e:a=b)(h:c<b):c<a:=e▸h
def Gf(e:b=a)(h:c<b):c<a:=e▸h
def lA(h:a<b+1)(e:¬a=b):a<b:=ab7 (YI h) e
def nM(h:a+b<=c)(g:d<=b):a+d<=c:=Wh (WL g a) h
def NU(h:a+b<=c)(g:d<=a):d+b<=c:=Wh (Wy g b) h
def zC(h:a<=b)(g:c<=d)(e:W2 (b+d) k):a+c<=k:=Wh (Yh h g)<|Wi e
def mZ(h:a<=b)(e:W2 (b+d) k):a+d<=k:=Wh (Wy h d)<|Wi e
def gy(h:a<=b)(e:W2 (d+b) k):d+a<=k:=Wh (WL h d)<|Wi e
def Cy(h:a+(b+c)=d):a+c+b=d:=by rw[W3,Xj c];exact h
def Nb:0+a<=a:=Xf<|Yx a
def mz(h:a+(b+1)<=c):a+1+b<=c:=by rw[W3,Xj 1];exact h
def BP(h:a - b=0)(g:b<=a):b=a:=ZG g<|Nat.sub_eq_zero_iff_le.mp h
def uG(h:a+(k+1)=b):a<b:=h▸YW (X9 k)
def GU(h:a=b+(k+1)):b<a:=h▸YW (X9 k)
def Gr(h:a<=b+k)(g:c<=a+m):c<=b+(k+m):=Wh g<|W3 b k m▸Wy h m
def GH(h:a+(k+m)<=b)(g:c<=a+k):c+m<=b:=Wh (Wy g m)<|W3 a k m▸h
def Mc(h:a<b)(g:b+k<=c):a<c:=Ww h<|tM g
def NQ(h:a<=b+c)(g:c<=d):a<=b+d:=Wh h<|WL g b
def Bh(h:a<=b):a - c<=b:=Wh (aa9 ..) h
def qI(h:a<=b):min c a<=b:=Wh (aaa ..) h
def MT(h:a<=b):min a c<=b:=Wh (Zk ..) h
def GQ(h:a<b)(g:b<=a):False:=YM _<|Ww h g
def K6(h:a+(k+1)<=c):a+k<c:=h
def MO(h:n - a=k+1):n - (a+1)=k:=by rw[<-adi,h];rfl
def MJ(h:n - a=k+1):a<n:=aci<|h▸X9 k
variable{i j l h u v w:Int}
def EC(f:i<=j)(e:decide (j<=l)=true):i<=l:=WG f<|agS e
def HD(f:l<=i)(e:decide (j<=l)=true):j<=i:=WG (agS e) f
def PK(f:i<j)(e:decide (j<=l)=true):i<l:=X5 f<|agS e
def Qa(f:i<=j)(e:decide (j<l)=true):i<l:=Zo f<|agS e
def wJ(f:i<j)(g:j<=i):False:=Z7 _<|X5 f g
def x5(f:¬i<j):j<=i:=X4.mp f
def j9(f:i<=j):¬j<i:=X4.mpr f
def Ay(f:¬i<j)(g:¬j<i):i=j:=Xa (X4.mp g)<|X4.mp f
def GK(f:i=j)(g:l<=j):l<=i:=f▸g
def Hg(f:i=j)(g:j<l):i<l:=f▸g
def Cq(f:a<b):(a:Int)<b:=XX.mpr f
def LC(f:a<=b):(a:Int)<=b:=Xn.mpr f
def KL(f:(a:Int)=b):a=b:=ac1.mp f
def Gx(f:i=(k:Int)):i.toNat=k:=by subst f;exact Y3 k
def uI(f:a<=b):((a:Int)).natAbs<=b:=f
def uY(f:i<=j): -j<= -i:=ZT f
def QB(h:n<1):n=0:=Nat.lt_one_iff.mp h
def tE(h:n<k+1):n<k\/n=k:=Nat.lt_succ_iff_lt_or_eq.mp h
def ud(h:n<2):n=0\/n=1:=(tE h).imp_left QB
def Li(h:n<3):n=0\/n=1\/n=2:=or_assoc.mp<|(tE h).imp_left ud
def MV(h:n<4):n=0\/n=1\/n=2\/n=3:=(or_assoc.mp<|(tE h).imp_left Li).imp_right or_assoc.mp
def zS(h:n<5):n=0\/n=1\/n=2\/n=3\/n=4:=(or_assoc.mp<|(tE h).imp_left MV).imp_right λh=>(or_assoc.mp h).imp_right or_assoc.mp
def Lz(h:n<6):n=0\/n=1\/n=2\/n=3\/n=4\/n=5:=(or_assoc.mp<|(tE h).imp_left zS).imp_right λh=>(or_assoc.mp h).imp_right λh=>(or_assoc.mp h).imp_right or_assoc.mp
def Kt(h:n<7):n=0\/n=1\/n=2\/n=3\/n=4\/n=5\/n=6:=(or_assoc.mp<|(tE h).imp_left Lz).imp_right λh=>(or_assoc.mp h).imp_right λh=>(or_assoc.mp h).imp_right λh=>(or_assoc.mp h).imp_right or_assoc.mp
def NK(h:¬n<2)(g:n<5):n=2\/n=3\/n=4:=match zS g with
 |.inl e=>(h (by subst e;decide)).elim
 |.inr (.inl e)=>(h (by subst e;decide)).elim
 |.inr (.inr e)=>e
def H8(f:0<=i):∃n:Nat,i=n:=⟨_,(Xe f).symm⟩
def xU{q:Nat->Prop}{p:Int->Prop}(f:0<=i)(g:i<(m:Nat))(r:∀n,n<m->q n)(s:∀n:Nat,q n->p n):p i:=by
 obtain⟨n,rfl⟩:=H8 f;exact s n<|r n<|XX.mp g
def Mv(f:0<=i)(g:i<2):i=0\/i=1:=xU (m:=2) (p:=λi=>i=0\/i=1) f g (λ_=>ud) λ_ h=>h.imp (agN _)<|agN _
def O6(f:0<=i)(g:i<3):i=0\/i=1\/i=2:=xU (m:=3) (p:=λi=>i=0\/i=1\/i=2) f g (λ_=>Li) λ_ h=>h.imp (agN _) λh=>h.imp (agN _)<|agN _
def Pt(f:0<=i)(g:i<4):i=0\/i=1\/i=2\/i=3:=xU (m:=4) (p:=λi=>i=0\/i=1\/i=2\/i=3) f g (λ_=>MV) λ_ h=>h.imp (agN _) λh=>h.imp (agN _) λh=>h.imp (agN _)<|agN _
def O8(f:0<=i)(g:i<5):i=0\/i=1\/i=2\/i=3\/i=4:=xU (m:=5) (p:=λi=>i=0\/i=1\/i=2\/i=3\/i=4) f g (λ_=>zS) λ_ h=>h.imp (agN _) λh=>h.imp (agN _) λh=>h.imp (agN _) λh=>h.imp (agN _)<|agN _
def Pd(f:0<=i)(g:i<6):i=0\/i=1\/i=2\/i=3\/i=4\/i=5:=xU (m:=6) (p:=λi=>i=0\/i=1\/i=2\/i=3\/i=4\/i=5) f g (λ_=>Lz) λ_ h=>h.imp (agN _) λh=>h.imp (agN _) λh=>h.imp (agN _) λh=>h.imp (agN _) λh=>h.imp (agN _)<|agN _
def Qo(f:0<=i)(g:i<7):i=0\/i=1\/i=2\/i=3\/i=4\/i=5\/i=6:=xU (m:=7) (p:=λi=>i=0\/i=1\/i=2\/i=3\/i=4\/i=5\/i=6) f g (λ_=>Kt) λ_ h=>h.imp (agN _) λh=>h.imp (agN _) λh=>h.imp (agN _) λh=>h.imp (agN _) λh=>h.imp (agN _) λh=>h.imp (agN _)<|agN _
def EH(f: -(n:Int)<=i)(g:i<=n):i.natAbs<=n:=by
 obtain e|e:=Int.natAbs_eq i
 ·exact Xn.mp (e▸g)
 ·exact Xn.mp (Int.le_of_neg_le_neg<|e▸f)
def n7(f:i.natAbs<=n): -(n:Int)<=i/\i<=n:=⟨Y8<|WG (Y9 i▸abm)<|Xn.mpr f,WG abm<|Xn.mpr f⟩
def dC(f:i.natAbs<=m)(g:j.natAbs<=n):(i+j).natAbs<=m+n:=Wh (XQ ..)<|Yh f g
def A3: -1*i= -i:=by rw[Zp,Xm]
def jT:i+ -1*j=i - j:=by rw[A3];rfl
def fw(f:i.natAbs<=m)(g:j.natAbs<=n)(e:W2 (m+n) k):(i+ -1*j).natAbs<=k:=Wh (dC f (by rw[A3,Y9];exact g)) (Wi e)
def gS(f:i.natAbs<=m)(g:j.natAbs<=n)(h:l.natAbs<=d)(e:W2 (m+n+d) k):(i+ -1*j+1*l).natAbs<=k:=Wh (dC (fw f g<|XD.mpr<|WC _) (by rw[Xm];exact h)) (Wi e)
def gk(h: -1<=i/\i<=1)(e:W2 1 k):i.natAbs<=k:=Wh (EH (n:=1) h.1 h.2)<|Wi e
def Bv(h: -1<=i/\i<=1)(e:W2 2 k):(i+1).natAbs<=k:=Wh (dC (n:=1) (gk h (k:=1) rfl)<|WC 1)<|Wi e
def G8(h: -1<=i/\i<=1)(g:j=2\/j=3)(e:W2 4 k):(i+j).natAbs<=k:=Wh (dC (n:=3) (gk h (k:=1) rfl)<|g.elim (λe=>e▸by decide) λe=>e▸by decide) (Wi e)
def Bp(h: -1<=i/\i<=1)(g:j=2\/j=3)(e:W2 5 k):(i+j - 1).natAbs<=k:=Wh (dC (i:=i+j) (j:= -1) (n:=1) (G8 h g (k:=4) rfl)<|WC 1)<|Wi e
def ya(g:j=2\/j=3):i<=i+j - 1:=by
 rw[Int.add_sub_assoc];rcases g with rfl|rfl<;>exact abc (by decide)
def eG:i<=i+1:=abc<|by decide
def Ei:((n+1:Nat):Int)=n+1:=rfl
def Pe:(-1+((n+1:Nat):Int)).toNat=n:=by rw[Ei,XJ,Xc];exact agN acx<|XI n
def Lv: -1+((n+1:Nat):Int)=n:=by rw[Ei,XJ,Xc];exact XI n
def Qz:(max 0 (min 1 ((n+1:Nat):Int))).toNat=1:=by rw[aai<|show(1:Int)<=((n+1:Nat):Int) from Xn.mpr (WB<|Wz n)];rfl
def OX:(max 0 (min (-1+((n+1:Nat):Int)) ((n+1:Nat):Int))).toNat=n:=by rw[Lv,aai<|Xn.mpr<|W9 n,acA<|YD n];rfl
def OF(f:0<i)(g:i<=n):(i - 1).toNat<n:=by
 obtain⟨k,rfl⟩:=H8<|XH f;cases k with
 |zero=>exact agR f<|by decide
 |succ k=>rw[Ei,XS];exact Xn.mp g
def PO(f:0<i):0<=i - 1:=Zx f
def L7:i<=i/\i<i+((n+1:Nat):Int):=⟨WT _,abt _<|XX.mpr<|X9 n⟩
def EL:i+((n+1:Nat):Int)=i+1+n:=by rw[Ei,Xc,XJ 1]
def KP(h:i+1<=v/\v<i+1+n):i<=v/\v<i+((n+1:Nat):Int):=⟨WG eG h.1,EL▸h.2⟩
def PM(f:i.natAbs<=1000):(i+1).natAbs<=500000:=Wh (dC (n:=1) f<|WC 1)<|ab rfl
def KY:((j+1 - i).toNat:Int)=j+1 - i\/(j<i/\((j+1 - i).toNat:Int)=0):=by
 obtain h|h:=abK j i
 ·exact .inr ⟨h,agN _<|aas<|Y7 h⟩
 ·exact .inl (Xe<|Zx<|WG h eG)
def Hy:i+(j - i)=j:=by rw[XJ,ZS]
def rH(h:i<=v/\v<i+((j+1 - i).toNat:Int)):v<=j:=by
 obtain e|⟨_,e⟩:=KY (i:=i) (j:=j)
 ·rw[e,Hy] at h;exact Za h.2
 ·rw[e,XI] at h;exact(wJ h.2 h.1).elim
def GA(g:i<=v)(f:v<=j):v<i+((j+1 - i).toNat:Int):=by
 obtain e|⟨e,_⟩:=KY (i:=i) (j:=j)
 ·rw[e,Hy];exact abY f
 ·exact(wJ e<|WG g f).elim
def MP:i<=v/\v<i+((j+1 - i).toNat:Int)↔i<=v/\v<=j:=⟨λh=>⟨h.1,rH h⟩,λh=>⟨h.1,GA h.1 h.2⟩⟩
def NJ(h:¬i<=j):¬i<=v\/¬v<i+((j+1 - i).toNat:Int):=by
 by_cases g:i<=v
 ·exact .inr λf=>h<|WG g<|rH ⟨g,f⟩
 ·exact .inl g
def ND(h:i.natAbs<=n/\j.natAbs<=n)(g:i<=v/\v<i+((j+1 - i).toNat:Int)):v.natAbs<=n:=EH (WG (n7 h.1).1 g.1)<|WG (rH g) (n7 h.2).2
def MY(f:x+100*(k+1)<=d)(g:y<=x+100):y+100*k<=d:=Wh (Wy g _) (by rw[W3,Xj 100];exact f)
def La(f:x+100*(k+1)<=d):x+100*k<=d:=Wh (WL (Zg 100<|W9 k) x) f
def Bc(f:x<=a)(g:k<=b)(e:W2 (a+m*b) c):x+m*k<=c:=Wh (Yh f<|Zg m g)<|Wi e
def L6(f:x+k<=a)(g:y<=x+b)(e:W2 (a+b) c):y<=c:=Wh g<|Wh (Wy (tM f) b)<|Wi e
def yR(f:x<=y+k)(g:y<=a+1):x<=a+(k+1):=Wh f (by rw[Xj k,<-W3];exact Wy g k)
def Lc(f:¬y<x)(g:¬y=x):y - x=y - x - 1+1:=(ZR<|Nat.sub_pos_of_lt<|ab7 (acv f) λe=>g e.symm).symm
def M7(p q r s:Int):p+q+(r+s)=p+r+(q+s):=by rw[Xc,Int.add_left_comm q,<-Xc]
def J8(f: -1<=i/\i<=1)(g:i≠0):i=1\/i= -1:=by
 obtain e|e|e:=O6 (i:=i+1) (ZC (c:=1) f.1)<|abY<|ZC f.2 1
 ·exact .inr (by rw[<-XS i 1,e];rfl)
 ·exact(g (by rw[<-XS i 1,e];rfl)).elim
 ·exact .inl (by rw[<-XS i 1,e];rfl)
def MU:((n+1:Nat):Int) - 1=n:=XS n 1
def He(f:i.natAbs+1000*(k+1)<=d)(g:j.natAbs<=1000):(i+j).natAbs+1000*k<=d:=Wh (Wy (dC (WC _) g) _) (by rw[W3,Xj 1000];exact f)
def Km(f:i+1<=i):False:=Z7 i f
def LG(f:¬0<i)(g:¬j<0)(h:i<=v/\v<=j)(e:i=j):v=0:=Xa (WG h.2<|e▸x5 f)<|WG (x5 g)<|e▸h.1
def vM(f:i<=j)(g:j<=i+1):i<=v/\v<=j↔v=i\/v=j:=by
 refine⟨λh=>?_,λh=>h.elim (λe=>⟨W0 e.symm,WG (W0 e) f⟩) λe=>⟨WG f<|W0 e.symm,W0 e⟩⟩;by_cases e:v=j
 ·exact .inr e
 ·exact .inl (Xa (Za<|X5 (aam.mpr ⟨h.2,e⟩) g) h.1)
def Kl(f: -i=j):i= -j:=(Zz i).symm.trans<|agN _ f
def MQ:i+ -1*j - -l=0↔j=i+l:=by rw[jT,aal,acd,Int.add_right_comm,<-acd,Yi];exact eq_comm
def KH(f:i=1\/i= -1)(g:¬i<0):0<i:=f.elim (λe=>e▸by decide) λe=>(g<|e▸by decide).elim
def G7(f:x<=n+1+k):x<=n+(k+1):=by rw[Xj k,<-W3];exact f
def LK(f:n+(k+1)<=d)(g:m<=n+1):m+k<=d:=Wh (Wy g k)<|mz f
def Nw(f:(n:Int)+1+1<2):False:=agR (XX.mp<|show((n+1+1:Nat):Int)<((2:Nat):Int) from f) (Ze<|Xz 2 n)
def jG:i+0=i:=XI i
def Gy:i - j+0<=0↔i<=j:=by rw[jG];exact⟨ZA,Y7⟩
def Kh:i - j+1<=0↔i<j:=⟨λh=>Int.lt_of_sub_neg h,λh=>Int.sub_neg_of_lt h⟩
def Kw:1*i+0+0=i:=by rw[jG,jG,Xm]
def LP:(i+1 - i).toNat=1:=by rw[XJ,XS];rfl
def LR(f:¬j<=i+1)(g:v=i\/v=j):i<=v/\v<=j:=have h:i<=j:=WG eG<|XH<|Yp.mp f;g.elim (λe=>⟨W0 e.symm,WG (W0 e) h⟩) λe=>⟨WG h<|W0 e.symm,W0 e⟩
def wm(f:n+m<=600):n+1+1+m<=700:=by rw[W3,W3,<-W3 1 1 m,acj];exact Wh (WL f 2)<|ab rfl
def GR: -(0 - i)=i:=by rw[adf,Zz]
def KD(f:i.natAbs<=62): -64<=i/\i<64:=⟨WG (by decide) (n7 f).1,Zo (n7 f).2<|by decide⟩
def K0:1+(1+(5+7*n))<=7*n+7:=by rw[Xj<|7*n,<-W3,<-W3];exact WC _
def Mr:0+1*i+ -1*j - 0=0↔i=j:=by rw[abH,jT,XB,Xm,Yi]
def ME:0+1*i - j=0↔i=j:=by rw[XB,Xm,Yi]
def GS:i - j+1=1↔i=j:=⟨λh=>Yi.mp (by rw[<-XS (i - j) 1,h];rfl),λh=>by rw[Yi.mpr h];rfl⟩
def K8(f:j<=i)(g:i<=j+1):i - j+1=1\/i - j+1=2:=((vM (v:=i) eG<|WT _).mp ⟨f,g⟩).elim (λe=> .inl<|GS.mpr e) λe=> .inr (by rw[e,XJ j,XS];rfl)
def wi(f:0<=i)(g:i<3): -1<=i - 1/\i - 1<=1:=⟨Zy f 1,Zy (Za<|show i<2+1 from g) 1⟩
def LS(f:0<=i)(g:i<3):i.natAbs<=10:=EH (WG (by decide) f) (WG (XH g)<|by decide)
def Mz(f:0<=i)(g:i<3)(e:0<=j)(G:j<4):(i - 1+(j - 1)).natAbs<=60:=Wh (dC (gk (wi f g) (k:=1) rfl)<|EH (n:=2) (WG (by decide) (Zy e 1)) (Zy (Za<|show j<3+1 from G) 1)) (ab rfl)
def Gh(f:i<=v):¬v<i+((0:Nat):Int):=λh=>wJ (X5 h<|W0 jG) f
def M4(e:¬i=v):i+1<=v/\v<i+1+n↔i<=v/\v<i+((n+1:Nat):Int):=⟨KP,λh=>⟨aam.mpr ⟨h.1,e⟩,EL▸h.2⟩⟩
def Cc:i=v↔i<=v/\v<=i:=⟨λe=>e▸⟨WT _,WT _⟩,λh=>Xa h.1 h.2⟩
def NI:0+i+j=1*i+(1*j+0)+0:=by rw[jG,jG,Xm,Xm,XB]
def zP(e:i - j=1):i=j+1:=by rw[<-e,Hy]
def MX(f:i - j≠0)(g:i - j≠1):¬j<=i\/¬i<=j+1:=by
 by_cases h:j<=i/\i<=j+1
 ·exact((vM eG<|WT _).mp h).elim (λe=>(f<|Yi.mpr e).elim) λe=>(g<|by rw[e,XJ,XS]).elim
 ·exact adt.mp h
def KU(f:i<=v)(g:¬v=i):i+1<=v:=aam.mpr ⟨f,λe=>g e.symm⟩
def MN:(max 0 (min 20 (n:Int))).toNat=min 20 n:=by
 rw[acA<|Int.le_min.mpr ⟨by decide,YD n⟩];obtain h|h:=abB 20 n
 ·rw[X6 h,aai<|show(20:Int)<=n from Xn.mpr h];rfl
 ·rw[YV h,acz<|show(n:Int)<=20 from Xn.mpr h];rfl
def MI(f:0<=i)(g:i<2):2+i=2\/2+i=3:=(Mv f g).imp (λe=>by rw[e];rfl) λe=>by rw[e];rfl
def NC(f:m+4<=d):d - m - 4+m+4=d:=by rw[W3,adi,ZR f]
def M8(f:n<=63)(g:2+m=n):m+4<=d+76+3:=Wh (Wy (Wh (Wh (Xz m 2)<|Xf g) f) 4)<|Wh (ab rfl)<|Xz 79 d
def Mh(h:i<=v/\v<i+((i+j - i).toNat:Int)):v<=i+j - 1:=rH (by rw[ZS];exact h)
def NF(f: -1<=i/\i<=1)(g:j=2\/j=3)(h:i<=v/\v<i+((i+j - i).toNat:Int)):v.natAbs<=10:=
 ND ⟨gk f rfl,Bp f g rfl⟩ (j:=i+j - 1) (by rw[ZS];exact h)
def MZ(f:x+m*(n+1)+a<c)(g:W2 (y+b) (m+a)):x+y+m*n+b<c:=by
 refine WJ ?_ f;rw[W3<|x+y,W3 x,W3 x,aby,acj y,W3<|m*n];exact WL (WL (Wi g) _) x
def NO(f:x+m*n+a<c)(g:W2 (y+b) a):x+y+m*n+b<c:=by
 refine WJ ?_ f;rw[Y0 x y,W3<|x+m*n];exact WL (Wi g) _
def OL(f:x+m*n+a<c)(g:W2 b a):x+b<c:=WJ (Wh (WL (Wi g) x) (by rw[Y0];exact WD ..)) f
def Ny(f:x+m*n+a<c)(g:k<=n):x+m*k+a<c:=WJ (Wy (WL (Zg m g) x) a) f
def QN(f:x+30<c):x+1+13<c:=WJ (by rw[W3];exact WL (ab rfl) x) f
def PC(f:x+30<c)(g:n<=11):x+1+min n m<c:=WJ (Wh (WL (MT g)<|x+1)<|WL (n:=12) (ab rfl) x) f
def LL:(1048576:Int)<2^63:=by decide+kernel
def QK(f:n<=1048576):(n:Int)<2^63:=Zo (Xn.mpr f) LL
def Ji(f: -i<=n):0<=i+(n:Int):=by rw[XJ,<-aal];exact Zx f
def IH(f:(n:Int)<2^63)(g:0<=i+(n:Int)): -2^63<=i:=WG (ZT<|XH f)<|Y8 (by rw[<-acU,aal,XJ];exact g)
def Qj(g:0<=i): -2^63<=i:=WG (by decide+kernel) g
def LN(f:(n:Int)<2^63)(g:k<n):(k:Int)<2^63:=abJ (XX.mpr g) f
def Pz(g:0<=i+(n:Int)): -(n:Int)<=i:=Y8 (by rw[<-acU,aal,XJ];exact g)
def O1(g:i<0):i<2^63:=abJ g<|by decide+kernel
def QQ(f:i<0)(g: -(n:Int)<=i):(i+(n:Int)).toNat<n:=by
 have h:0<=i+(n:Int):=Ji<|Y8 g;exact XX.mp (by rw[Xe h];exact X5 (abZ f _)<|W0<|XB _)
def PQ(f: -i<=(n:Int)): -(n:Int)<=i:=Y8 f
def Dw(f:i.natAbs<=500000): -2^62<=i/\i<2^62:=⟨WG (by decide+kernel) (n7 f).1,Zo (n7 f).2<|by decide+kernel⟩
def KA:i.toNat<=i.natAbs:=by
 obtain h|h:=Int.le_total 0 i
 ·exact Xn.mp (by rw[Xe h];exact abm)
 ·rw[aas h];exact Wz _
def OK(f:i.natAbs<=500000)(g:j.natAbs<=500000):(j - i).toNat<=1048576:=Wh KA<|Wh (dC (i:=j) (j:= -i) g (by rw[Y9];exact f)) (ab rfl)
def OD(f:n+1=m):n=m - 1:=f▸rfl
def Ku(f:a=b)(g:n<a):a - 1 - n<b:=f▸WJ (aa9 ..) (Nat.sub_lt (WJ (Wz n) g) Nat.one_pos)
def MG(g:n<a):a - 1 - (a - 1 - n)=n:=Nat.sub_sub_self<|Nat.le_sub_one_of_lt g
def P9(f: -64<=i)(g:i<64):(i+64).toNat<128:=XX.mp (by rw[Xe<|ZC (c:=64) f];exact abZ g 64)
def QC(f: -64<=i):((i+64).toNat:Int) - 64=i:=by rw[Xe<|ZC (c:=64) f,XS]
def Px(f:k<n):0<(n:Int) - (k:Int):=Int.sub_pos_of_lt<|XX.mpr f
def Ka:(n:Int) - ((k:Int)+1)=n - k - 1:=by rw[Int.sub_sub]
def NS:i+1+(k:Int)=i+((k:Int)+1):=by rw[Xc,XJ 1]
def LF:((m:Int)+(k:Int)*1).toNat=m+k:=by rw[aaP];rfl
def Ng(f:1<=a)(g:0<n)(e:m=min a n):(m:Int)≠0:=λh=>Ze (Xf<|ac1.mp h)<|e▸Nat.lt_min.mpr ⟨f,g⟩
def Bq:min (a:Int) (n:Int)=((min a n:Nat):Int):=by
 obtain h|h:=abB a n
 ·rw[X6 h,aai<|Xn.mpr h]
 ·rw[YV h,acz<|Xn.mpr h]
def NM(f:0<=i):min i (n:Int)=((min i.toNat n:Nat):Int):=by
 obtain⟨k,rfl⟩:=H8 f;exact Bq
def LO(f:(a:Int)<(b:Int)):((b:Int) - (a:Int) - 1+1).toNat=b - a:=by
 rw[ZS,<-Int.ofNat_sub (Yz<|XX.mp f)];rfl
def Ls(f:¬(a:Int)<(b:Int)):acx 0=b - a:=(Nat.sub_eq_zero_of_le<|Xn.mp<|X4.mp f).symm
def LX:max 0 (min 7 (n:Int))=max 0 (min ((min 7 n:Nat):Int) n):=by
 rw[<-Bq];exact agN _<|show min 7 (n:Int)=min (min 7 (n:Int)) n by rw[Int.min_assoc,Int.min_self]
def GP(f:1<=i):1<=i.toNat:=Xn.mp (by rw[Xe<|WG (by decide) f];exact f)
def Lq(f:0<=i)(g:i<=64):i.toNat<=1048576:=Xn.mp (by rw[Xe f];exact WG g<|by decide)
def Kr(f:a<=3400)(g:b<=3400)(h:(6800:Int)<=c)(e:(a:Int)+b>c):False:=wJ e<|WG (Xn.mpr<|Yh f g) h
def M6:((j - i).toNat:Int)=if i<j then j - i else 0:=by
 by_cases h:i<j
 ·rw[agO h,Xe<|Zx<|XH h]
 ·rw[agP h,aas<|Y7<|X4.mp h];rfl
def Kj:(i.natAbs:Int)=if i<0 then -i else i:=by
 by_cases h:i<0
 ·rw[agO h,Int.ofNat_natAbs_of_nonpos<|XH h]
 ·rw[agP h,Int.natAbs_of_nonneg<|X4.mp h]
def NN(f:0<i)(g:i+ -1<=0):i=1:=Xa (ZA g) f
def Qb(f:0<i+0)(g:i+ -1<=0): - -i - 1=0:=by rw[Zz,NN (X5 f<|W0 jG) g];rfl
def Qi(f:0<i)(g:i+ -1<=0): - -i=1:=(Zz i).trans<|NN f g
def PN(f:i<=0)(g:0<=i+0): - -i=0:=(Zz i).trans<|Xa f<|WG g<|W0 jG
def QU: -i - - -j=0↔i+j=0:=by rw[Zz,Yi];exact⟨λe=>by rw[<-e,aaE],Int.neg_eq_of_add_eq_zero⟩
def OY(f:0<i+1)(g:i+0<=0): -i=0:=by rw[Xa (WG (W0 jG.symm) g)<|Za f];rfl
def OV(f:i<0)(g:0<=i+1): -i=1:=by rw[Xa (Int.le_sub_one_of_lt f)<|Int.le_of_add_le_add_right (b:=1) g];rfl
def O5(f:0<=i)(g:i+0<=0): -i=0:=by rw[Xa (WG (W0 jG.symm) g) f];rfl
def Pk:¬ -i - (- -j - 1)<=0↔i+j<=0:=by
 rw[Zz,Yp,Int.sub_pos];refine⟨λh=>?_,λh=>?_⟩
 ·exact WG (Int.add_le_add_left (Int.le_of_sub_one_lt h) i) (W0<|aaE i)
 ·exact Int.sub_one_lt_of_le (Int.le_of_add_le_add_left (a:=i)<|WG h<|W0 (aaE i).symm)
def Lw{p:Prop}[Decidable p](f:i.natAbs<=k)(g:j.natAbs<=k):(if p then i else j).natAbs<=k:=by split<;>assumption
def Mu:(if i<j then i else j)<=i/\(if i<j then i else j)<=j:=by
 by_cases h:i<j
 ·rw[agO h];exact⟨WT _,XH h⟩
 ·rw[agP h];exact⟨X4.mp h,WT _⟩
def MC:i<=(if j<i then i else j)/\j<=(if j<i then i else j):=by
 by_cases h:j<i
 ·rw[agO h];exact⟨WT _,XH h⟩
 ·rw[agP h];exact⟨X4.mp h,WT _⟩
end
inductive D where
 |none|bool (b:Bool)|int (i:Int)|str (k:Nat)|hash (i:Int)|gd (x:Nat)
 |tup (l:List D)|lst (l:List D)
 deriving Inhabited
inductive V where
 |d (x:D)|loc (n:Nat)
 deriving Inhabited
inductive O where
 |list (l:List D)|dict (k:Nat) (l:List (D×D))|inst (c:Nat) (fs:List (Nat×V))
 |eN
 deriving Inhabited
abbrev UT:=List O
abbrev Ev:=List<|Nat×V
set_option genCtorIdx false
set_option genInjectivity false
inductive PT where
 |n (x:Nat)|t (ts:List PT)
mutual
inductive PE where
 |hole
 |k (d:D)|v (x:Nat)|g (x:Nat)
 |bin (o:Nat) (l r:PE)|neg (e:PE)|not (e:PE)
 |bo (qQ:Bool) (es:List PE)
 |cmp (l:PE) (ops:List Nat) (rs:List PE)
 |DG (c t f:PE)
 |tup (es:List PE)|ls (m:Bool) (es:List PE)|kj (k:Nat) (ks vs:List PE)
 |lc (xs:List Nat) (elt:PE) (gens:List PG)
 |sub (e i:PE)|sl (e:PE) (lo hi:Option PE)
 |at (e:PE) (a:Nat)
 |call (f:Nat) (es:List PE)|bi (b:Nat) (es:List PE)|kW (b:Nat) (es:List PE)|Hv (e:PE) (k:Nat)
 |new (c:Nat) (es:List PE)|me (e:PE) (m:Nat) (es:List PE)|sup (f:Nat)|fs (e:PE)
inductive PI where
 |e (x:PE)|kW (es:List PE)|zip (x y:PE)|enum (x:PE)
inductive PG where
 |mk (t:PT) (it:PI) (ifs:List PE)
end
inductive PL where
 |t (t:PT)|at (e:PE) (a:Nat)|sub (e i:PE)
inductive PS where
 |hole
 |asg (t:PL) (e:PE)|par (ts:List PL) (es:List PE)
 |ex (e:PE)|iff (c:PE) (t f:List PS)
 |for (t:PT) (it:PI) (b:List PS)|Gk (c:PE) (b:List PS)
 |ret (e:PE)|try (b:List PS)
set_option genCtorIdx true
structure Fn where
 ps:List Nat
 body:List PS
 keep:Bool
structure Va where
 fn:Nat->Option Fn
 mt:Nat->Nat->Option Nat
 gt:Nat->Option D
 yN:Nat->Option (List (D×D))
 chars:Nat->Option (List Nat)
 my:Nat->Option Nat
noncomputable def lim:Nat:=1048576
noncomputable def big:Int:=adq<|Nat.pow 10 1000
noncomputable def qk(i:Int):Bool:=match i with
 |.ofNat n=>W2 n 1000000
 |.negSucc n=>W2 n 1000000
set_option genCtorIdx false in
inductive Sr where
 |no|ls (n:Nat)|jk (n:Nat)
def dx(src:Sr)(l:List D)(σ:UT):Prop:=match src with
 |.no=>True
 |.ls n=>σ[n]?=some (.list l)
 |.jk n=>σ[n]?=some .eN
noncomputable def Vf(v:V):Option D:=match v with|.d x=>some x|.loc _=>none
noncomputable def BD(v:V):Option Bool:=match v with|.d x=>(match x with|.bool b=>some b|_=>none)|.loc _=>none
noncomputable def AY(v:V):Option Int:=match v with|.d x=>(match x with|.int b=>some b|_=>none)|.loc _=>none
noncomputable def D.ju(d:D):Option (List D):=match d with|.tup l=>some l|.lst l=>some l|_=>YU
noncomputable def D.ny(d:D):Option (List D):=match d with|.tup l=>some l|_=>YU
noncomputable def D.IP(d:D):Option (List D):=match d with|.lst l=>some l|_=>YU
noncomputable def D.fU(d:D):Option Int:=match d with|.int i=>some i|_=>YU
noncomputable def D.JI(d:D):Option Nat:=match d with|.str i=>some i|_=>YU
noncomputable def D.JH(d:D):Option Int:=match d with|.int i=>some i|.bool b=>some (if b then 1 else 0)|_=>YU
noncomputable def D.atom(d:D):Bool:=match d with|.none=>true|.bool _=>true|.int _=>true|.str _=>true|_=>false
noncomputable def D.qZ(d:D):Bool:=match d with|.bool _=>true|.int _=>true|.str _=>true|_=>false
noncomputable def plain:Nat->D->Bool
 |0,d=>d.atom
 |n+1,d=>match d.ju with
  |some l=>l.all (plain n)
  |none=>d.atom
noncomputable def D.ao:Nat->D->Bool
 |0,d=>d.qZ
 |n+1,d=>match d.ny with
  |some l=>l.all (D.ao n)
  |YU=>d.qZ
def kd(d:D):Nat:=match d with
 |.str _=>0
 |.int _=>1
 |.tup l=>match l.all (D.ao 7) with
  |true=>2
  |false=>3
 |_=>3
mutual
def bP:D->D->Bool
 |.none,y=>match y with|.none=>true|_=>false
 |.bool a,y=>match y.JH with|some j=>(if a then 1 else 0)==j|none=>false
 |.int a,y=>match y.JH with|some j=>a==j|none=>false
 |.str a,y=>match y.JI with|some b=>WV a b|none=>false
 |.tup a,y=>match y.ny with|some b=>lP a b|none=>false
 |.lst a,y=>match y.IP with|some b=>lP a b|none=>false
 |.hash _,_=>false
 |.gd _,_=>false
def lP:List D->List D->Bool
 |[],ys=>ys.isEmpty
 |x::xs,ys=>match ys with
  |[]=>false
  |y::ys=>bP x y&&lP xs ys
end
def D.yL(x y:D):Option Bool:=match plain 12 x&&plain 12 y with
 |true=>some<|bP x y
 |false=>YU
noncomputable def VV{L:Type}(l:List L):Option (L×L×L):=match l with|[a,b,c]=>some (a,b,c)|_=>none
noncomputable def D.pf(d:D):Bool:=match d with|.bool _=>true|_=>false
def nV(d:D):Option Nat:=(d.ny.bind VV).bind λp=>match p.2.1.fU.isSome&&p.2.2.pf with
 |true=>p.1.JI
 |false=>none
def yg(k:Nat)(d:D):Bool:=match nV d with
 |some l=>WV k l
 |none=>false
def m6(l:List D):Bool:=match l with
 |[]=>true
 |d::l=>match nV d with
  |some k=>(d::l).all<|yg k
  |none=>false
noncomputable def cP:List D->Option (List Int)
 |[]=>some []
 |d::r=>d.fU.bind λi=>(cP r).map (i::·)
noncomputable def iq:List Int->List Int
 |[]=>[]
 |x::xs=>x::(iq xs).filter (· !=x)
noncomputable def insI(x:Int):List Int->List Int
 |[]=>[x]
 |y::ys=>if x<y then x::y::ys else y::insI x ys
def U7:List Int->List Int
 |[]=>[]
 |x::xs=>insI x (U7 xs)
noncomputable def UY(ρ:Ev)(x:Nat):Option V:=match ρ with
 |[]=>none
 |(y,v)::r=>if y==x then some v else UY r x
noncomputable def put(ρ:Ev)(x:Nat)(v:V):Ev:=match ρ with
 |[]=>[(x,v)]
 |(y,u)::r=>if y==x then (y,v)::r else (y,u)::put r x v
noncomputable def Vp(ρ:Ev)(xs:List Nat):Ev:=ρ.filter λp=> !xs.contains p.1
noncomputable def ii{L:Type}(a b:D)(f:Int->Int->Option L):Option L:=a.fU.bind λi=>b.fU.bind λj=>f i j
noncomputable def Ag(a b:D):Option D:=match a with
 |.int i=>b.fU.map λj=> .int<|i+j
 |.tup x=>b.ny.bind λy=>if x.length+y.length<=lim then some (.tup<|x++y) else none
 |.lst x=>b.IP.bind λy=>if x.length+y.length<=lim then some (.lst<|x++y) else none
 |_=>none
def LY(a b:D):Option D:=match a with
 |.int i=>b.fU.bind λj=>match qk i&&qk j with
  |true=>some<|.int<|i*j
  |false=>none
 |.lst l=>match l with
  |[x]=>b.fU.bind λj=>if 0<=j/\j<=64 then some (.lst<|Yg j.toNat x) else none
  |_=>none
 |_=>none
def MH(o:Nat)(a b:D):Option D:=match o with
 |0=>Ag a b
 |1=>ii a b λi j=>some<|.int<|i - j
 |2=>LY a b
 |3=>ii a b λi j=>if j≠0 then some (.int<|i.fmod j) else none
 |4=>ii a b λi j=>match j !=0&&qk j with
  |true=>some<|.int<|i.fdiv j
  |false=>none
 |5=>ii a b λi j=>if i=10/\j=1000 then some (.int big) else none
 |_=>none
def se(x:D)(l:List D):Option Bool:=match plain 12 x&&l.all (plain 11) with
 |true=>some<|l.any λy=>bP y x
 |false=>none
def aO(x:D):List (D×D)->Option D
 |[]=>none
 |(y,v)::ys=>match bP y x with
  |true=>some v
  |false=>aO x ys
def fV(x v:D):List (D×D)->List (D×D)
 |[]=>[(x,v)]
 |(y,u)::ys=>match bP y x with
  |true=>(y,v)::ys
  |false=>(y,u)::fV x v ys
set_option genCtorIdx false in
inductive X where
 |none|bool (b:Bool)|int (i:Int)|str (k:Nat)|tup (l:List D)|lst (l:List D)|kj (k:Nat) (es:List (D×D))|no
noncomputable def DE(o:Option O):X:=match o with
 |some (.list l)=> .lst l
 |some (.dict k es)=> .kj k es
 |_=> .no
def fe(T:Va)(σ:UT)(v:V):X:=match v with
 |.d x=>match x with
  |.none=> .none
  |.bool b=> .bool b
  |.int i=> .int i
  |.str k=> .str k
  |.tup l=> .tup l
  |.lst l=> .lst l
  |.gd g=>match T.yN g with
   |some es=> .kj 0 es
   |none=> .no
  |.hash _=> .no
 |.loc n=>DE σ[n]?
noncomputable def X.dat(x:X):Option D:=match x with
 |.none=>some .none|.bool b=>some (.bool b)|.int i=>some (.int i)|.str k=>some (.str k)|.tup l=>some (.tup l)|.lst l=>some (.lst l)|_=>YU
def RF(T:Va)(σ:UT)(a b:V):Option Bool:=(fe T σ a).dat.bind λx=>(fe T σ b).dat.bind λy=>D.yL x y
def bF(c:X)(x:D):Option Bool:=match c with
 |.tup l=>se x l
 |.lst l=>se x l
 |.kj k es=>match WV (kd x) k with
  |true=>some (aO x es).isSome
  |false=>none
 |_=>none
noncomputable def fi(a:V):Bool:=match a with|.d d=>(match d with|.none=>true|_=>false)|.loc _=>false
def nk(T:Va)(σ:UT)(o:Nat)(a b:V):Option Bool:=match o with
 |0=>RF T σ a b
 |1=>(RF T σ a b).map (!·)
 |2=>(Vf a).bind λa=>(Vf b).bind λb=>ii a b λi j=>some<|decide<|i<j
 |3=>(Vf a).bind λa=>(Vf b).bind λb=>ii a b λi j=>some<|decide<|i<=j
 |4=>(Vf a).bind λa=>(Vf b).bind λb=>ii a b λi j=>some<|decide<|j<i
 |5=>(Vf a).bind λa=>(Vf b).bind λb=>ii a b λi j=>some<|decide<|j<=i
 |6=>match fi b with|true=>some (fi a)|false=>none
 |7=>match fi b with|true=>some (!fi a)|false=>none
 |8=>(Vf a).bind λx=>bF (fe T σ b) x
 |9=>(Vf a).bind λx=>(bF (fe T σ b) x).map (!·)
 |_=>none
noncomputable def o9(k:Nat)(x:X):Option Bool:=match x with
 |.none=>some false
 |.bool _=>some (k==0||k==1)
 |.int _=>some<|k==0
 |.str _=>some<|k==2
 |.tup _=>some<|k==3
 |.lst _=>some<|k==4
 |_=>none
noncomputable def Vc(l:List D)(i:Int):Option D:=
 if 0<=i then l[i.toNat]? else if -i<=l.length then l[(i+l.length).toNat]? else none
def lF(T:Va)(o:X)(i:D):Option D:=match o with
 |.tup l=>i.fU.bind λk=>Vc l k
 |.lst l=>i.fU.bind λk=>Vc l k
 |.str s=>i.fU.bind λk=>(T.chars s).bind λc=>Vc (c.map D.str) k
 |.kj k es=>match WV (kd i) k with
  |true=>aO i es
  |false=>none
 |_=>none
noncomputable def sj(n:Nat)(dflt:Int)(o:Option D):Option Nat:=match o with
 |none=>some dflt.toNat
 |some d=>d.fU.map λi=>(max 0<|min (if i<0 then i+(n:Int) else i) (n:Int)).toNat
noncomputable def V6(l:List D)(lo h:Nat):List D:=(l.take h).drop lo
def fR(T:Va)(x:D)(lo h:Option D):Option D:=match x with
 |.tup l=>lo.bind λi=>i.fU.bind λi=>match h with
  |none=>if 1<=i/\0<l.length then some (.tup<|l.drop i.toNat) else none
  |some j=>j.fU.bind λj=>if (1<=i/\0<=j)/\0<l.length then some (.tup<|(l.take j.toNat).drop i.toNat) else none
 |.lst l=>(sj l.length 0 lo).bind λa=>(sj l.length l.length h).map λb=> .lst<|V6 l a b
 |.str k=>match lo with
  |none=>h.bind λj=>j.fU.bind λj=>if j=7 then (T.my k).map D.str else none
  |some _=>none
 |_=>none
noncomputable def tw:List Int->Option Int
 |[]=>none
 |x::xs=>some (xs.foldl (λa b=>if b<a then b else a) x)
noncomputable def nr:List Int->Option Int
 |[]=>none
 |x::xs=>some (xs.foldl (λa b=>if a<b then b else a) x)
noncomputable def aU(a:Int):Nat->List D
 |0=>[]
 |n+1=> .int a::aU (a+1) n
noncomputable def sA:List D->List D->List D
 |x::xs,y::ys=> .tup [x,y]::sA xs ys
 |_,_=>[]
noncomputable def mT(i:Int):List D->List D
 |[]=>[]
 |x::xs=> .tup [.int i,x]::mT (i+1) xs
noncomputable def two{L:Type}(l:List L):Option (L×L):=match l with|[a,b]=>some (a,b)|_=>none
noncomputable def fK:List D->Option (List (D×D))
 |[]=>some []
 |d::r=>(d.ny.bind two).bind λp=>(fK r).map (p::·)
def dE(kk:Nat)(es:List (D×D)):List (D×D)->Option (List (D×D))
 |[]=>some es
 |(k,v)::r=>if kd k=kk/\es.length<lim then dE kk (fV k v es) r else none
noncomputable def D.oM(d:D):Option Bool:=match d with|.bool b=>some b|_=>YU
noncomputable def uq:List D->Option Bool
 |[]=>some true
 |d::r=>d.oM.bind λb=>(uq r).map (b&&·)
noncomputable def jU(x:X):Option (Nat×List D):=match x with
 |.tup l=>some (0,l)
 |.lst l=>some (1,l)
 |.kj k es=>if k=1 then some (2,es.map (·.1)) else none
 |_=>none
def iA(vs:List V):Option (List D):=match vs with
 |[x]=>(AY x).bind λa=>if a.natAbs<=500000 then some (aU 0 a.toNat) else none
 |[x,y]=>(AY x).bind λa=>(AY y).bind λb=>if a.natAbs<=500000/\b.natAbs<=500000 then some (aU a (b - a).toNat) else none
 |_=>none
noncomputable def fC(ns:List Int):Bool:=ns.all λx=>decide<|-64<=x/\x<64
def oY(b k:Nat)(l:List D)(σ:UT):Option (V×UT):=match b with
 |1=>if k<=1 then some (.d<|.tup l,σ) else none
 |2=>if k=0 then some (.d<|.lst l,σ) else none
 |3=>if k=0 then (fK l).bind λes=>(dE 1 [] es).map λe=>(.loc σ.length,σ++[.dict 1 e]) else none
 |5=>if k=1/\l.length<=4 then (cP l).bind λns=>if fC ns then some (.d<|.lst<|(U7<|iq ns).map D.int,σ) else none else none
 |6=>if k=1 then (cP l).map λns=>(.d<|.int<|ns.foldl (· +·) 0,σ) else none
 |7=>if k<=1 then ((cP l).bind tw).map λn=>(.d<|.int n,σ) else none
 |8=>if k<=1 then ((cP l).bind nr).map λn=>(.d<|.int n,σ) else none
 |14=>if k=1 then (uq l).map λb=>(.d<|.bool b,σ) else none
 |_=>none
noncomputable def H5(T:Va)(x:X):Option Int:=match x with
 |.tup l=>some l.length
 |.lst l=>some l.length
 |.str k=>(T.chars k).map λc=>c.length
 |_=>none
noncomputable def one{L:Type}(l:List L):Option L:=match l with|[a]=>some a|_=>none
noncomputable def dB(σ:UT)(v:V):Option (Nat×List D):=match v with
 |.loc n=>match σ[n]? with
  |some (.list l)=>some (n,l)
  |_=>none
 |.d _=>none
noncomputable def hZ(σ:UT)(v:V):Option (Nat×Nat×List (D×D)):=match v with
 |.loc n=>match σ[n]? with
  |some (.dict k es)=>some (n,k,es)
  |_=>none
 |.d _=>none
def VE(vs:List V):Option (D×D):=match vs with
 |[k]=>(Vf k).map (·,.none)
 |[k,d]=>(Vf k).bind λk=>(Vf d).map (k,·)
 |_=>none
mutual
def dM(ρ:Ev):PT->D->Option Ev
 |.n x,v=>some (put ρ x (.d v))
 |.t ts,v=>match v with
  |.tup l=>e9 ρ ts l
  |.lst l=>e9 ρ ts l
  |_=>none
def e9(ρ:Ev):List PT->List D->Option Ev
 |[],[]=>some ρ
 |t::ts,v::vs=>match dM ρ t v with
  |some h=>e9 h ts vs
  |none=>none
 |_,_=>none
end
def F9(ρ:Ev):PT->V->Option Ev
 |.n x,v=>some (put ρ x v)
 |.t ts,.d v=>dM ρ (.t ts) v
 |.t _,.loc _=>none
set_option genCtorIdx false in
inductive Fl where
 |next|ret (v:V)
noncomputable def O.below(n:Nat):O->Bool
 |.inst _ fs=>fs.all λp=>match p.2 with
  |.loc k=>decide (k<n)
  |.d _=>true
 |_=>true
def Vg(keep:Bool)(n:Nat)(v:V)(σ:UT):Option (V×UT):=
 if keep then some (v,σ) else if (σ.take n).all (O.below n) then match v with
  |.d x=>some (.d x,σ.take n)
  |.loc k=>if k<n then some (.loc k,σ.take n) else none
  else none
def rz:List V->Option (List D)
 |[]=>some []
 |v::r=>(Vf v).bind λx=>(rz r).map (x::·)
def ok{L:Type}(o:Option L)(k:L->Prop):Prop:=match o with
 |some a=>k a
 |none=>False
def rO(b:Bool)(k:Prop):Prop:=match b with
 |true=>k
 |false=>False
def yi(o:Nat)(a b:V)(σ:UT):Option D:=(Vf a).bind λx=>match b with
 |.d y=>MH o x y
 |.loc _=>(dB σ b).bind λp=>if o=0 then Ag x (.lst p.2) else none
def Eg(T:Va)(b:Nat)(vs:List V)(σ:UT):Option (V×UT):=(one vs).bind λv=>(jU<|fe T σ v).bind λr=>oY b r.1 r.2 σ
def OM(T:Va)(b:Nat)(vs:List V)(σ:UT)(f:Int->Int->Int):Option (V×UT):=match vs with
 |[x,y]=>(AY x).bind λi=>(AY y).map λj=>(.d<|.int<|f i j,σ)
 |vs=>Eg T b vs σ
def ER(T:Va)(b:Nat)(vs:List V)(σ:UT):Option (V×UT):=match b with
 |0=>(one vs).bind λv=>(H5 T<|fe T σ v).map λi=>(.d<|.int i,σ)
 |9=>(one vs).bind λv=>(AY v).map λi=>(.d<|.int i.natAbs,σ)
 |10=>(one vs).bind λv=>(Vf v).bind λd=>d.JH.map λi=>(.d<|.int i,σ)
 |7=>OM T 7 vs σ λi j=>if j<i then j else i
 |8=>OM T 8 vs σ λi j=>if i<j then j else i
 |b=>Eg T b vs σ
def y4(x:X)(vs:List V)(σ:UT):Option (V×UT):=match x with
 |.lst l=>(one vs).bind λa=>(AY a).bind λi=>(cP l).map λns=>(.d<|.int (ns.count i:Nat),σ)
 |_=>none
def Bs(x:X)(vs:List V)(σ:UT):Option (V×UT):=match x with
 |.kj kk es=>(VE vs).bind λa=>if kk<=1/\kd a.1<=1 then some (.d<|(aO a.1 es).getD a.2,σ) else none
 |_=>none
def FN(T:Va)(m:Nat)(v:V)(vs:List V)(σ:UT):Option (V×UT):=match m with
 |0=>(dB σ v).bind λp=>(one vs).bind λa=>(Vf a).bind λx=>if p.2.length<lim then some (.d .none,σ.set p.1<|.list<|p.2++[x]) else none
 |1=>(dB σ v).bind λp=>(one vs).bind λa=>(Vf a).bind λx=>x.ju.bind λxs=>if p.2.length+xs.length<=lim then some (.d .none,σ.set p.1<|.list<|p.2++xs) else none
 |2=>(dB σ v).bind λp=>match vs with
  |[]=>p.2.getLast?.map λx=>(.d x,σ.set p.1<|.list p.2.dropLast)
  |_=>none
 |4=>y4 (fe T σ v) vs σ
 |5=>Bs (fe T σ v) vs σ
 |6=>(hZ σ v).bind λp=>(one vs).bind λa=>(hZ σ a).bind λr=>if p.1≠r.1/\p.2.1<=1/\r.2.1<=1 then (dE p.2.1 p.2.2 r.2.2).map λes=>(.d .none,σ.set p.1<|.dict p.2.1 es) else none
 |_=>none
def rQ(Q:V->UT->Prop):V×UT->Prop:=λr=>match r with|(v,σ)=>Q v σ
def LA(T:Va)(b:Nat)(vs:List V)(σ:UT)(Q:V->UT->Prop):Prop:=match b with
 |4=>ok ((one vs).bind λv=>jU<|fe T σ v) λr=>match cP r.2 with
  |some ns=>rO (aad ns.length 64)<|Q (.d<|.lst<|(U7 ns).map D.int) σ
  |none=>rO (WV r.1 1&&W2 r.2.length 4&&m6 r.2) (∀l',l'.Perm r.2->Q (.d<|.lst l') σ)
 |b=>ok (ER T b vs σ)<|rQ Q
def Rq(T:Va)(m:Nat)(v:V)(vs:List V)(σ:UT)(Q:V->UT->Prop):Prop:=match m with
 |3=>ok (dB σ v) λp=>rO (vs.isEmpty&&W2 p.2.length 4&&m6 p.2) (∀l',l'.Perm p.2->Q (.d .none) (σ.set p.1<|.list l'))
 |m=>ok (FN T m v vs σ)<|rQ Q
noncomputable def tr(o:Option O):Option (Nat×List (Nat×V)):=match o with
 |some (.inst c fs)=>some (c,fs)
 |_=>none
def Cf(σ:UT)(v:V):Option (Nat×List (Nat×V)):=match v with
 |.loc k=>tr σ[k]?
 |.d _=>none
def nu(σ:UT)(v:V):Option Nat:=(Cf σ v).map (·.1)
noncomputable def GW(x:X):Nat:=match x with
 |.lst _=>1
 |.kj _ _=>3
 |_=>0
def Fd(T:Va)(σ:UT)(v:V):Nat:=GW<|fe T σ v
noncomputable def zN(t m:Nat):Bool:=match t with
 |1=>W2 m 4
 |3=>W2 5 m&&W2 m 6
 |_=>false
def B8(σ:UT)(v:V)(a:Nat):Option V:=(Cf σ v).bind λp=>UY p.2 a
def Kx(σ:UT)(o:V)(a:Nat)(v:V):Option UT:=match o with
 |.loc m=>(tr σ[m]?).map λp=>σ.set m<|.inst p.1<|put p.2 a v
 |.d _=>none
def Jt(σ:UT)(m:Nat)(o:O)(i x:D):Option UT:=match o with
 |.dict kk es=>if kd i=kk/\es.length<lim then some (σ.set m<|.dict kk<|fV i x es) else none
 |.list l=>i.fU.bind λk=>if k<0/\ -k<=l.length then some (σ.set m<|.list<|l.set (k+l.length).toNat x) else none
 |_=>none
def zF(σ:UT)(o:V)(i:D)(v:V):Option UT:=(Vf v).bind λx=>match o with
 |.loc m=>σ[m]?.bind λI=>Jt σ m I i x
 |.d _=>none
def Pj(kk:Nat)(k vs:List V):Option (List (D×D)):=(rz k).bind λk=>(rz vs).bind λvs=>if k.length=vs.length then dE kk [] (k.zip vs) else none
def Rj(σ:UT)(v:V):Option (List D×Sr):=match v with
 |.d u=>u.ju.map (·,.no)
 |.loc _=>(dB σ v).map λp=>(p.2,.ls p.1)
def Nd(u v:V):Option (List D):=(Vf u).bind λu=>(Vf v).bind λv=>u.ju.bind λa=>v.ju.bind λb=>if a.length=b.length then some (sA a b) else none
def Kc(T:Va)(v:V):Option (List D):=(Vf v).bind λd=>match d with
 |.lst a=>some<|mT 0 a
 |.str k=>(T.chars k).map λc=>mT 0<|c.map D.str
 |_=>none
def VW(v:V):Bool:=fi v
abbrev Cl:=Nat->List V->UT->(V->UT->Prop)->Prop
abbrev Kv:=V->UT->Prop
abbrev Kf:=Fl->Ev->UT->Prop
abbrev Kd:=List D->UT->Prop
abbrev M1:=Ev->UT->Kv->Prop
abbrev Ms:=Ev->UT->(List V->UT->Prop)->Prop
abbrev Mf:=Ev->UT->Kf->Prop
abbrev Md:=Ev->UT->Kd->Prop
namespace Kn
def v(σ:UT)(Q:Kv):V->Prop:=λv=>Q v σ
def d(σ:UT)(Q:Kv):D->Prop:=λd=>Q (.d d) σ
def b2(o:Nat)(a:V)(Q:Kv):Kv:=λb σ=>ok (yi o a b σ)<|d σ Q
def b1(m:M1)(o:Nat)(ρ:Ev)(Q:Kv):Kv:=λa σ=>m ρ σ<|b2 o a Q
def n2(σ:UT)(Q:Kv):Int->Prop:=λi=>Q (.d<|.int<|-i) σ
def n1(Q:Kv):Kv:=λv σ=>ok (AY v)<|n2 σ Q
def t2(σ:UT)(Q:Kv):Bool->Prop:=λb=>Q (.d<|.bool<|!b) σ
def t1(Q:Kv):Kv:=λv σ=>ok (BD v)<|t2 σ Q
def c2(Q:Kv):Bool->UT->Prop:=λb σ=>Q (.d<|.bool b) σ
def c1(m:V->Ev->UT->(Bool->UT->Prop)->Prop)(ρ:Ev)(Q:Kv):Kv:=λa σ=>m a ρ σ<|c2 Q
def i2(mt m:M1)(ρ:Ev)(σ:UT)(Q:Kv):Bool->Prop:=λb=>match b with
 |true=>mt ρ σ Q
 |false=>m ρ σ Q
def i1(mt m:M1)(ρ:Ev)(Q:Kv):Kv:=λv σ=>ok (BD v)<|i2 mt m ρ σ Q
def u2(σ:UT)(Q:Kv):List D->Prop:=λT=>rO (W2 T.length lim)<|Q (.d<|.tup T) σ
def u1(Q:Kv):List V->UT->Prop:=λvs σ=>ok (rz vs)<|u2 σ Q
def l2(m:Bool)(σ:UT)(Q:Kv):List D->Prop:=λT=>rO (W2 T.length lim) (match m with
  |true=>Q (.loc σ.length)<|σ++[.list T]
  |false=>Q (.d<|.lst T) σ)
def l1(m:Bool)(Q:Kv):List V->UT->Prop:=λvs σ=>ok (rz vs)<|l2 m σ Q
def d3(kk:Nat)(σ:UT)(Q:Kv):List (D×D)->Prop:=λes=>Q (.loc σ.length)<|σ++[.dict kk es]
def d2(kk:Nat)(k:List V)(Q:Kv):List V->UT->Prop:=λu σ=>ok (Pj kk k u)<|d3 kk σ Q
def d1(m:Ms)(kk:Nat)(ρ:Ev)(Q:Kv):List V->UT->Prop:=λk σ=>m ρ σ<|d2 kk k Q
def e3(σ:UT)(Z:Kd):D->Prop:=λx=>Z [x] σ
def e2(Z:Kd):Kv:=λv σ=>ok (Vf v)<|e3 σ Z
def e1(m:M1):Md:=λρ σ Z=>m ρ σ<|e2 Z
def g1(Q:Kv):Kd:=λT σ=>rO (W2 T.length lim)<|Q (.d<|.lst T) σ
def s3(T:Va)(σ:UT)(o:V)(Q:Kv):D->Prop:=λi=>ok (lF T (fe T σ o) i)<|d σ Q
def s2(T:Va)(o:V)(Q:Kv):Kv:=λi σ=>ok (Vf i)<|s3 T σ o Q
def s1(T:Va)(m:M1)(ρ:Ev)(Q:Kv):Kv:=λo σ=>m ρ σ<|s2 T o Q
def x4(T:Va)(σ:UT)(lo h:Option D)(Q:Kv):D->Prop:=λo=>ok (fR T o lo h)<|d σ Q
def x3(T:Va)(o:V)(lo:Option D)(Q:Kv):Option D->UT->Prop:=λh σ=>ok (Vf o)<|x4 T σ lo h Q
def x2(T:Va)(m:Ev->UT->(Option D->UT->Prop)->Prop)(o:V)(ρ:Ev)(Q:Kv):Option D->UT->Prop:=λlo σ=>m ρ σ<|x3 T o lo Q
def x1(T:Va)(M m:Ev->UT->(Option D->UT->Prop)->Prop)(ρ:Ev)(Q:Kv):Kv:=λo σ=>M ρ σ<|x2 T m o ρ Q
def a1(a:Nat)(Q:Kv):Kv:=λo σ=>ok (B8 σ o a)<|v σ Q
def f1(C:Cl)(f:Nat)(Q:Kv):List V->UT->Prop:=λvs σ=>C f vs σ Q
def y1(T:Va)(b:Nat)(Q:Kv):List V->UT->Prop:=λvs σ=>LA T b vs σ Q
def z2(b:Nat)(σ:UT)(Q:Kv):List D->Prop:=λl=>match b with
  |1=>Q (.d<|.tup l) σ
  |2=>Q (.d<|.lst l) σ
  |_=>False
def z1(b:Nat)(Q:Kv):List V->UT->Prop:=λvs σ=>ok (iA vs)<|z2 b σ Q
def w2(σ:UT)(Q:Kv):Bool->Prop:=λb=>Q (.d<|.bool b) σ
def w1(T:Va)(k:Nat)(Q:Kv):Kv:=λv σ=>ok (o9 k<|fe T σ v)<|w2 σ Q
def o3(n:Nat)(Q:Kv):Kv:=λv Y=>rO (VW v)<|Q (.loc n) Y
def o2(C:Cl)(c f:Nat)(Q:Kv):List V->UT->Prop:=λvs σ=>C f (.loc σ.length::vs) (σ++[.inst c []])<|o3 σ.length Q
def o1(C:Cl)(m:Ms)(c:Nat)(ρ:Ev)(σ:UT)(Q:Kv):Nat->Prop:=λf=>m ρ σ<|o2 C c f Q
def m3(C:Cl)(f:Nat)(v:V)(Q:Kv):List V->UT->Prop:=λvs σ=>C f (v::vs) σ Q
def m2(C:Cl)(m:Ms)(v:V)(ρ:Ev)(σ:UT)(Q:Kv):Nat->Prop:=λf=>m ρ σ<|m3 C f v Q
def m4(T:Va)(m:Nat)(v:V)(Q:Kv):List V->UT->Prop:=λvs Y=>Rq T m v vs Y Q
def m1(T:Va)(C:Cl)(M:Ms)(m:Nat)(ρ:Ev)(Q:Kv):Kv:=λv σ=>match nu σ v with
  |some c=>rO (W2 7 m)<|ok (T.mt c m)<|m2 C M v ρ σ Q
  |none=>rO (zN (Fd T σ v) m)<|M ρ σ<|m4 T m v Q
def p2(C:Cl)(f:Nat)(v:V)(σ:UT)(Q:Kv):Nat->Prop:=λc=>rO (WV c 2)<|C f [v] σ Q
def p1(C:Cl)(f:Nat)(σ:UT)(Q:Kv):V->Prop:=λv=>ok (nu σ v)<|p2 C f v σ Q
def h2(σ:UT)(Q:Kv):Int->Prop:=λi=>rO (decide<|i.natAbs<10000000000)<|Q (.d<|.hash i) σ
def h1(Q:Kv):Kv:=λv σ=>ok (AY v)<|h2 σ Q
def q2(v:V)(Z:List V->UT->Prop):List V->UT->Prop:=λvs σ=>Z (v::vs) σ
def q1(m:Ms)(ρ:Ev)(Z:List V->UT->Prop):Kv:=λv σ=>m ρ σ<|q2 v Z
def TJ(σ:UT)(Z:Option D->UT->Prop):D->Prop:=λx=>Z (some x) σ
def vo(Z:Option D->UT->Prop):Kv:=λv σ=>ok (Vf v)<|TJ σ Z
def Ua(m:M1)(a:Bool)(ρ:Ev)(σ:UT)(Q:Kv):Bool->Prop:=λb=>match b==a with
   |true=>m ρ σ Q
   |false=>Q (.d<|.bool b) σ
def bo(m:M1)(a:Bool)(ρ:Ev)(Q:Kv):Kv:=λv σ=>ok (BD v)<|Ua m a ρ σ Q
def Tq(m:V->Ev->UT->(Bool->UT->Prop)->Prop)(b:V)(o:List Nat)(r:List PE)(ρ:Ev)(σ:UT)(Z:Bool->UT->Prop):Bool->Prop:=λc=>match r with
  |[]=>match o with
   |[]=>Z c σ
   |_::_=>False
  |_::_=>match c with
   |true=>m b ρ σ Z
   |false=>Z false σ
def vc(T:Va)(m:V->Ev->UT->(Bool->UT->Prop)->Prop)(o:Nat)(a:V)(s:List Nat)(r:List PE)(ρ:Ev)(Z:Bool->UT->Prop):Kv:=λb σ=>ok (nk T σ o a b)<|Tq m b s r ρ σ Z
def UJ(σ:UT)(Z:List D->Sr->UT->Prop):List D×Sr->Prop:=λr=>match r with|(l,s)=>Z l s σ
def ie(Z:List D->Sr->UT->Prop):Kv:=λv σ=>ok (Rj σ v)<|UJ σ Z
def Rl(σ:UT)(Z:List D->Sr->UT->Prop):List D->Prop:=λl=>Z l .no σ
def ir(Z:List D->Sr->UT->Prop):List V->UT->Prop:=λvs σ=>ok (iA vs)<|Rl σ Z
def Ue(σ:UT)(Z:List D->Sr->UT->Prop):List D->Prop:=λl=>Z l (.jk σ.length)<|σ++[.eN]
def R5(u:V)(Z:List D->Sr->UT->Prop):Kv:=λv σ=>ok (Nd u v)<|Ue σ Z
def iz(m:M1)(ρ:Ev)(Z:List D->Sr->UT->Prop):Kv:=λu σ=>m ρ σ<|R5 u Z
def in1(T:Va)(Z:List D->Sr->UT->Prop):Kv:=λu σ=>ok (Kc T u)<|Rl σ Z
def So(m:Md)(ρ:Ev)(Z:Kd):Bool->UT->Prop:=λb σ=>match b with
   |true=>m ρ σ Z
   |false=>Z [] σ
def Sn(M:Ev->UT->(Bool->UT->Prop)->Prop)(m:Md)(σ:UT)(Z:Kd):Ev->Prop:=λρ=>M ρ σ<|So m ρ Z
def gb(M:Ev->UT->(Bool->UT->Prop)->Prop)(m:Md)(t:PT)(ρ:Ev):D->UT->Kd->Prop:=λx σ Z=>ok (dM ρ t x)<|Sn M m σ Z
def Tc(m:Ev->UT->(Bool->UT->Prop)->Prop)(ρ:Ev)(σ:UT)(Z:Bool->UT->Prop):Bool->Prop:=λb=>match b with
  |true=>m ρ σ Z
  |false=>Z false σ
def va(m:Ev->UT->(Bool->UT->Prop)->Prop)(ρ:Ev)(Z:Bool->UT->Prop):Kv:=λv σ=>ok (BD v)<|Tc m ρ σ Z
def pt(σ:UT)(Z:Ev->UT->Prop):Ev->Prop:=λρ=>Z ρ σ
def Rr(ρ:Ev)(Z:Ev->UT->Prop):UT->Prop:=λσ=>Z ρ σ
def pa(a:Nat)(v:V)(ρ:Ev)(Z:Ev->UT->Prop):Kv:=λo σ=>ok (Kx σ o a v)<|Rr ρ Z
def Tz(o v:V)(ρ:Ev)(σ:UT)(Z:Ev->UT->Prop):D->Prop:=λi=>ok (zF σ o i v)<|Rr ρ Z
def US(o v:V)(ρ:Ev)(Z:Ev->UT->Prop):Kv:=λi σ=>ok (Vf i)<|Tz o v ρ σ Z
def Tf(m:M1)(v:V)(ρ:Ev)(Z:Ev->UT->Prop):Kv:=λo σ=>m ρ σ<|US o v ρ Z
def pl(m:Ev->UT->(Ev->UT->Prop)->Prop)(Z:Ev->UT->Prop):Ev->UT->Prop:=λρ σ=>m ρ σ Z
def nx(Q:Kf):Ev->UT->Prop:=λρ σ=>Q .next ρ σ
def as(m:V->Ev->UT->(Ev->UT->Prop)->Prop)(ρ:Ev)(Q:Kf):Kv:=λv σ=>m v ρ σ<|nx Q
def par(m:List V->Ev->UT->(Ev->UT->Prop)->Prop)(ρ:Ev)(Q:Kf):List V->UT->Prop:=λvs σ=>m vs ρ σ<|nx Q
def ex(ρ:Ev)(Q:Kf):Kv:=λ_ σ=>Q .next ρ σ
def if2(mt m:Mf)(ρ:Ev)(σ:UT)(Q:Kf):Bool->Prop:=λb=>match b with
  |true=>mt ρ σ Q
  |false=>m ρ σ Q
def if1(mt m:Mf)(ρ:Ev)(Q:Kf):Kv:=λv σ=>ok (BD v)<|if2 mt m ρ σ Q
def rt(ρ:Ev)(Q:Kf):Kv:=λv σ=>Q (.ret v) ρ σ
def sq(m:Mf)(Q:Kf):Kf:=λf ρ σ=>match f with
  |.next=>m ρ σ Q
  |.ret v=>Q (.ret v) ρ σ
def Td(m:Mf)(σ:UT)(Q:Kf):Ev->Prop:=λρ=>m ρ σ Q
def fb(m:Mf)(t:PT):D->Ev->UT->Kf->Prop:=λx ρ σ Q=>ok (dM ρ t x)<|Td m σ Q
def RS(σ:UT)(Z:Bool->UT->Prop):Bool->Prop:=λb=>Z b σ
def TL(Z:Bool->UT->Prop):Kv:=λv σ=>ok (BD v)<|RS σ Z
def wb(m:M1):Ev->UT->(Bool->UT->Prop)->Prop:=λρ σ Z=>m ρ σ<|TL Z
def lp(src:Sr)(all:List D)(m:Mf)(Q:Kf):Kf:=λf ρ σ=>match f with
  |.next=>dx src all σ/\m ρ σ Q
  |.ret v=>Q (.ret v) ρ σ
def wh(m:Mf)(ρ:Ev)(M:Mf)(Q:Kf):Bool->UT->Prop:=λb σ=>match b with
  |true=>M ρ σ<|sq m Q
  |false=>Q .next ρ σ
def cm(src:Sr)(all a:List D)(m:List D->UT->Kd->Prop)(Q:Kd):Kd:=λT σ=>dx src all σ/\(rO (W2 (a++T).length lim)<|m (a++T) σ Q)
end Kn
def Vb(src:Sr)(all:List D)(B:D->Ev->UT->Kf->Prop):List D->Ev->UT->Kf->Prop
 |[],ρ,σ,Q=>Q .next ρ σ
 |x::xs,ρ,σ,Q=>B x ρ σ (Kn.lp src all (Vb src all B xs) Q)
def IZ(C:Ev->UT->(Bool->UT->Prop)->Prop)(B:Mf):Nat->Ev->UT->Kf->Prop
 |0,_,_,_=>False
 |n+1,ρ,σ,Q=>C ρ σ (Kn.wh (IZ C B n) ρ B Q)
def bb(src:Sr)(all:List D)(B:D->UT->Kd->Prop):List D->List D->UT->Kd->Prop
 |[],a,σ,Q=>Q a σ
 |x::xs,a,σ,Q=>B x σ (Kn.cm src all a (bb src all B xs) Q)
namespace Kn
def gn(M:Ev->UT->(Bool->UT->Prop)->Prop)(m:Md)(t:PT)(ρ:Ev)(Z:Kd):List D->Sr->UT->Prop:=λl src σ=>bb src l (gb M m t ρ) l [] σ Z
def fo(m:Mf)(t:PT)(ρ:Ev)(Q:Kf):List D->Sr->UT->Prop:=λl src σ=>Vb src l (fb m t) l ρ σ Q
end Kn
mutual
def vE(T:Va)(C:Cl):PE->M1
 |.hole,_,_,_=>False
 |.k d,_,σ,Q=>Q (.d d) σ
 |.v x,ρ,σ,Q=>ok (UY ρ x) (Kn.v σ Q)
 |.g x,_,σ,Q=>ok (T.gt x) (Kn.d σ Q)
 |.bin o l r,ρ,σ,Q=>vE T C l ρ σ (Kn.b1 (vE T C r) o ρ Q)
 |.neg e,ρ,σ,Q=>vE T C e ρ σ (Kn.n1 Q)
 |.not e,ρ,σ,Q=>vE T C e ρ σ (Kn.t1 Q)
 |.bo a es,ρ,σ,Q=>vB T C a es ρ σ Q
 |.cmp l s L,ρ,σ,Q=>vE T C l ρ σ (Kn.c1 (vC T C s L) ρ Q)
 |.DG c t f,ρ,σ,Q=>vE T C c ρ σ (Kn.i1 (vE T C t) (vE T C f) ρ Q)
 |.tup es,ρ,σ,Q=>nj T C es ρ σ (Kn.u1 Q)
 |.ls m es,ρ,σ,Q=>nj T C es ρ σ (Kn.l1 m Q)
 |.kj kk n vs,ρ,σ,Q=>nj T C n ρ σ (Kn.d1 (nj T C vs) kk ρ Q)
 |.lc xs E G,ρ,σ,Q=>vG T C (Kn.e1 (vE T C E)) G (Vp ρ xs) σ (Kn.g1 Q)
 |.sub e i,ρ,σ,Q=>vE T C e ρ σ (Kn.s1 T (vE T C i) ρ Q)
 |.sl e lo h,ρ,σ,Q=>vE T C e ρ σ (Kn.x1 T (vO T C lo) (vO T C h) ρ Q)
 |.at e a,ρ,σ,Q=>vE T C e ρ σ (Kn.a1 a Q)
 |.call f es,ρ,σ,Q=>nj T C es ρ σ (Kn.f1 C f Q)
 |.bi b es,ρ,σ,Q=>nj T C es ρ σ (Kn.y1 T b Q)
 |.kW b es,ρ,σ,Q=>nj T C es ρ σ (Kn.z1 b Q)
 |.Hv e k,ρ,σ,Q=>vE T C e ρ σ (Kn.w1 T k Q)
 |.new c es,ρ,σ,Q=>ok (T.mt c 0) (Kn.o1 C (nj T C es) c ρ σ Q)
 |.me e m es,ρ,σ,Q=>vE T C e ρ σ (Kn.m1 T C (nj T C es) m ρ Q)
 |.sup f,ρ,σ,Q=>ok (UY ρ 0) (Kn.p1 C f σ Q)
 |.fs e,ρ,σ,Q=>vE T C e ρ σ (Kn.h1 Q)
def nj(T:Va)(C:Cl):List PE->Ms
 |[],_,σ,Q=>Q [] σ
 |e::r,ρ,σ,Q=>vE T C e ρ σ (Kn.q1 (nj T C r) ρ Q)
def vO(T:Va)(C:Cl):Option PE->Ev->UT->(Option D->UT->Prop)->Prop
 |none,_,σ,Q=>Q none σ
 |some e,ρ,σ,Q=>vE T C e ρ σ (Kn.vo Q)
def vB(T:Va)(C:Cl):Bool->List PE->M1
 |_,[],_,_,_=>False
 |a,e::r,ρ,σ,Q=>match r with
  |[]=>vE T C e ρ σ Q
  |_::_=>vE T C e ρ σ (Kn.bo (vB T C a r) a ρ Q)
def vC(T:Va)(C:Cl):List Nat->List PE->V->Ev->UT->(Bool->UT->Prop)->Prop
 |o::s,r::L,a,ρ,σ,Q=>vE T C r ρ σ (Kn.vc T (vC T C s L) o a s L ρ Q)
 |_,_,_,_,_,_=>False
def vI(T:Va)(C:Cl):PI->Ev->UT->(List D->Sr->UT->Prop)->Prop
 |.e x,ρ,σ,Q=>vE T C x ρ σ (Kn.ie Q)
 |.kW es,ρ,σ,Q=>nj T C es ρ σ (Kn.ir Q)
 |.zip x y,ρ,σ,Q=>vE T C x ρ σ (Kn.iz (vE T C y) ρ Q)
 |.enum x,ρ,σ,Q=>vE T C x ρ σ (Kn.in1 T Q)
def vG(T:Va)(C:Cl)(L:Md):List PG->Md
 |[],ρ,σ,Q=>L ρ σ Q
 |.mk t i I::gs,ρ,σ,Q=>vI T C i ρ σ (Kn.gn (vA T C I) (vG T C L gs) t ρ Q)
def vA(T:Va)(C:Cl):List PE->Ev->UT->(Bool->UT->Prop)->Prop
 |[],_,σ,Q=>Q true σ
 |e::r,ρ,σ,Q=>vE T C e ρ σ (Kn.va (vA T C r) ρ Q)
end
def vL(T:Va)(C:Cl):PL->V->Ev->UT->(Ev->UT->Prop)->Prop
 |.t t,v,ρ,σ,Q=>ok (F9 ρ t v) (Kn.pt σ Q)
 |.at e a,v,ρ,σ,Q=>vE T C e ρ σ (Kn.pa a v ρ Q)
 |.sub e i,v,ρ,σ,Q=>vE T C e ρ σ (Kn.Tf (vE T C i) v ρ Q)
def Oo(T:Va)(C:Cl):List PL->List V->Ev->UT->(Ev->UT->Prop)->Prop
 |[],[],ρ,σ,Q=>Q ρ σ
 |t::ts,v::vs,ρ,σ,Q=>vL T C t v ρ σ (Kn.pl (Oo T C ts vs) Q)
 |_,_,_,_,_=>False
mutual
def vS(T:Va)(C:Cl):PS->Mf
 |.hole,_,_,_=>False
 |.asg t e,ρ,σ,Q=>vE T C e ρ σ (Kn.as (vL T C t) ρ Q)
 |.par ts es,ρ,σ,Q=>nj T C es ρ σ (Kn.par (Oo T C ts) ρ Q)
 |.ex e,ρ,σ,Q=>vE T C e ρ σ (Kn.ex ρ Q)
 |.iff c t f,ρ,σ,Q=>vE T C c ρ σ (Kn.if1 (da T C t) (da T C f) ρ Q)
 |.for t i b,ρ,σ,Q=>vI T C i ρ σ (Kn.fo (da T C b) t ρ Q)
 |.Gk c b,ρ,σ,Q=>∃n,IZ (Kn.wb (vE T C c)) (da T C b) n ρ σ Q
 |.ret e,ρ,σ,Q=>vE T C e ρ σ (Kn.rt ρ Q)
 |.try b,ρ,σ,Q=>da T C b ρ σ Q
def da(T:Va)(C:Cl):List PS->Mf
 |[],ρ,σ,Q=>Q .next ρ σ
 |s::r,ρ,σ,Q=>vS T C s ρ σ (Kn.sq (da T C r) Q)
end
def vR(n:Nat)(keep:Bool)(f:Fl)(σ:UT)(Q:V->UT->Prop):Prop:=ok (Vg keep n (match f with|.ret v=>v|.next=> .d .none) σ) (rQ Q)
def Kn.en(n:Nat)(keep:Bool)(Q:Kv):Kf:=λf _ Y=>vR n keep f Y Q
def Kn.fn(T:Va)(C:Cl)(vs:List V)(σ:UT)(Q:Kv):Fn->Prop:=λF=>rO (WV F.ps.length vs.length)<|da T C F.body (F.ps.zip vs) σ<|Kn.en σ.length F.keep Q
def vF(T:Va)(C:Cl)(f:Nat)(vs:List V)(σ:UT)(Q:V->UT->Prop):Prop:=
 ok (T.fn f) (Kn.fn T C vs σ Q)
structure Calls (T:Va) (C:Nat->Cl):Prop where
 step:∀{d f:Nat}{vs:List V}{σ:UT}{Q:V->UT->Prop},vF T (C d) f vs σ Q->C (d+1) f vs σ Q
 le:∀{d e f:Nat}{vs:List V}{σ:UT}{Q:V->UT->Prop},C d f vs σ Q->d<=e->C e f vs σ Q
namespace Y
noncomputable abbrev v:=PE.v
noncomputable abbrev g:=PE.g
noncomputable abbrev i(x:Int):PE:=.k<|.int x
abbrev o:=i 0
abbrev u:=i 1
noncomputable abbrev z(x:Nat):PE:=.k<|.str x
noncomputable abbrev c(o:Nat)(x y:PE):PE:=.cmp x [o] [y]
noncomputable abbrev s:=PE.sub
noncomputable abbrev t:=PE.tup
noncomputable abbrev l:=PE.ls
noncomputable abbrev m:=PE.me
noncomputable abbrev f:=PE.call
noncomputable abbrev b:=PE.bi
noncomputable abbrev n:=PE.bo true
noncomputable abbrev d:=PE.bo false
noncomputable abbrev j:=PE.bin
noncomputable abbrev q:=PE.at
noncomputable abbrev G:=PE.neg
noncomputable abbrev J:=PE.not
noncomputable abbrev y:=PE.Hv
noncomputable abbrev e:=PE.DG
noncomputable abbrev L:=PE.lc
noncomputable abbrev M(x:Nat)(y:PE):List PE->PG:=.mk (.n x)<|.e y
noncomputable abbrev a(x:Nat):PE->PS:=.asg<|.t<|.n x
noncomputable abbrev x:=PS.ex
noncomputable abbrev w(c:PE)(t:List PS):PS:=.iff c t []
noncomputable abbrev B:=PS.iff
noncomputable abbrev r:=PS.ret
noncomputable abbrev h:=PS.hole
end Y
section
open Y
def b0:List PS:=[r<|e (c 3 (v 1)<|v 2) (t [t [v 1,v 2]])<|t []]
def b1:List PS:=[B (n [c 4 (b 0 [v 3]) o,c 3 (v 1)<|j 0 (s (s (v 3)<|G u) u) u]) [w (c 4 (v 2)<|s (s (v 3)<|G u) u) [.asg (.sub (v 3)<|G u)<|t [s (s (v 3)<|G u) o,v 2]]] [x<|m (v 3) 0 [t [v 1,v 2]]]]
def b2:List PS:=[a 3<|l true [],.for (.n 4) (.e<|b 4 [v 5]) [x<|f 1 [v 3,v 4,v 4]],r<|b 1 [v 3]]
def b3:List PS:=[r<|s (s (v 6) o) o]
def b4:List PS:=[r<|s (s (v 6)<|G u) u]
def b5:List PS:=[.asg (.at (v 0) 7) (l true []),.asg (.at (v 0) 8) (l true []),.asg (.at (v 0) 9) (t [z 0,.k .none]),.asg (.at (v 0) 10) (t [])]
def b6:List PS:=[x<|m (q (v 0) 7) 0 [t [v 11,v 12]],r<|j 1 (b 0 [q (v 0) 7]) u]
def b7:List PS:=[x<|m (q (v 0) 8) 0 [v 13]]
def b8:List PS:=[r<|b 0 [q (v 0) 7]]
def b9:List PS:=[r<|s (s (q (v 0) 7)<|v 14) u]
def SW:List PS:=[r<|n [y (v 15) 0,J<|y (v 15) 1]]
def TX:List PS:=[r<|n [y (v 15) 3,b 14 [L [16] (f 10 [v 16]) [M 16 (v 15) []]]]]
def SI:List PS:=[r<|n [f 10 [v 15],.cmp o [3,2] [v 15,v 17]]]
def TS:List PS:=[w (c 0 (v 18)<|z 1) [h],w (c 0 (v 18)<|z 2) [r<|n [y (v 15) 3,b 14 [L [16] (f 12 [v 16,v 17]) [M 16 (v 15) []]]]],w (c 0 (v 18)<|z 3) [h],w (c 0 (v 18)<|z 4) [r<|f 11 [v 15]],w (c 0 (v 18)<|z 5) [h],w (c 0 (v 18)<|z 6) [r<|n [y (v 15) 2,c 8 (v 15)<|g 0]],h]
def OC:List PS:=[w (d [J<|y (v 13) 3,c 0 (b 0 [v 13]) o,J<|y (s (v 13) o) 2,c 9 (s (v 13) o)<|g 1]) [h],.par [.t<|.n 11,.t<|.n 19] [s (v 13) o,s (g 1)<|s (v 13) o],w (c 1 (b 0 [v 13])<|j 0 (b 0 [v 19]) u) [h],.for (.t [.n 20,.n 18]) (.enum<|v 19) [w (J<|f 13 [v 18,s (v 13)<|j 0 (v 20) u,v 17]) [h]],.for (.t [.n 16,.n 21]) (.e<|m (g 2) 5 [v 11,t []]) [w (c 1 (b 0 [s (v 13)<|v 16])<|b 0 [s (v 13)<|v 21]) [h]],w (n [c 0 (v 11)<|z 7,c 2 (b 7 [j 0 (j 0 (s (v 13)<|i 2)<|s (v 13)<|i 3)<|.sl (v 13) (some<|i 4) none]) o]) [h],w (n [c 0 (v 11)<|z 8,c 2 (b 7 [j 0 (s (v 13)<|i 2)<|t [o]]) o]) [h],w (n [c 8 (v 11)<|t [z 9,z 10],c 0 (b 0 [s (v 13) u]) o]) [h],w (n [c 0 (v 11)<|z 11,J<|b 14 [L [22] (c 0 (b 0 [v 22])<|b 0 [s (v 13) u]) [M 22 (s (v 13)<|i 2) []]]]) [h],r<|e (c 0 (v 11)<|z 12) .hole<|z 13]
def Uw:List PS:=[r<|n [y (v 23) 3,c 0 (b 0 [v 23])<|i 2,y (s (v 23) u) 4]]
def Uh:List PS:=[r<|n [y (v 23) 3,J<|f 15 [v 23]]]
def RX:List PS:=[w (y (v 23) 0) [r<|b 10 [v 23]],h]
def Ud:List PS:=[w (f 16 [v 23]) [r<|v 23],h]
def Up:List PS:=[w (f 15 [v 23]) [r<|s (v 23) u],h]
noncomputable def TY:List PS:=[r<|t [t [t [u,b 0 [v 25]]],v 25]]
def TH:List PS:=[w (c 5 (j 1 (v 2)<|v 1)<|g 3) [h],r<|.kW 1 [v 1,j 0 (v 2) u]]
def Ux:List PS:=[w (c 5 (b 9 [v 26])<|j 5 (i 10)<|g 4) [h],r<|v 26]
noncomputable def RW:List PS:=[.asg (.at (v 0) 27) (v 27)]
def TG:List PS:=[.par [.t<|.n 28,.t<|.n 24] [s (v 29) o,s (v 29) u],w (c 8 (v 28)<|t [z 14,z 15,z 16]) [r<|s (v 29)<|i 2],w (c 0 (v 28)<|z 17) [h,h],w (c 0 (v 28)<|z 18) [h],w (c 0 (v 28)<|z 19) [r<|m (v 0) 10 [s (v 29)<|i 2,s (v 29)<|i 3,v 24]],w (c 0 (v 28)<|z 20) [r<|f 29 [s (v 29)<|i 2,m (v 0) 11 [s (v 29)<|i 3],v 24]],w (c 0 (v 28)<|z 21) [h],w (c 0 (v 28)<|z 22) [h],w (c 0 (v 28)<|z 23) [h],w (c 0 (v 28)<|z 24) [h],r<|m (v 0) 12 [v 28,v 29,v 24]]
def Tj:List PS:=[r<|L [29] (m (v 0) 13 [v 29]) [M 29 (v 30) []]]
def T6:List PS:=[w (c 0 (v 28)<|z 25) [r<|f 20 [m (v 0) 11 [s (v 29)<|i 2]]],w (c 0 (v 28)<|z 26) [h,h,h,h],w (c 0 (v 28)<|z 27) [.asg (.t<|.t [.n 1,.n 2])<|m (v 0) 11 [.sl (v 29) (some<|i 2)<|some<|i 4],r<|f 21 [f 17 [v 1,v 24],f 17 [v 2,v 24]]],w (c 0 (v 28)<|z 28) [r<|b 1 [b 5 [L [16] (f 17 [v 16,v 24]) [M 16 (m (v 0) 11 [s (v 29)<|i 2]) []]]]],h,h,h,h]
def UB:List PS:=[a 23<|m (v 0) 13 [v 29],w (c 0 (v 31)<|z 29) [h],r<|f 22 [e (c 0 (v 31)<|z 30) (G<|f 17 [v 23,v 24])<|f 17 [v 23,v 24]]]
def Se:List PS:=[w (c 0 (s (v 29) o)<|z 27) [.asg (.t<|.t [.n 1,.n 2])<|m (v 0) 11 [.sl (v 29) (some<|i 2)<|some<|i 4],r<|f 0 [f 17 [v 1,s (v 29) u],f 17 [v 2,s (v 29) u]]],r<|f 2 [f 18 [m (v 0) 13 [v 29],s (v 29) u]]]
def Ta:List PS:=[w (c 8 (v 11)<|g 5) [h,h],w (c 8 (v 11)<|t [z 31,z 32,z 33,z 34,z 35,z 36,z 37,z 38,z 39,z 40]) [h],w (c 8 (v 11)<|t [z 41,z 42,z 43]) [h],w (c 8 (v 11)<|t [z 44,z 45]) [r<|f 30 [v 11,v 25,v 24]],h,h,h,h,h,h]
def SN:List PS:=[.par [.t<|.n 32,.t<|.n 33] [L [16] (f 18 [v 16,v 24]) [M 16 (.sl (v 25) none<|some<|G u) []],e (c 4 (b 0 [v 25]) o) (f 19 [s (v 25)<|G u,v 24])<|l true []],w (c 1 (b 0 [v 32])<|e (c 0 (v 11)<|z 44) u<|i 2) [h],.par [.t<|.n 34,.t<|.n 17] [l true [],u],.for (.n 16) (.e<|v 32) [.asg (.t<|.t [.n 1,.n 2])<|e (c 4 (b 0 [v 16]) o) (t [s (v 16) o,s (v 16)<|G u])<|t [u,o],w (c 1 (j 0 (j 1 (v 2)<|v 1) u)<|b 0 [v 16]) [h],x<|m (v 34) 0 [t [v 1,v 2]],a 17<|j 2 (v 17)<|b 0 [v 16]],w (c 1 (v 17)<|b 0 [v 33]) [h],r<|t [b 1 [v 34],v 33]]
def UG:List PS:=[r<|n [y (v 23) 3,c 0 (b 0 [v 23])<|i 3,c 0 (s (v 23) o)<|v 18]]
def Sd:List PS:=[r<|d [y (v 23) 1,f 31 [v 23,z 46]]]
def T9:List PS:=[w (f 15 [v 23]) [r<|c 0 (L [16] (v 16) [M 16 (s (v 23) u) [J<|f 33 [v 16]]])<|l false []],r<|n [J<|f 31 [v 23,z 47],J<|f 31 [v 23,z 46]]]
def Sg:List PS:=[w (f 31 [v 23,z 47]) [r<|v 23],w (J<|f 31 [v 23,z 46]) [r<|t [z 47,t [],b 10 [v 23]]],r<|e (s (v 23)<|i 2) (t [z 47,t [t [s (v 23) u,u]],o])<|t [z 47,t [t [s (v 23) u,G u]],u]]
def T5:List PS:=[.par [.t<|.n 16,.t<|.n 21] [f 34 [v 16],f 34 [v 21]],.par [.t<|.n 35,.t<|.n 36] [b 3 [s (v 16) u],f 22 [j 0 (s (v 16)<|i 2)<|j 2 (v 37)<|s (v 21)<|i 2]],.for (.t [.n 14,.n 38]) (.e<|s (v 21) u) [.asg (.sub (v 35)<|v 14)<|f 22 [j 0 (m (v 35) 5 [v 14,o])<|j 2 (v 37)<|v 38]],a 3<|b 1 [L [14] (t [v 14,s (v 35)<|v 14]) [M 14 (b 4 [v 35]) [c 1 (s (v 35)<|v 14) o]]],r<|e (c 1 (v 3)<|t []) (t [z 47,v 3,v 36])<|v 36]
def SU:List PS:=[r<|e (y (v 39) 1) (J<|v 39)<|t [z 46,s (v 39) u,J<|s (v 39)<|i 2]]
def Sx:List PS:=[a 3 o,.for (.n 38) (.e<|v 5) [.par [.t<|.n 3,.t<|.n 40] [b 9 [v 38],v 3],.Gk (c 4 (v 40) o) [.par [.t<|.n 3,.t<|.n 40] [v 40,j 3 (v 3)<|v 40]]],r<|v 3]
def S9:List PS:=[a 41<|t [z 48,z 49,z 50,z 51,z 52,z 53,z 54,z 29,z 55,z 56,z 32],a 42<|l true [v 29],.Gk (c 4 (b 0 [v 42]) o) [a 43<|m (v 42) 2 [],w (y (v 43) 3) [w (n [c 4 (b 0 [v 43])<|i 2,c 8 (s (v 43) o)<|t [z 18,z 19,z 21,z 20],d [c 8 (s (v 43)<|i 2)<|v 41,c 8 (s (v 43)<|i 2)<|g 6]]) [h],x<|m (v 42) 1 [v 43]]],r<|.k<|.bool false]
def RZ:List PS:=[.try [r<|m (.new 1 [v 27]) 14 [v 29]]]
def Si:List PS:=[r<|b 1 [L [16] (b 10 [v 16]) [M 16 (v 25) []]]]
def Tw:List PS:=[w (d [c 1 (s (v 29) o)<|z 21,c 8 (s (v 29)<|i 2)<|t [z 55,z 56]]) [r<|v 29],h]
noncomputable def RL:List PS:=[.asg (.at (v 0) 44) (.new 0 []),.asg (.at (v 0) 45) (.kj 2 [] [])]
def Ug:List PS:=[a 46<|c 9 (v 47)<|q (v 0) 45,w (v 46) [.for (.t [.n 1,.n 2]) (.e<|v 12) [x<|f 22 [b 8 [b 9 [v 1],b 9 [v 2]]]],.asg (.sub (q (v 0) 45)<|v 47)<|m (q (v 0) 44) 15 [.fs<|m (q (v 0) 44) 16 [],v 12]],r<|t [s (q (v 0) 45)<|v 47,v 46]]
def Sb:List PS:=[a 48<|f 34 [v 23],.par [.t<|.n 1,.t<|.n 2] [s (v 48)<|i 2,s (v 48)<|i 2],.for (.t [.n 14,.n 38]) (.e<|s (v 48) u) [a 49<|t [j 2 (v 38)<|f 3 [m (q (v 0) 44) 14 [v 14]],j 2 (v 38)<|f 4 [m (q (v 0) 44) 14 [v 14]]],.par [.t<|.n 1,.t<|.n 2] [j 0 (v 1)<|b 7 [v 49],j 0 (v 2)<|b 8 [v 49]]],r<|t [v 1,v 2]]
def Pc:List PS:=[a 48<|f 34 [v 23],w (n [c 0 (b 0 [s (v 48) u]) u,c 0 (s (s (s (v 48) u) o) u) u,c 0 (s (v 48)<|i 2) o]) [r<|s (s (s (v 48) u) o) o],.asg (.t<|.t [.n 1,.n 2])<|m (v 0) 17 [v 48],.asg (.t<|.t [.n 14,.n 46])<|m (v 0) 18 [v 48,f 0 [v 1,v 2]],w (n [v 46,c 1 (s (v 48) u)<|t []]) [.par [.t<|.n 50,.t<|.n 25] [j 0 (L [51,38] (v 38) [.mk (.t [.n 51,.n 38]) (.e<|s (v 48) u) []])<|l false [G u],j 0 (L [51,38] (v 51) [.mk (.t [.n 51,.n 38]) (.e<|s (v 48) u) []])<|l false [v 14]],x<|m (q (v 0) 44) 19 [t [z 57,b 1 [v 50],b 1 [v 25],G<|s (v 48)<|i 2]]],r<|v 14]
def UE:List PS:=[r<|b 1 [L [16] (m (v 0) 20 [v 16]) [M 16 (v 25) []]]]
def UL:List PS:=[a 49<|L [16] (m (v 0) 17 [v 16]) [M 16 (v 25) []],r<|e (c 0 (L [1,2] (v 2) [.mk (.t [.n 1,.n 2]) (.e<|v 49) [c 4 (j 1 (v 2)<|v 1)<|g 7]])<|l false []) (z 58)<|z 59]
def QW:List PS:=[.par [.t<|.t [.n 1,.n 2],.t<|.n 48] [m (v 0) 17 [v 23],f 34 [v 23]],B (c 0 (v 18)<|z 60) [w (d [c 3 (v 2) o,c 4 (v 1) o]) [r<|c 3 (v 2) o]] [B (d [c 4 (v 1) o,c 2 (v 2) o]) [r<|c 0 (v 18)<|z 61] [w (c 0 (v 1)<|v 2) [r<|c 0 (v 18)<|z 57]]],.par [.t<|.n 52,.t<|.n 53] [f 37 [L [14,38] (v 38) [.mk (.t [.n 14,.n 38]) (.e<|s (v 48) u) []]],G<|s (v 48)<|i 2],w (n [c 1 (v 18)<|z 60,c 1 (j 3 (v 53)<|v 52) o]) [h],r<|t [v 18,b 1 [L [14,38] (j 4 (v 38)<|v 52) [.mk (.t [.n 14,.n 38]) (.e<|s (v 48) u) []]],b 1 [L [14,38] (v 14) [.mk (.t [.n 14,.n 38]) (.e<|s (v 48) u) []]],j 4 (v 53)<|v 52]]
def Q4:List PS:=[a 13<|m (v 0) 21 [v 18,v 23],w (y (v 13) 1) [r<|v 13],.asg (.t<|.t [.n 18,.n 50,.n 25,.n 53])<|v 13,w (c 0 (v 18)<|z 61) [h],a 54<|b 1 [L [38] (G<|v 38) [M 38 (v 50) []]],w (n [c 2 (s (v 50) o) o,c 0 (v 18)<|z 60]) [r<|f 36 [m (v 0) 22 [t [v 18,v 54,v 25,j 1 (G<|v 53) u]]]],r<|m (v 0) 22 [e (c 4 (s (v 50) o) o) (v 13)<|t [v 18,v 54,v 25,G<|v 53]]]
def Rv:List PS:=[.asg (.t<|.t [.n 18,.n 50,.n 25,.n 53])<|v 13,w (n [c 0 (v 50)<|t [u],c 0 (m (q (v 0) 44) 14 [s (v 25) o])<|g 8]) [r<|t [z 46,s (v 25) o,n [c 0 (v 18)<|z 57,c 0 (v 53) u]]],.asg (.t<|.t [.n 55,.n 46])<|m (v 0) 18 [t [z 62,v 13],g 8],w (v 46) [x<|m (q (v 0) 44) 19 [t [z 62,v 55,v 13]]],r<|t [z 46,v 55,.k<|.bool true]]
def PB:List PS:=[a 56<|l true [],.for (.n 39) (.e<|v 57) [w (d [c 0 (v 39)<|.k<|.bool false,c 8 (f 36 [v 39])<|v 56]) [r<|.k<|.bool false],w (n [c 1 (v 39)<|.k<|.bool true,c 9 (v 39)<|v 56]) [x<|m (v 56) 0 [v 39]]],w (c 2 (b 0 [v 56])<|i 2) [r<|e (c 1 (v 56)<|l false []) (s (v 56) o)<|.k<|.bool true],x<|m (v 56) 3 [],.par [.t<|.n 25,.t<|.n 41] [b 1 [L [39] (s (v 39) u) [M 39 (v 56) []]],L [39] (s (v 39)<|i 2) [M 39 (v 56) []]],w (c 9 (.k<|.bool true)<|v 41) [.asg (.t<|.t [.n 55,.n 46])<|m (v 0) 18 [t [z 63,v 25],g 8],w (v 46) [x<|m (q (v 0) 44) 19 [t [z 63,v 25,v 55]]],r<|t [z 46,v 55,.k<|.bool false]],.asg (.t<|.t [.n 55,.n 46])<|m (v 0) 18 [t [z 64,b 1 [v 56]],g 8],B (n [v 46,c 9 (.k<|.bool false)<|v 41]) [x<|m (q (v 0) 44) 19 [t [z 65,v 25,v 55]]] [w (v 46) [.for (.n 39) (.e<|v 56) [x<|m (v 0) 23 [l false [t [z 46,v 55,.k<|.bool false],v 39]]],x<|m (v 0) 23 [j 0 (l false [t [z 46,v 55,.k<|.bool true]])<|L [39] (f 36 [v 39]) [M 39 (v 56) []]]]],r<|t [z 46,v 55,.k<|.bool true]]
def Tx:List PS:=[r<|f 36 [m (v 0) 24 [L [39] (f 36 [v 39]) [M 39 (v 57) []]]]]
def Sw:List PS:=[w (y (v 16) 1) [r<|e (v 16) (f 36 [v 21])<|v 21],w (y (v 21) 1) [r<|e (v 21) (f 36 [v 16])<|v 16],w (c 0 (s (v 16) u)<|s (v 21) u) [r<|c 1 (s (v 16)<|i 2)<|s (v 21)<|i 2],.par [.t<|.n 1,.t<|.n 2] [b 7 [s (v 16) u,s (v 21) u],b 8 [s (v 16) u,s (v 21) u]],.asg (.t<|.t [.n 53,.n 46])<|m (v 0) 18 [t [z 53,v 1,v 2],g 8],w (v 46) [x<|m (q (v 0) 44) 19 [t [z 53,v 1,v 2,v 53]]],r<|t [z 46,v 53,c 0 (s (v 16)<|i 2)<|s (v 21)<|i 2]]
def PX:List PS:=[w (d [c 8 (.k<|.bool true)<|v 57,c 1 (L [39] (v 39) [M 39 (v 57) [n [c 1 (v 39)<|.k<|.bool false,c 8 (f 36 [v 39])<|v 57]]])<|l false []]) [r<|.k .none],a 58<|b 4 [L [39] (v 39) [M 39 (v 57) [c 1 (v 39)<|.k<|.bool false]]],.par [.t<|.n 59,.t<|.n 60] [L [39] (s (v 39) u) [M 39 (v 58) [s (v 39)<|i 2]],L [39] (s (v 39) u) [M 39 (v 58) [J<|s (v 39)<|i 2]]],x<|m (q (v 0) 44) 19 [t [z 66,b 1 [b 5 [v 59]],b 1 [b 5 [v 60]]]]]
def Tv:List PS:=[a 13<|m (v 0) 21 [v 18,v 23],B (c 0 (v 13)<|.k<|.bool false) [x<|m (q (v 0) 44) 19 [t [z 66,t [],t []]]] [w (c 1 (v 13)<|.k<|.bool true) [x<|m (q (v 0) 44) 19 [v 13]]]]
def SX:List PS:=[x<|.sup 42,.asg (.at (v 0) 61) (.k .none)]
def Sz:List PS:=[B (c 6 (q (v 0) 61)<|.k .none) [x<|m (v 0) 23 [l false [v 39]]] [w (c 1 (v 39)<|.k<|.bool true) [x<|m (q (v 0) 61) 0 [v 39]]]]
def RU:List PS:=[.asg (.t<|.t [.n 62,.n 46])<|m (v 0) 18 [v 47,v 12],w (v 46) [x<|m (q (v 0) 44) 19 [j 0 (v 47)<|t [v 62]]],r<|t [z 47,t [t [v 62,u]],o]]
def Tg:List PS:=[.asg (.t<|.t [.n 62,.n 46])<|m (v 0) 18 [t [z 67,v 51,v 39,v 12],v 12],w (v 46) [x<|m (q (v 0) 44) 19 [t [z 68,m (v 0) 20 [v 39],t [z 57,t [u,G u],t [v 62,v 51],o]]],x<|m (q (v 0) 44) 19 [t [z 68,m (v 0) 20 [f 36 [v 39]],t [z 57,t [u],t [v 62],f 3 [v 12]]]]],r<|v 62]
def Q9:List PS:=[.par [.t<|.n 20,.t<|.n 63] [o,l true []],w (c 1 (b 0 [v 64])<|b 0 [s (v 23) o]) [h],.for (.t [.t [.n 1,.n 2],.n 65]) (.zip (s (v 23) o)<|v 64) [a 20<|f 35 [f 35 [v 65,v 1,G u],v 20,j 0 (j 1 (v 2)<|v 1) u],x<|m (v 63) 1 [l false [f 35 [v 1,v 65,G u],f 35 [v 65,v 2,G u]]]],w (d [c 0 (s (v 23) u)<|l false [],c 8 (.k<|.bool false)<|L [16] (m (v 0) 21 [z 60,v 16]) [M 16 (v 63) []]]) [x<|m (v 0) 25 [.k<|.bool false],r<|e (c 1 (s (v 23) u)<|l false []) (s (s (v 23) u) o) o],a 39<|m (v 0) 26 [v 63],w (y (v 20) 0) [h,h],a 65<|m (v 0) 20 [f 35 [v 20,u,u]],w (c 1 (v 39)<|.k<|.bool true) [a 65<|m (v 0) 27 [v 65,v 39,f 0 [u,b 0 [s (v 23) u]]]],r<|m (v 0) 28 [v 65,s (v 23) u]]
def SR:List PS:=[w (c 6 (q (v 0) 61)<|.k .none) [.for (.n 16) (.e<|v 63) [x<|m (v 0) 29 [z 60,v 16]],r<|.k<|.bool true],a 39<|m (v 0) 24 [L [16] (m (v 0) 30 [z 60,v 16]) [M 16 (v 63) []]],x<|m (v 0) 25 [v 39],r<|v 39]
def Sv:List PS:=[B (c 0 (L [16] (v 16) [M 16 (v 25) [J<|f 33 [v 16]]])<|l false []) [a 5<|b 1 [L [16] (b 10 [v 16]) [M 16 (v 25) []]],a 3<|m (v 0) 31 [t [z 69,v 65,v 5],f 2 [v 5]]] [a 49<|L [16] (m (v 0) 17 [v 16]) [M 16 (v 25) []],a 12<|f 0 [b 7 [L [1,2] (v 1) [.mk (.t [.n 1,.n 2]) (.e<|v 49) []]],b 8 [L [1,2] (v 2) [.mk (.t [.n 1,.n 2]) (.e<|v 49) []]]],a 3<|m (v 0) 31 [t [z 70,v 65,m (v 0) 32 [v 25]],v 12]],r<|e (c 0 (L [16] (v 16) [M 16 (v 25) [J<|f 32 [v 16]]])<|l false []) (t [z 46,s (s (s (v 3) u) o) o,.k<|.bool true])<|v 3]
def UC:List PS:=[w (n [f 32 [v 16],f 32 [v 21]]) [h],r<|m (v 0) 30 [z 57,f 35 [v 16,v 21,G u]]]
def UM:List PS:=[w (c 8 (v 31)<|t [z 71,z 72]) [r<|e (c 0 (v 31)<|z 71) (m (v 0) 33 [v 16,v 21])<|f 36 [m (v 0) 33 [v 16,v 21]]],w (c 8 (v 31)<|t [z 73,z 74]) [r<|f 36 [m (v 0) 34 [s (g 6)<|v 31,v 16,v 21]]],r<|m (v 0) 30 [z 60,f 35 [f 35 [v 16,v 21,G u],e (c 0 (v 31)<|z 75) u o,u]]]
def Uu:List PS:=[B (c 8 (v 31)<|t [z 71,z 72]) [h] [B (c 8 (v 31)<|t [z 73,z 74]) [x<|m (v 0) 35 [e (c 0 (v 31)<|z 73) (z 75)<|z 76,v 21,v 16]] [x<|m (v 0) 29 [z 60,f 35 [f 35 [v 16,v 21,G u],e (c 0 (v 31)<|z 75) u o,u]]]]]
def Ts:List PS:=[w (n [f 33 [v 23],J<|f 33 [f 20 [v 25]]]) [r<|m (v 0) 31 [t [z 77,m (v 0) 32 [v 25],b 10 [v 23]],f 0 [o,b 0 [v 25]]]],h,h,h]
def R9:List PS:=[x<|.sup 56,.asg (.at (v 0) 66) (.kj 0 [] []),.asg (.at (v 0) 67) (.kj 0 [] []),.asg (.at (v 0) 68) (.k<|.bool true)]
def T7:List PS:=[r<|e (c 6 (v 29)<|.k .none) (f 0 [G<|g 9,g 9])<|m (.new 1 [v 27]) 14 [v 29]]
def SJ:List PS:=[a 42<|l true [v 29],.Gk (c 4 (b 0 [v 42]) o) [a 43<|m (v 42) 2 [],w (y (v 43) 3) [a 28<|e (n [c 4 (b 0 [v 43])<|i 2,y (s (v 43) u) 0]) (s (v 43) o)<|z 13,w (n [c 8 (v 28)<|t [z 20,z 21],d [c 8 (s (v 43)<|i 2)<|q (v 0) 66,c 8 (s (v 43)<|i 2)<|g 10]]) [r<|.k<|.bool false],w (d [n [c 0 (v 28)<|z 17,c 8 (s (v 43)<|i 2)<|v 27,J<|f 33 [s (v 27)<|s (v 43)<|i 2]],n [c 0 (v 28)<|z 78,s (s (v 43)<|i 2) u]]) [r<|.k<|.bool false],w (d [c 1 (v 28)<|z 20,c 9 (s (v 43)<|i 2)<|g 11,c 1 (s (s (s (v 43)<|i 3) o) o)<|z 17]) [x<|m (v 42) 1 [v 43]]]],r<|.k<|.bool true]
def QG:List PS:=[a 29<|f 41 [v 29],a 3<|m (v 0) 36 [v 29,v 27,n [c 6 (q (v 0) 61)<|.k .none,J<|f 38 [v 29]]],w (c 7 (v 3)<|.k .none) [r<|v 3],.par [.t<|.n 28,.t<|.n 24] [s (v 29) o,s (v 29) u],w (c 0 (v 28)<|z 17) [r<|s (v 27)<|s (v 29)<|i 2],w (n [c 0 (v 28)<|z 18,c 8 (s (v 29)<|i 2)<|t [z 79,z 30,z 80,z 81,z 82,z 83,z 84]]) [r<|m (v 0) 37 [s (v 29)<|i 2,m (v 0) 13 [s (v 29)<|i 3,v 27],m (v 0) 13 [s (v 29)<|i 4,v 27]]],w (n [c 0 (v 28)<|z 19,c 1 (s (v 29)<|i 2)<|z 29]) [h],w (c 0 (v 28)<|z 22) [h],w (c 0 (v 28)<|z 25) [r<|f 20 [L [16] (m (v 0) 13 [v 16,v 27]) [M 16 (s (v 29)<|i 2) []]]],w (c 0 (v 28)<|z 26) [h,h],w (c 0 (v 28)<|z 85) [h],w (c 0 (v 28)<|z 23) [h],w (c 0 (v 28)<|z 24) [h],w (n [c 0 (v 28)<|z 20,c 0 (s (v 29)<|i 2)<|z 33]) [h],w (n [c 0 (v 28)<|z 20,c 0 (s (v 29)<|i 2)<|z 32]) [h],w (n [c 0 (v 28)<|z 20,c 8 (s (v 29)<|i 2)<|g 12]) [r<|m (v 0) 38 [s (v 29)<|i 2,L [16] (m (v 0) 13 [v 16,v 27]) [M 16 (s (v 29)<|i 3) []],v 24]],h,h]
def R4:List PS:=[w (J<|m (v 0) 39 [v 29,v 27]) [r<|.k .none],.try [r<|m (.new 1 [v 27]) 13 [v 29]]]
def SP:List PS:=[w (c 0 (v 31)<|z 84) [h],w (c 0 (v 31)<|z 83) [h],w (c 8 (v 31)<|t [z 79,z 30]) [r<|f 35 [v 16,v 21,e (c 0 (v 31)<|z 79) u<|G u]],h]
def TP:List PS:=[w (c 0 (L [16] (v 16) [M 16 (v 25) [J<|f 33 [v 16]]])<|l false []) [.try [h]],w (c 0 (v 11)<|z 47) [h,h,h],w (c 0 (v 11)<|z 86) [h,h,h],w (c 0 (v 11)<|z 87) [h,h,h,h],w (c 8 (v 11)<|t [z 10,z 9]) [h],w (c 0 (v 11)<|z 31) [h],w (c 0 (v 11)<|z 77) [h],w (c 8 (v 11)<|g 11) [h],w (c 0 (b 0 [v 25]) u) [h],r<|t [s (f 29 [v 11,j 0 (.sl (v 25) none<|some<|G u)<|l false [f 20 [j 2 (l false [o])<|b 0 [s (s (v 25)<|G u) u]]],v 24]) o,s (s (v 25)<|G u) u]]
def Sa:List PS:=[.par [.t<|.n 70,.at (v 0) 68] [q (v 0) 68,n [q (v 0) 68,J<|v 71]],.par [.t<|.n 3,.at (v 0) 68] [m (v 0) 40 [v 29,v 27],v 70],r<|v 3]
def Oy:List PS:=[a 29<|f 41 [v 29],.par [.t<|.n 28,.t<|.n 3] [s (v 29) o,m (v 0) 36 [v 29,v 27,.k<|.bool false]],w (c 7 (v 3)<|.k .none) [h],w (n [c 0 (v 28)<|z 18,c 8 (s (v 29)<|i 2)<|t [z 48,z 49,z 50,z 51,z 52,z 53]]) [a 16<|m (v 0) 41 [s (v 29)<|i 3,v 27,c 8 (s (v 29)<|i 2)<|t [z 50,z 52,z 53]],w (n [y (v 16) 1,c 0 (v 16)<|m (.kj 0 [z 48,z 49,z 50,z 51] [.k<|.bool false,.k<|.bool true,.k<|.bool false,.k<|.bool true]) 5 [s (v 29)<|i 2]]) [r<|c 1 (s (v 29)<|i 2)<|z 48],r<|m (v 0) 42 [s (v 29)<|i 2,v 16,m (v 0) 41 [s (v 29)<|i 4,v 27,c 8 (s (v 29)<|i 2)<|t [z 51,z 52,z 53]]]],w (c 0 (v 28)<|z 19) [h],.par [.t<|.n 72,.at (v 0) 61] [q (v 0) 61,l true []],.par [.t<|.n 3,.t<|.n 73] [m (v 0) 43 [v 29,v 27],q (v 0) 61],.asg (.at (v 0) 61) (v 72),r<|m (v 0) 24 [j 0 (l false [v 3])<|v 73]]
def UO:List PS:=[w (c 8 (v 31)<|t [z 52,z 53]) [a 3<|m (v 0) 44 [v 16,v 21],r<|e (c 0 (v 31)<|z 53) (v 3)<|f 36 [v 3]],w (c 0 (v 31)<|z 48) [h],r<|m (v 0) 45 [l false [e (c 0 (v 31)<|z 50) (f 36 [v 16])<|v 16,e (c 0 (v 31)<|z 51) (f 36 [v 21])<|v 21]]]
def T8:List PS:=[.par [.t<|.n 28,.t<|.n 24] [s (v 29) o,s (v 29) u],w (c 0 (v 28)<|z 21) [h,h],w (n [c 0 (v 28)<|z 18,c 0 (s (v 29)<|i 2)<|z 54]) [a 12<|f 39 [s (v 29)<|i 4,v 27],r<|e (c 6 (v 12)<|.k .none) (.k<|.bool false)<|m (v 0) 46 [m (v 0) 13 [s (v 29)<|i 3,v 27],v 12]],w (n [c 0 (v 28)<|z 18,c 8 (s (v 29)<|i 2)<|g 6]) [.par [.t<|.n 16,.t<|.n 21] [m (v 0) 13 [s (v 29)<|i 3,v 27],m (v 0) 13 [s (v 29)<|i 4,v 27]],w (n [f 33 [v 16],f 33 [v 21]]) [h],r<|m (v 0) 34 [s (v 29)<|i 2,v 16,v 21]],w (n [c 0 (v 28)<|z 20,c 8 (s (v 29)<|i 2)<|q (v 0) 66]) [h],w (n [c 0 (v 28)<|z 20,c 0 (s (v 29)<|i 2)<|z 33]) [h],w (c 0 (v 28)<|z 20) [r<|m (v 0) 47 [s (v 29)<|i 2,L [16] (m (v 0) 13 [v 16,v 27]) [M 16 (s (v 29)<|i 3) []],v 24]],h,h,h]
def Ub:List PS:=[a 3<|l true [],.for (.t [.n 1,.n 2]) (.e<|v 12) [x<|m (v 3) 0 [m (v 0) 24 [l false [m (v 0) 34 [z 74,v 23,v 1],m (v 0) 34 [z 76,v 23,v 2]]]]],r<|m (v 0) 45 [v 3]]
def Us:List PS:=[a 63<|L [16] (s (v 16) u) [M 16 (v 25) [f 15 [v 16]]],w (n [c 9 (v 11)<|g 10,c 0 (L [16] (v 16) [M 16 (v 25) [J<|f 33 [v 16]]])<|l false []]) [h],w (c 8 (v 11)<|t [z 55,z 56]) [h],w (c 8 (v 11)<|t [z 88,z 89]) [a 74<|L [75,16,21] (t [v 16,v 21]) [.mk (.t [.n 75,.n 16]) (.enum<|s (v 63) o) [],M 21 (.sl (s (v 63) o) none<|some<|v 75) []],r<|m (v 0) 24 [L [16,21] (m (v 0) 34 [z 72,v 16,v 21]) [.mk (.t [.n 16,.n 21]) (.e<|v 74) []]]],w (c 8 (v 11)<|t [z 90,z 91]) [h,h],w (c 8 (v 11)<|t [z 92,z 93,z 94]) [h,h],w (c 8 (v 11)<|t [z 95,z 96]) [h],w (c 0 (v 11)<|z 70) [r<|m (v 0) 33 [s (v 25)<|i 2,m (v 0) 48 [s (v 25) u,l false [s (v 25) o],v 24]]],w (c 0 (v 11)<|z 11) [h,h,h],w (c 8 (v 11)<|t [z 97,z 98,z 99,z 100]) [h,h],w (n [c 0 (v 11)<|z 101,c 0 (b 0 [s (v 63) u])<|b 0 [s (v 63)<|i 2]]) [r<|m (v 0) 24 [L [4,76] (m (v 0) 33 [m (v 0) 49 [s (v 63) o,v 4],v 76]) [.mk (.t [.n 4,.n 76]) (.zip (s (v 63) u)<|s (v 63)<|i 2) []]]],h]
def Rp:List PS:=[a 29<|f 41 [v 29],.par [.t<|.n 28,.t<|.n 70,.at (v 0) 68] [s (v 29) o,q (v 0) 68,n [q (v 0) 68,v 77]],B (c 0 (v 28)<|z 19) [.asg (.at (v 0) 68) (v 70),x<|m (v 0) 19 [s (v 29)<|i 3,v 27,J<|v 77]] [B (n [c 0 (v 28)<|z 18,c 8 (s (v 29)<|i 2)<|t [z 48,z 49,z 50,z 51]]) [x<|m (v 0) 50 [v 29,v 27,v 77]] [B (n [c 0 (v 28)<|z 18,c 8 (s (v 29)<|i 2)<|g 6,J<|m (v 0) 39 [v 29,v 27]]) [h] [B (n [c 0 (v 28)<|z 18,c 0 (s (v 29)<|i 2)<|z 54,v 77,J<|m (v 0) 39 [v 29,v 27]]) [x<|m (v 0) 51 [m (v 0) 13 [s (v 29)<|i 3,v 27],m (v 0) 14 [s (v 29)<|i 4,v 27]]] [B (n [c 0 (v 28)<|z 21,v 77,c 0 (s (v 29)<|i 2)<|z 55]) [h] [B (n [c 0 (v 28)<|z 21,v 77]) [h] [B (n [c 0 (v 28)<|z 20,c 8 (s (v 29)<|i 2)<|q (v 0) 66,v 77]) [h] [B (n [c 0 (v 28)<|z 20,v 77,J<|m (v 0) 39 [v 29,v 27]]) [x<|m (v 0) 52 [s (v 29)<|i 2,L [16] (m (v 0) 13 [v 16,v 27]) [M 16 (s (v 29)<|i 3) []],s (v 29) u]] [B (n [c 0 (v 28)<|z 24,v 77]) [h] [a 3<|m (v 0) 40 [v 29,v 27],x<|m (v 0) 23 [l false [e (v 77) (v 3)<|f 36 [v 3]]]]]]]]]]]],.asg (.at (v 0) 68) (v 70)]
def Ur:List PS:=[.par [.t<|.n 31,.t<|.n 78] [s (v 29)<|i 2,l false [t [s (v 29)<|i 3,c 1 (s (v 29)<|i 2)<|z 50],t [s (v 29)<|i 4,c 1 (s (v 29)<|i 2)<|z 51]]],w (c 0 (c 0 (v 31)<|z 48)<|v 77) [.for (.t [.n 79,.n 80]) (.e<|v 78) [x<|m (v 0) 19 [v 79,v 27,c 0 (v 80)<|v 77]],r<|.k .none],a 3<|l true [],.for (.t [.n 79,.n 80]) (.e<|v 78) [w (c 9 (.k<|.bool true)<|v 3) [a 39<|m (v 0) 41 [v 79,v 27,c 1 (v 80)<|v 77],x<|m (v 3) 0 [e (c 0 (v 80)<|v 77) (v 39)<|f 36 [v 39]]]],x<|m (v 0) 23 [v 3]]
def TV:List PS:=[w (c 0 (v 12)<|t []) [x<|m (v 0) 23 [l true []],r<|.k .none],x<|m (v 0) 35 [z 74,v 23,s (s (v 12) o) o],x<|m (v 0) 35 [z 76,v 23,s (s (v 12)<|G u) u],.for (.n 75) (.kW [u,b 0 [v 12]]) [.par [.t<|.n 81,.t<|.n 82] [m (v 0) 34 [z 76,v 23,s (s (v 12)<|j 1 (v 75) u) u],m (v 0) 34 [z 74,v 23,s (s (v 12)<|v 75) o]],x<|m (v 0) 23 [l false [v 81,v 82]]]]
def RQ:List PS:=[.par [.t<|.n 63,.t<|.n 13] [L [16] (s (v 16) u) [M 16 (v 25) [f 15 [v 16]]],.k .none],w (c 8 (v 11)<|t [z 55,z 56]) [h,h],B (c 8 (v 11)<|t [z 88,z 89]) [a 13<|t [z 88,m (v 0) 32 [s (v 63) o],m (v 0) 53 [s (v 63) o]]] [B (c 8 (v 11)<|t [z 90,z 91]) [h] [B (c 0 (v 11)<|z 102) [h] [B (c 0 (v 11)<|z 103) [h] [B (c 0 (v 11)<|z 11) [h] [B (c 0 (v 11)<|z 7) [h,h] [B (c 0 (v 11)<|z 8) [h] [B (c 0 (v 11)<|z 12) [h,h] [B (c 0 (v 11)<|z 104) [h] [B (c 0 (v 11)<|z 105) [h] [B (n [c 8 (v 11)<|t [z 97,z 98,z 99,z 100],c 0 (b 0 [s (v 63) o])<|b 0 [s (v 63) u]]) [h,h,h] [B (n [c 0 (v 11)<|z 101,f 33 [s (v 25)<|i 2]]) [a 83<|f 40 [s (v 63)<|i 2],a 13<|t [z 106,m (v 0) 32 [s (v 63) o],f 40 [s (v 63) u],v 83,v 83]] [w (c 0 (v 11)<|z 107) [h,h]]]]]]]]]]]]],w (c 6 (v 13)<|.k .none) [x<|m (v 0) 23 [l false [m (v 0) 47 [v 11,v 25,v 24]]],r<|.k .none],a 84<|f 14 [v 13,m (q (v 0) 44) 16 []],w (c 1 (v 84)<|z 13) [h],x<|m (q (v 0) 44) 19 [v 13]]
def UI:List PS:=[a 85<|s (v 86)<|z 108,.asg (.sub (v 86)<|z 108)<|j 0 (v 85) u,r<|j 3 (e (c 2 (v 85)<|b 0 [s (v 86)<|z 109]) (s (s (v 86)<|z 109)<|v 85)<|j 0 (j 0 (j 0 (j 2 (j 2 (i 4)<|v 85)<|v 85)<|j 2 (i 5)<|v 85)<|j 2 (i 3)<|b 0 [s (v 86)<|z 109])<|i 2)<|v 17]
def Sf:List PS:=[r<|e (c 5 (v 76) o) (t [z 14,o,v 76])<|t [z 19,o,z 30,t [z 14,o,j 1 o<|v 76]]]
def R6:List PS:=[a 87<|f 84 [v 86,i 5],r<|e (c 2 (v 87)<|i 2) (s (z 110)<|v 87)<|j 1 (v 87)<|i 3]
def SA:List PS:=[r<|e (y (v 15) 2) (t [z 17,o,v 15])<|f 85 [v 15]]
def Uk:List PS:=[r<|t [z 25,o,b 1 [L [15] (f 87 [v 15]) [M 15 (v 88) []]]]]
def K5:List PS:=[a 18<|f 84 [v 86,i 4],w (c 0 (v 18) o) [a 89<|s (t [t [o,u],t [u,o],t [i 2,o],t [u,i 2],t [G u,i 2],t [i 2,u]])<|f 84 [v 86,i 6],.par [.t<|.n 22,.t<|.n 90] [t [z 1,z 111,f 84 [v 86,i 3]],t [s (t [z 1,o,u,i 2])<|f 84 [v 86,i 4],s (t [z 1,o,u,i 2])<|f 84 [v 86,i 4]]],r<|t [t [z 20,o,z 101,t [f 88 [v 22],f 88 [v 89],f 88 [v 90]]],t [z 112,v 22,v 89,v 90]]],w (c 0 (v 18) u) [.par [.t<|.n 1,.t<|.n 91,.t<|.n 92] [j 1 (f 84 [v 86,i 3]) u,j 1 (f 84 [v 86,i 4]) u,c 0 (f 84 [v 86,i 2]) o],a 25<|e (v 92) (.kW 2 [v 1,j 0 (j 0 (v 1)<|v 91) u])<|.sl (l false [v 1,j 0 (v 1)<|i 2]) none<|some<|j 0 (v 91) u,a 20<|e (v 92) (t [z 27,o,f 85 [v 1],f 85 [j 0 (v 1)<|v 91]])<|t [z 28,o,b 1 [L [4] (f 85 [v 4]) [M 4 (v 25) []]]],w (c 0 (f 84 [v 86,i 2]) o) [r<|t [t [z 18,o,z 54,t [z 17,o,z 1],v 20],t [z 54,t [z 1],v 25]]],r<|t [t [z 18,o,z 54,t [z 18,o,z 79,t [z 17,o,z 1],t [z 17,o,z 111]],v 20],t [z 54,t [z 1,z 111],v 25]]],w (c 0 (v 18)<|i 2) [a 22<|t [f 86 [v 86],z 111,f 86 [v 86]],r<|t [t [z 20,o,z 89,t [f 88 [v 22]]],t [z 113,v 22]]],.par [.t<|.n 93,.t<|.n 20] [f 84 [v 86,i 4],s (t [z 1,z 111])<|f 84 [v 86,i 2]],.par [.t<|.n 22,.t<|.n 94] [t [f 86 [v 86],s (t [u,i 2])<|f 84 [v 86,i 2]],f 86 [v 86]],a 93<|s (t [o,G u,u,i 2])<|v 93,a 64<|t [z 27,o,f 85 [v 93],f 85 [j 0 (v 93) u]],a 95<|t [z 20,o,z 44,t [v 64,f 88 [v 22]]],r<|t [t [z 20,o,z 70,t [f 87 [v 20],v 95,f 87 [v 94]]],t [z 108,v 20,v 93,v 22,v 94]]]
def UN:List PS:=[r<|m (.kj 0 [z 1,z 111] [v 14,v 51]) 5 [v 15,v 15]]
def RJ:List PS:=[w (c 0 (s (v 13) o)<|z 54) [r<|c 8 (b 6 [L [15] (f 90 [v 15,v 14,v 51]) [M 15 (s (v 13) u) []]])<|s (v 13)<|i 2],w (c 0 (s (v 13) o)<|z 108) [a 20<|j 1 (f 90 [s (v 13) u,v 14,v 51])<|s (v 13)<|i 2,r<|n [c 8 (v 20)<|t [o,u],c 0 (f 90 [s (s (v 13)<|i 3)<|v 20,v 14,v 51])<|f 90 [s (v 13)<|i 4,v 14,v 51]]],a 22<|L [15] (f 90 [v 15,v 14,v 51]) [M 15 (s (v 13) u) []],w (c 0 (s (v 13) o)<|z 113) [r<|n [c 1 (s (v 22) o)<|s (v 22) u,c 1 (s (v 22) o)<|s (v 22)<|i 2,c 1 (s (v 22) u)<|s (v 22)<|i 2]],r<|c 0 (L [4] (m (v 22) 4 [v 4]) [M 4 (s (v 13)<|i 2) []])<|L [15] (f 90 [v 15,v 14,v 51]) [M 15 (s (v 13)<|i 3) []]]
def Ut:List PS:=[a 87<|f 84 [v 86,i 7],a 96<|e (c 0 (f 84 [v 86,i 2]) o) (t [z 18,o,z 71,t [z 17,o,z 111],t [z 17,o,z 1]])<|t [z 18,o,z 73,t [z 17,o,z 111],t [z 14,o,o]],.par [.t<|.n 97,.t<|.n 98] [t [z 18,o,z 51,v 29,v 96],t [z 18,o,z 51,v 96,v 29]],a 99<|t [v 29,t [z 19,o,z 29,v 29],t [z 18,o,z 52,v 97,v 96],t [z 18,o,z 53,v 98,v 96],t [z 18,o,z 49,v 98,v 96]],a 99<|j 0 (v 99)<|t [t [z 19,o,z 29,t [z 18,o,z 52,v 98,v 29]],t [z 18,o,z 48,v 97,t [z 18,o,z 49,v 29,v 96]]],r<|t [s (v 99)<|v 87,v 87,s (v 96)<|i 2]]
def PR:List PS:=[a 21<|e (c 0 (v 31)<|z 71) (c 0 (v 14)<|v 51)<|c 4 (v 51) o,.par [.t<|.n 97,.t<|.n 98] [d [v 16,J<|v 21],d [v 21,J<|v 16]],r<|s (t [v 16,J<|v 16,c 0 (v 97)<|v 21,c 1 (v 98)<|v 21,d [v 98,v 21],c 1 (v 98)<|v 16,n [v 97,d [v 16,v 21]]])<|v 87]
def TN:List PS:=[a 11<|s (v 13) o,w (c 8 (v 11)<|t [z 62,z 68]) [r<|j 0 (t [s (v 13) u])<|s (s (v 13)<|i 2)<|i 2],w (c 0 (.sl (v 11) none<|some<|i 7)<|z 114) [r<|s (v 13)<|i 2],a 25<|.kj 0 [z 66,z 77,z 70,z 69] [.sl (v 13) (some u)<|some<|i 3,t [s (v 13) u,t [s (v 13)<|G u]],t [.sl (v 13) (some u)<|some<|i 2,s (v 13)<|i 2,.sl (v 13) (some<|i 3) none],t [t [s (v 13) u],.sl (v 13) (some<|i 3) none]],x<|m (v 25) 6 [.kj 0 [z 53,z 106,z 88,z 65,z 63] [t [.sl (v 13) (some u) none],t [s (v 13) u],t [s (v 13) u],t [s (v 13) u,.sl (v 13) (some<|i 2) none],t [s (v 13) u,.sl (v 13) (some<|i 2) none]]],r<|b 1 [L [22,4] (v 4) [M 22 (s (v 25)<|v 11) [],M 4 (v 22) []]]]
def RE:List PS:=[.par [.t<|.n 11,.t<|.n 25] [s (v 13) o,L [4] (s (v 94)<|v 4) [M 4 (f 94 [v 13]) []]],w (c 0 (v 11)<|z 62) [r<|c 0 (c 0 (s (v 94)<|s (v 13) u) u)<|f 95 [s (v 13)<|i 2,v 94]],w (c 0 (v 11)<|z 68) [r<|d [c 0 (s (v 94)<|s (v 13) u) o,f 95 [s (v 13)<|i 2,v 94]]],w (c 0 (.sl (v 11) none<|some<|i 7)<|z 114) [a 100<|j 1 (b 6 [L [38,4] (j 2 (v 38)<|v 4) [.mk (.t [.n 38,.n 4]) (.zip (s (v 13) u)<|v 25) []]])<|s (v 13)<|i 3,r<|e (c 0 (v 11)<|z 60) (c 3 (v 100) o)<|c 0 (c 0 (v 100) o)<|c 0 (v 11)<|z 57],w (c 0 (v 11)<|z 66) [r<|c 1 (j 0 (L [4] (v 4) [M 4 (s (v 13) u) [c 0 (s (v 94)<|v 4) u]])<|L [4] (v 4) [M 4 (s (v 13)<|i 2) [c 0 (s (v 94)<|v 4) o]])<|l false []],w (c 0 (v 11)<|z 88) [r<|c 0 (L [4] (v 4) [M 4 (v 25) [c 4 (m (v 25) 4 [v 4]) u]])<|l false []],w (c 0 (v 11)<|z 106) [r<|c 0 (L [4] (m (v 25) 4 [v 4]) [M 4 (s (v 13)<|i 2) []])<|b 2 [s (v 13)<|i 3]],w (c 0 (v 11)<|z 53) [r<|c 0 (j 3 (b 6 [v 25])<|i 2) o],w (c 0 (.sl (v 11) none<|some<|i 7)<|z 70) [a 101<|e (c 0 (v 11)<|z 70) (.sl (v 25) (some u)<|some<|G u)<|s (v 13)<|i 2,r<|n [.cmp o [2,3] [s (v 25) o,b 0 [v 101]],c 0 (s (v 101)<|j 1 (s (v 25) o) u)<|s (v 25)<|G u]],a 102<|.kj 0 [z 65,z 63,z 77] [b 7 [.sl (v 25) none<|some<|G u],b 8 [.sl (v 25) none<|some<|G u],m (.sl (v 25) none<|some<|G u) 4 [s (v 13)<|i 2]],r<|c 0 (s (v 25)<|G u)<|s (v 102)<|v 11]
def Ti:List PS:=[a 62<|b 0 [v 94],w (c 0 (v 62)<|m (v 44) 16 []) [r u],a 3 o,.for (.t [.n 1,.n 2]) (.e<|m (v 44) 14 [v 62]) [.for (.n 4) (.kW [v 1,j 0 (v 2) u]) [a 96<|j 0 (v 94)<|l false [v 4],w (c 0 (L [13] (v 13) [M 13 (s (v 103)<|v 62) [J<|f 95 [v 13,v 96]]])<|l false []) [a 3<|j 0 (v 3)<|f 96 [v 44,v 103,v 96]]]],r<|v 3]
def Nu:List PS:=[.par [.t<|.n 86,.t<|.n 104] [.kj 0 [z 109,z 108] [L [106] (b 9 [v 106]) [M 106 (.sl (v 105) none<|some<|i 20) []],o],.new 2 []],.asg (.t<|.t [.n 29,.n 13])<|f 89 [v 86],.asg (.t<|.t [.n 107,.n 87,.n 31])<|f 92 [v 86,v 29],.par [.t<|.n 1,.t<|.n 108,.t<|.n 93] [j 1 (f 84 [v 86,i 3]) u,j 0 (i 2)<|f 84 [v 86,i 2],j 1 (f 84 [v 86,i 3]) u],a 44<|q (v 104) 44,.par [.t<|.n 14,.t<|.n 51] [m (v 44) 15 [z 1,t [t [v 1,j 1 (j 0 (v 1)<|v 108) u]]],m (v 44) 15 [z 111,t [t [v 93,j 0 (v 93) u]]]],a 27<|.kj 0 [z 1,z 111] [t [z 47,t [t [v 14,u]],o],t [z 47,t [t [v 51,u]],o]],x<|m (v 104) 19 [v 107,v 27,.k<|.bool true],a 103<|L [62] (L [16] (v 16) [M 16 (q (v 44) 8) [c 0 (b 8 [j 0 (f 94 [v 16])<|t [o]])<|v 62]]) [.mk (.n 62) (.kW [m (v 44) 16 []]) []],.for (.n 109) (.kW [v 1,j 0 (v 1)<|v 108]) [.for (.n 110) (.e<|t [v 93,j 0 (v 93) u]) [a 111<|c 0 (L [75,16] (v 16) [M 75 (t [o,u]) [],M 16 (s (v 103)<|v 75) [J<|f 95 [v 16,l false [v 109,v 110]]]])<|l false [],a 17<|e (v 111) (f 96 [v 44,v 103,l false [v 109,v 110]]) o,w (c 1 (v 17)<|b 10 [f 93 [v 87,v 31,f 91 [v 13,v 109,v 110],v 109,v 110]]) [h]]],r<|.k<|.bool true]
end
def fns:List Fn:=[⟨[1,2],b0,true⟩,⟨[3,1,2],b1,true⟩,⟨[5],b2,false⟩,⟨[6],b3,true⟩,⟨[6],b4,true⟩,⟨[0],b5,true⟩,⟨[0,11,12],b6,true⟩,⟨[0,13],b7,true⟩,⟨[0],b8,true⟩,⟨[0,14],b9,true⟩,⟨[15],SW,true⟩,⟨[15],TX,true⟩,⟨[15,17],SI,true⟩,⟨[18,15,17],TS,true⟩,⟨[13,17],OC,true⟩,⟨[23],Uw,true⟩,⟨[23],Uh,true⟩,⟨[23,24],RX,true⟩,⟨[23,24],Ud,true⟩,⟨[23,24],Up,true⟩,⟨[25],TY,true⟩,⟨[1,2],TH,true⟩,⟨[26],Ux,true⟩,⟨[0,27],RW,true⟩,⟨[0,29],TG,true⟩,⟨[0,30],Tj,true⟩,⟨[0,28,29,24],T6,true⟩,⟨[0,31,29,24],UB,true⟩,⟨[0,29],Se,true⟩,⟨[11,25,24],Ta,true⟩,⟨[11,25,24],SN,false⟩,⟨[23,18],UG,true⟩,⟨[23],Sd,true⟩,⟨[23],T9,true⟩,⟨[23],Sg,true⟩,⟨[16,21,37],T5,false⟩,⟨[39],SU,true⟩,⟨[5],Sx,true⟩,⟨[29],S9,false⟩,⟨[29,27],RZ,false⟩,⟨[25],Si,true⟩,⟨[29],Tw,true⟩,⟨[0],RL,true⟩,⟨[0,47,12],Ug,true⟩,⟨[0,23],Sb,true⟩,⟨[0,23],Pc,true⟩,⟨[0,25],UE,true⟩,⟨[0,25],UL,true⟩,⟨[0,18,23],QW,true⟩,⟨[0,18,23],Q4,true⟩,⟨[0,13],Rv,true⟩,⟨[0,57],PB,false⟩,⟨[0,57],Tx,true⟩,⟨[0,16,21],Sw,true⟩,⟨[0,57],PX,true⟩,⟨[0,18,23],Tv,true⟩,⟨[0],SX,true⟩,⟨[0,39],Sz,true⟩,⟨[0,47,12],RU,true⟩,⟨[0,51,39,12],Tg,true⟩,⟨[0,23,64,24],Q9,false⟩,⟨[0,63],SR,true⟩,⟨[0,65,25],Sv,true⟩,⟨[0,16,21],UC,true⟩,⟨[0,31,16,21],UM,true⟩,⟨[0,31,16,21],Uu,true⟩,⟨[0,25,23],Ts,true⟩,⟨[0],R9,true⟩,⟨[0,29,27],T7,false⟩,⟨[0,29,27],SJ,false⟩,⟨[0,29,27],QG,true⟩,⟨[0,29,27,69],R4,false⟩,⟨[0,31,16,21],SP,true⟩,⟨[0,11,25,24],TP,true⟩,⟨[0,29,27,71],Sa,true⟩,⟨[0,29,27],Oy,false⟩,⟨[0,31,16,21],UO,true⟩,⟨[0,29,27],T8,true⟩,⟨[0,23,12],Ub,false⟩,⟨[0,11,25,24],Us,false⟩,⟨[0,29,27,77],Rp,true⟩,⟨[0,29,27,77],Ur,false⟩,⟨[0,23,12],TV,false⟩,⟨[0,11,25,24],RQ,true⟩,⟨[86,17],UI,true⟩,⟨[76],Sf,true⟩,⟨[86],R6,true⟩,⟨[15],SA,true⟩,⟨[88],Uk,true⟩,⟨[86],K5,true⟩,⟨[15,14,51],UN,false⟩,⟨[13,14,51],RJ,true⟩,⟨[86,29],Ut,true⟩,⟨[87,31,16,14,51],PR,true⟩,⟨[13],TN,false⟩,⟨[13,94],RE,false⟩,⟨[44,103,94],Ti,true⟩,⟨[105],Nu,false⟩]
noncomputable def HB:List ((Nat×Nat)×Nat):=[((0,0),5),((0,14),9),((0,15),6),((0,16),8),((0,19),7),((1,0),23),((1,10),27),((1,11),25),((1,12),26),((1,13),24),((1,14),28),((2,0),67),((2,13),70),((2,14),68),((2,17),44),((2,18),43),((2,19),80),((2,20),45),((2,21),48),((2,22),50),((2,23),54),((2,24),51),((2,25),57),((2,26),61),((2,27),59),((2,28),62),((2,29),55),((2,30),49),((2,31),58),((2,32),46),((2,33),63),((2,34),64),((2,35),65),((2,36),71),((2,37),72),((2,38),73),((2,39),69),((2,40),75),((2,41),74),((2,42),76),((2,43),77),((2,44),53),((2,45),52),((2,46),78),((2,47),79),((2,48),60),((2,49),66),((2,50),81),((2,51),82),((2,52),83),((2,53),47),((3,0),42),((3,17),44),((3,18),43),((3,20),45),((3,21),48),((3,22),50),((3,23),54),((3,24),51),((3,29),55),((3,30),49),((3,32),46),((3,44),53),((3,45),52),((3,53),47),((4,0),56),((4,17),44),((4,18),43),((4,20),45),((4,21),48),((4,22),50),((4,23),54),((4,24),51),((4,25),57),((4,26),61),((4,27),59),((4,28),62),((4,29),55),((4,30),49),((4,31),58),((4,32),46),((4,33),63),((4,34),64),((4,35),65),((4,44),53),((4,45),52),((4,48),60),((4,49),66),((4,53),47)]
noncomputable def QP:List (Nat×D):=[(0,.tup [.str 59,.str 58]),(1,.gd 1),(2,.gd 2),(3,.int 100000),(4,.int 1000),(5,.tup [.str 55,.str 56,.str 134,.str 135,.str 47,.str 86,.str 10,.str 9]),(6,.gd 6),(7,.int 500),(8,.tup [.tup [.int 0,.int 1]]),(9,.int 1000),(10,.tup [.str 88,.str 89,.str 102,.str 90,.str 91,.str 103,.str 97,.str 98,.str 99,.str 100,.str 70,.str 11,.str 7,.str 8,.str 12,.str 104,.str 101,.str 107,.str 105,.str 92,.str 93,.str 94,.str 95,.str 96]),(11,.tup [.str 35,.str 41,.str 42,.str 43]),(12,.tup [.str 35,.str 41,.str 42,.str 43,.str 47,.str 86,.str 87,.str 10,.str 9,.str 31,.str 77,.str 44,.str 45])]
noncomputable def w0:List (Nat×List (D×D)):=[(1,[(.str 60,.str 115),(.str 57,.str 115),(.str 61,.str 115),(.str 112,.str 116),(.str 81,.str 116),(.str 82,.str 116),(.str 31,.str 117),(.str 9,.str 118),(.str 10,.str 118),(.str 70,.str 119),(.str 69,.str 120),(.str 11,.str 121),(.str 88,.str 122),(.str 77,.str 123),(.str 105,.str 118),(.str 106,.str 124),(.str 7,.str 125),(.str 8,.str 126),(.str 102,.str 2),(.str 103,.str 127),(.str 12,.str 128),(.str 129,.str 127),(.str 130,.str 127),(.str 90,.str 2),(.str 131,.str 132),(.str 66,.str 127),(.str 65,.str 118),(.str 63,.str 118),(.str 53,.str 116),(.str 62,.str 133),(.str 68,.str 133)]),(2,[(.str 60,.tup [.tup [.int 1,.int 2]]),(.str 57,.tup [.tup [.int 1,.int 2]]),(.str 61,.tup [.tup [.int 1,.int 2]]),(.str 106,.tup [.tup [.int 2,.int 3],.tup [.int 2,.int 4]]),(.str 7,.tup [.tup [.int 1,.int 2],.tup [.int 1,.int 3]]),(.str 8,.tup [.tup [.int 1,.int 2]]),(.str 103,.tup [.tup [.int 1,.int 2]])]),(6,[(.str 75,.str 74),(.str 76,.str 73),(.str 73,.str 76),(.str 74,.str 75),(.str 71,.str 72),(.str 72,.str 71)])]
noncomputable def Mj:List (Nat×List Nat):=[(1,[1]),(2,[2]),(3,[3]),(4,[4]),(5,[5]),(6,[6]),(13,[]),(110,[1,111]),(115,[4,2,3]),(116,[1,1,1]),(117,[1,1]),(118,[2,1]),(119,[1,2,1]),(120,[1,4,1]),(121,[2,5]),(122,[2,6]),(123,[2,3,1]),(124,[2,4,4,4]),(125,[2,4,4,3]),(126,[2,4]),(127,[2,2]),(128,[2,3,3,5,3,4]),(132,[3,3,2]),(133,[1,136])]
noncomputable def z9:List (Nat×Nat):=[(0,0),(1,1),(2,2),(3,3),(4,4),(5,5),(6,6),(7,137),(8,138),(9,9),(10,10),(11,11),(12,12),(13,13),(14,14),(15,15),(16,16),(17,17),(18,18),(19,19),(20,20),(21,21),(22,22),(23,23),(24,24),(25,25),(26,26),(27,27),(28,28),(29,29),(30,30),(31,31),(32,139),(33,33),(34,34),(35,35),(36,36),(37,37),(38,140),(39,39),(40,40),(41,141),(42,141),(43,141),(44,44),(45,45),(46,46),(47,47),(48,48),(49,49),(50,50),(51,51),(52,52),(53,53),(54,54),(55,55),(56,56),(57,114),(58,58),(59,59),(60,114),(61,114),(62,62),(63,63),(64,64),(65,65),(66,66),(67,67),(68,68),(69,70),(70,70),(71,71),(72,72),(73,73),(74,74),(75,75),(76,76),(77,77),(78,78),(79,79),(80,80),(81,81),(82,82),(83,83),(84,84),(85,85),(86,86),(87,87),(88,142),(89,143),(90,144),(91,145),(92,146),(93,93),(94,94),(95,95),(96,96),(97,147),(98,147),(99,148),(100,148),(101,149),(102,102),(103,103),(104,150),(105,105),(106,151),(107,149),(108,108),(109,109),(110,110),(111,111),(112,112),(113,113),(114,114),(115,115),(116,116),(117,117),(118,118),(119,119),(120,120),(121,121),(122,122),(123,123),(124,124),(125,125),(126,126),(127,127),(128,128),(129,129),(130,130),(131,131),(132,132),(133,133),(134,134),(135,135)]
noncomputable def Vd{L:Type}:List (Nat×L)->Nat->Option L
 |[],_=>none
 |(y,v)::r,x=>if y==x then some v else Vd r x
noncomputable def gG:List ((Nat×Nat)×Nat)->Nat->Nat->Option Nat
 |[],_,_=>none
 |((a,b),v)::r,x,y=>if a==x&&b==y then some v else gG r x y
def tab:Va where
 fn:=λf=>fns[f]?
 mt:=gG HB
 gt:=Vd QP
 yN:=Vd w0
 chars:=Vd Mj
 my:=Vd z9
noncomputable def Vr:List String:=["self","low","high","found","v","numbers","d","vars","tolds","goal","shown","name","domain","told","x","thing","one","many","kind","form","place","other","row","value","spot","some","number","scope","op","node","nodes","sign","sets","values","ranges","parts","constant","factor","a","truth","rest","signs","stack","here","flat","made","is_new","key","total","ends","coefs","y","common","c","turned","b","kept","truths","bits","ups","downs","partial","z","rows","indexes","index","predicates","globe","is_free","is_strict","was","is_either","outer","noted","pairs","k","n","wanted","sides","side","is_wanted","below","above","lows","fault","at","wheel","way","things","pair","times","more","is_range","begin","worth","array","late","left","right","wholes","gap","cells","due","ready","maker","script","cell","whole","wide","p","q","is_kept"]
noncomputable def kN:List Nat:=[7,8,9,10,27,44,45,61,66,67,68]
noncomputable def Ib:List String:=["STRENGTHS","FORMS","PAIRS","MOST_VALUES","MOST_SHOWN","FOLDING","TURNED","WIDE","TRUTHS","FAR","CONSTRAINTS","SIZES","NUMBERS"]
noncomputable def HI:List String:=["Flat","Evaluator","Flattener","Gatherer","Functions"]
noncomputable def HF:List String:=["__init__","?","?","?","?","?","?","?","?","?","of_one","values_of","built","value_of","domain_of","new_var","size","bounds","once","post","var_of","row","told_truth","require_some","all_of","note","within","stand_in","chosen_of","require_row","row_truth","made_number","vars_of","equal","compared","require_compared","settled","joined","number_call","is_settled","truth","side","connected","plain_truth","unlike","any_of","is_in","call_truth","element","many_of","post_sides","post_in","post_call","strength_of"]
noncomputable def lB:List (String×String):=[("","range_of"),("","put_behind"),("","from_values"),("","least"),("","greatest"),("Flat","__init__"),("Flat","new_var"),("Flat","post"),("Flat","size"),("Flat","domain_of"),("","is_number"),("","is_row_of_numbers"),("","is_var"),("","fits"),("","told_fault"),("","is_array"),("","is_set"),("","number_of"),("","set_of"),("","list_of"),("","row_of"),("","span"),("","within_figures"),("Evaluator","__init__"),("Evaluator","value_of"),("Evaluator","values_of"),("Evaluator","built"),("Evaluator","of_one"),("Evaluator","domain_of"),("","called"),("","indexed"),("","is_made"),("","is_truth"),("","is_known"),("","sum_of"),("","plus"),("","contrary"),("","common_of"),("","has_formula"),("","domain_told"),("","numbers_of"),("","call_of"),("Gatherer","__init__"),("Gatherer","once"),("Gatherer","bounds"),("Gatherer","var_of"),("Gatherer","vars_of"),("Gatherer","strength_of"),("Gatherer","row"),("Gatherer","row_truth"),("Gatherer","told_truth"),("Gatherer","all_of"),("Gatherer","any_of"),("Gatherer","unlike"),("Gatherer","require_some"),("Gatherer","require_row"),("Functions","__init__"),("Functions","note"),("Functions","made_number"),("Functions","stand_in"),("Functions","element"),("Functions","within"),("Functions","chosen_of"),("Functions","equal"),("Functions","compared"),("Functions","require_compared"),("Functions","many_of"),("Flattener","__init__"),("Flattener","domain_of"),("Flattener","is_settled"),("Flattener","value_of"),("Flattener","settled"),("Flattener","joined"),("Flattener","number_call"),("Flattener","side"),("Flattener","truth"),("Flattener","connected"),("Flattener","plain_truth"),("Flattener","is_in"),("Flattener","call_truth"),("Flattener","post"),("Flattener","post_sides"),("Flattener","post_in"),("Flattener","post_call"),("","_law_turn"),("","_law_number"),("","_law_thing"),("","_law_node"),("","_law_row"),("","_law_drawn"),("","_law_worth"),("","_law_meant"),("","_law_within"),("","_law_is_due"),("","_law_vars"),("","_law_is_true"),("","_law_ways"),("","law")]
noncomputable def wz:List String:=["satisfy","x","X","n","N","R","s","cumulative","disjunctive","max","min","table","regular","","int","bool","str","name","bin","un","call","gen","index","if","let","array","array2","range","set","not","-","abs","bool2int","fix","card","length","show","concat","set2array","reverse","sort","index_set","index_set_1of2","index_set_2of2","array1d","array2d","bit","sum","/\\","\\/","->","<-","<->","xor","in","forall","exists","linear_eq","values","bounds","linear_le","linear_ne","reif","or","all","and","clause","stand","imp","element_of","element","=","!=",">",">=","<","<=","count","decl","+","*","div","mod","^","++","comp","product","pow","all_different","alldifferent","increasing","decreasing","at_least","at_most","exactly","maximum","minimum","lex_less","lex_lesseq","lex_greater","lex_greatereq","global_cardinality","circuit","inverse","value_precede","nvalue","cardinality","global_cardinality_low_up","at","some","xy","y","times","unlike","linear_","NXn","xxx","xx","Xx","xXx","xNx","XR","Xs","Xnx","XNNN","XNNn","XN","XX","XnnRnN","lex_le","lex_lt","precede","nnX","xt","xorall","iffall","t","cumulat","disjunc","bool2in","set2arr","index_s","all_dif","alldiff","increas","decreas","at_leas","lex_les","lex_gre","global_","value_p","cardina"]
section
open PySem PyProof.Rows PySem.SeqAt PySem.W PySem.Calls
noncomputable def uC(x:Str):Value->Bool
 |.str y _=>y==x
 |_=>false
noncomputable def VC:Nat->afr
 |0=> .Add|1=> .Sub|2=> .Mult|3=> .Mod|4=> .FloorDiv|_=> .Pow
noncomputable def vT:Nat->aeN
 |0=> .Eq|1=> .NotEq|2=> .Lt|3=> .LtE|4=> .Gt|5=> .GtE|6=> .Is|7=> .IsNot|8=> .In|_=> .NotIn
noncomputable def eI:Nat->String
 |0=>"int"|1=>"bool"|2=>"str"|3=>"tuple"|_=>"list"
noncomputable def Bx:Nat->Str
 |0=>"append"|1=>"extend"|2=>"pop"|3=>"sort"|4=>"count"|5=>"get"|_=>"update"
noncomputable def s9(K:Frag)(C:Addr):Bool:=
 hasDictIn K C&&ad1 K (.ref C) "__getattribute__"==some (some<|.builtin "object.__getattribute__")&&ad1 K (.ref C) "__getattr__"==some none&&
 ad1 K (.ref C) "__setattr__"==some (some<|.builtin "object.__setattr__")&&plainOver K C&&makesIn K C
structure Nm where
 nm:Nat->Str
 gn:Nat->Str
 fn:Nat->Str
 cn:Nat->Str
 an:Nat->Str
 st:Nat->Str
 fld:List Nat
 ig:Nat->Bool
noncomputable def LZ(x:aeq):Option {Q:Unit // x=.none}:=match x with|.none=>some ⟨(),rfl⟩|_=>none
noncomputable def MA(x:aeq):Option {b:Bool // x=.bool b}:=match x with|.bool b=>some ⟨b,rfl⟩|_=>none
noncomputable def O2(x:aeq):Option {b:Int // x=.int b}:=match x with|.int b=>some ⟨b,rfl⟩|_=>none
noncomputable def B6(x:aeq):Option {b:Str // x=.str b}:=match x with|.str b=>some ⟨b,rfl⟩|_=>none
noncomputable def vw{L:Type}(o:Option L)(f:L->Bool):Bool:=match o with
 |some a=>f a
 |none=>false
def cK(c:Nm)(d:D)(x:aeq):Bool:=match d with
 |.none=>vw (LZ x) λ_=>true
 |.bool a=>vw (MA x) λb=>a==b.1
 |.int a=>vw (O2 x) λb=>a==b.1
 |.str i=>vw (B6 x) λb=>b.1==c.st i
 |_=>false
noncomputable def VN(k:Option NameKind):Bool:=match k with
 |some .local=>true|some .cell=>true|some .free=>true|_=>false
noncomputable def Qu(x:adz):Option {a:Str×Pos // x=.Name a.1 a.2}:=if h:x.ctorIdx=23 then some (Expr.Name.elim (motive_1:=λx=>{a:Str×Pos // x=.Name a.1 a.2}) x h λa p=>⟨(a,p),rfl⟩) else none
def p9(x:adz)(s:Str):Bool:=vw (Qu x) λa=>Y5 a.1.1 s
def lq(k:List (Str×NameKind))(s:Str):Option NameKind:=@List.rec (Str×NameKind) (λ_=>Option NameKind) none (λp _ i=>match Y5 s p.1 with|true=>some p.2|false=>i) k
def Oh:List Str->Bool
 |[]=>true
 |a::l=> !l.any (Y5 a)&&Oh l
def aM(k:List (Str×NameKind))(x:adz)(s:Str):Bool:=p9 x s&&lq k s==some .globalImplicit&& !(s==("__debug__":Str))
noncomputable def BO(x:adz):Bool:= !Nat.beq x.ctorIdx 7
noncomputable def Nx:Nat->Str
 |0=>"len"|1=>"tuple"|2=>"list"|3=>"dict"|4=>"sorted"|5=>"sorted"|6=>"sum"|7=>"min"|8=>"max"|9=>"abs"|10=>"int"|14=>"all"|_=>""
noncomputable def By:Nat->Bool
 |0=>true|1=>true|2=>true|3=>true|4=>true|6=>true|7=>true|8=>true|9=>true|10=>true|14=>true|_=>false
def KX(c:Nm)(m:Nat):Str:=match W2 7 m with|true=>c.an m|false=>Bx m
noncomputable def ef(x:adz):Option {a:adz×List adz×Pos // x=.Call a.1 a.2.1 [] a.2.2}:=if h:x.ctorIdx=16 then Expr.Call.elim (motive_1:=λx=>Option {a:adz×List adz×Pos // x=.Call a.1 a.2.1 [] a.2.2}) x h λg a k p=>match k with|[]=>some ⟨(g,a,p),rfl⟩|_::_=>none else none
def i0(x:adz):Bool:= !vw (ef x) λa=>a.1.2.1.isEmpty&&p9 a.1.1 "super"
noncomputable def i9(x:adz):Bool:= !Nat.beq x.ctorIdx 26
noncomputable def U0(x:adz):Bool:= !Nat.beq x.ctorIdx 22
def jZ:List Nat->List aeN->Bool
 |[],[]=>true
 |o::os,p::ps=>W2 o 9&&vT o==p&&jZ os ps
 |_,_=>false
abbrev Ks:=List<|Str×NameKind
noncomputable def LD(a b:afr):Bool:=decide<|a=b
noncomputable def xK(x:adz):Option {a:aeq // ∃k p,x=.Constant a k p}:=if h:x.ctorIdx=19 then some (Expr.Constant.elim x h λa _ _=>⟨a,_,_,rfl⟩) else none
noncomputable def Pg(x:adz):Option {a:adz×afr×adz // ∃p,x=.BinOp a.1 a.2.1 a.2.2 p}:=if h:x.ctorIdx=2 then some (Expr.BinOp.elim x h λa o b _=>⟨(a,o,b),_,rfl⟩) else none
noncomputable def Oc(x:adz):Option {a:afs×adz // ∃p,x=.UnaryOp a.1 a.2 p}:=if h:x.ctorIdx=3 then some (Expr.UnaryOp.elim x h λo a _=>⟨(o,a),_,rfl⟩) else none
noncomputable def Sj(x:adz):Option {a:ae1×List adz // ∃p,x=.BoolOp a.1 a.2 p}:=if h:x.ctorIdx=0 then some (Expr.BoolOp.elim x h λo a _=>⟨(o,a),_,rfl⟩) else none
noncomputable def Py(x:adz):Option {a:adz×List aeN×List adz // ∃p,x=.Compare a.1 a.2.1 a.2.2 p}:=if h:x.ctorIdx=15 then some (Expr.Compare.elim x h λa o b _=>⟨(a,o,b),_,rfl⟩) else none
noncomputable def Tn(x:adz):Option {a:adz×adz×adz // ∃p,x=.IfExp a.1 a.2.1 a.2.2 p}:=if h:x.ctorIdx=5 then some (Expr.IfExp.elim x h λa b d _=>⟨(a,b,d),_,rfl⟩) else none
noncomputable def Ey(x:adz):Option {a:List adz // ∃k p,x=.Tuple a k p}:=if h:x.ctorIdx=25 then some (Expr.Tuple.elim x h λa _ _=>⟨a,_,_,rfl⟩) else none
noncomputable def Ss(x:adz):Option {a:List adz // ∃p,x=.List a p}:=if h:x.ctorIdx=24 then some (Expr.List.elim x h λa _=>⟨a,_,rfl⟩) else none
noncomputable def Pf(x:adz):Option {a:List (Option adz)×List adz // ∃p,x=.Dict a.1 a.2 p}:=if h:x.ctorIdx=6 then some (Expr.Dict.elim x h λa b _=>⟨(a,b),_,rfl⟩) else none
noncomputable def RY(x:adz):Option {a:adz×List ad2×aeO // ∃p,x=.ListComp a.1 a.2.1 a.2.2 p}:=if h:x.ctorIdx=8 then some (Expr.ListComp.elim x h λa b d _=>⟨(a,b,d),_,rfl⟩) else none
noncomputable def HO(x:adz):Option {a:adz×adz // ∃p,x=.Subscript a.1 a.2 p}:=if h:x.ctorIdx=21 then some (Expr.Subscript.elim x h λa b _=>⟨(a,b),_,rfl⟩) else none
noncomputable def Ot(x:adz):Option {a:adz×Str×Pos // x=.Attribute a.1 a.2.1 a.2.2}:=if h:x.ctorIdx=20 then some (Expr.Attribute.elim x h λa s p=>⟨(a,s,p),rfl⟩) else none
noncomputable def Su(x:adz):Option {a:List adz // ∃p,x=.JoinedStr a p}:=if h:x.ctorIdx=18 then some (Expr.JoinedStr.elim x h λa _=>⟨a,_,rfl⟩) else none
noncomputable def IF(x:adz):Option {a:Option adz×Option adz // ∃p,x=.Slice a.1 a.2 none p}:=if h:x.ctorIdx=26 then Expr.Slice.elim x h λa b c _=>match c with|none=>some ⟨(a,b),_,rfl⟩|some _=>none else none
noncomputable def Ro(x:adz):Option {a:adz×Int // ∃p,x=.FormattedValue a.1 a.2 none p}:=if h:x.ctorIdx=17 then Expr.FormattedValue.elim x h λa v c _=>match c with|none=>some ⟨(a,v),_,rfl⟩|some _=>none else none
noncomputable def Di{L:Type}(l:List L):Option {a:L // l=[a]}:=match l with|[a]=>some ⟨a,rfl⟩|_=>none
noncomputable def Ee{L:Type}(l:List L):Option {a:L×L // l=[a.1,a.2]}:=match l with|[a,b]=>some ⟨(a,b),rfl⟩|_=>none
mutual
def cT(c:Nm)(k:Ks):PT->adz->Bool
 |.n x,y=>vw (Qu y) λa=>Y5 a.1.1 (c.nm x)&&(lq k (c.nm x)==some .local||lq k (c.nm x)==some .cell)
 |.t ts,y=>vw (Ey y) λa=>FT c k ts a.1
def FT(c:Nm)(k:Ks):List PT->List adz->Bool
 |[],[]=>true
 |t::ts,x::xs=>cT c k t x&&FT c k ts xs
 |_,_=>false
end
noncomputable def jF:PI->PT->Bool
 |.zip _ _,.n _=>false
 |.enum _,.n _=>false
 |_,_=>true
mutual
noncomputable def PT.EB:PT->List Nat
 |.n x=>[x]
 |.t ts=>Fs ts
noncomputable def Fs:List PT->List Nat
 |[]=>[]
 |t::ts=>t.EB++Fs ts
end
def Gu:PG->List Nat
 |.mk t _ _=>t.EB
noncomputable def qQ:ae1->Bool
 |.And=>true
 |.Or=>false
def md(c:Nm)(k:Ks)(xs:List Nat)(sc:aeO):Bool:=
 sc.kind==.function&&Oh (sc.names.map (·.1))&&sc.names.all λp=>match p.2 with
  |.local=>Y5 p.1 (".0":Str)||xs.any λx=>Y5 (c.nm x) p.1
  |.cell=>xs.any λx=>Y5 (c.nm x) p.1
  |.free=>lq k p.1==some .cell||lq k p.1==some .free
  |.globalImplicit=>true
  |_=>false
noncomputable def Ph(k:PE):Option {i:Nat // k=.k (.str i)}:=match k with|.k (.str i)=>some ⟨i,rfl⟩|_=>none
def SV(c:Nm)(i:Nat)(x:Option adz):Bool:=vw x λx=>vw (xK x) λa=>vw (B6 a.1) λs=>s.1==c.st i
def Hb(c:Nm):List PE->List (Option adz)->Bool
 |[],xs=>xs.isEmpty
 |k::l,xs=>match xs with
  |[]=>false
  |x::xs=>vw (Ph k) λi=>SV c i.1 x&&Hb c l xs
noncomputable def Gz(o:afs):Bool:=decide<|o=.Not
noncomputable def V3(o:afs):Bool:=decide<|o=.USub
def SD(c:Nm)(k:Ks)(g:adz)(xs:List adz)(f:List adz->Bool):Bool:=aM k g "sorted"&&vw (Di xs) λy=>vw (ef y.1) λa=>aM k a.1.1 "set"&&f a.1.2.1
mutual
def cE(c:Nm)(k:Ks):PE->adz->Bool
 |.hole,_=>true
 |.k d,x=>vw (xK x) λa=>cK c d a.1
 |.v n,x=>p9 x (c.nm n)&&VN (lq k (c.nm n))
 |.g n,x=>aM k x (c.gn n)
 |.bin o l r,x=>vw (Pg x) λa=>W2 o 5&&LD (VC o) a.1.2.1&&cE c k l a.1.1&&cE c k r a.1.2.2
 |.neg e,x=>vw (Oc x) λa=>V3 a.1.1&&cE c k e a.1.2
 |.not e,x=>vw (Oc x) λa=>Gz a.1.1&&cE c k e a.1.2
 |.bo a es,x=>vw (Sj x) λb=>a==qQ b.1.1&&eQ c k es b.1.2
 |.cmp l u L,x=>vw (Py x) λa=>cE c k l a.1.1&&jZ u a.1.2.1&&eQ c k L a.1.2.2&& !lastMarks a.1.2.1 a.1.2.2&&u.length==L.length
 |.DG q t f,x=>vw (Tn x) λa=>cE c k q a.1.1&&cE c k t a.1.2.1&&cE c k f a.1.2.2
 |.tup es,x=>vw (Ey x) λa=>eQ c k es a.1
 |.ls _ es,x=>vw (Ss x) λa=>eQ c k es a.1
 |.kj n p vs,x=>vw (Pf x) λa=>match a.1.1.isEmpty with
  |true=>a.1.2.isEmpty&&p.isEmpty&&vs.isEmpty&&W2 n 2
  |false=>WV n 0&&Hb c p a.1.1&&eQ c k vs a.1.2&&WV a.1.2.length a.1.1.length&&W2 a.1.1.length 15
 |.lc xs E G,x=>vw (RY x) λa=>md c k xs a.1.2.2&&decide ((G.flatMap Gu).Nodup)&&W2 G.length 8&& !G.isEmpty&&cG c k a.1.2.2.names G a.1.2.1&&cE c a.1.2.2.names E a.1.1
 |.sub e i,x=>vw (HO x) λa=>i9 a.1.2&&cE c k e a.1.1&&cE c k i a.1.2
 |.sl e lo h,x=>vw (HO x) λa=>vw (IF a.1.2) λs=>cE c k e a.1.1&&cO c k lo s.1.1&&cO c k h s.1.2
 |.at e f,x=>vw (Ot x) λa=>Y5 a.1.2.1 (c.nm f)&&c.fld.contains f&&i0 a.1.1&&cE c k e a.1.1
 |.call f es,x=>vw (ef x) λa=>c.ig f&&aM k a.1.1 (c.fn f)&&eQ c k es a.1.2.1
 |.bi b es,x=>vw (ef x) λa=>match WV b 5 with
   |true=>SD c k a.1.1 a.1.2.1 λys=>eQ c k es ys
   |false=>By b&&aM k a.1.1 (Nx b)&&eQ c k es a.1.2.1
 |.kW b es,x=>vw (ef x) λa=>vw (Di a.1.2.1) λy=>vw (ef y.1) λr=>(match b with|1=>aM k a.1.1 "tuple"|2=>aM k a.1.1 "list"|_=>false)&&aM k r.1.1 "range"&&eQ c k es r.1.2.1
 |.Hv e n,x=>vw (ef x) λa=>vw (Ee a.1.2.1) λr=>aM k a.1.1 "isinstance"&&W2 n 4&&aM k r.1.2 (eI n)&&U0 r.1.1&&cE c k e r.1.1
 |.new n es,x=>vw (ef x) λa=>aM k a.1.1 (c.cn n)&&eQ c k es a.1.2.1
 |.me e m es,x=>vw (ef x) λa=>vw (Ot a.1.1) λb=>Y5 b.1.2.1 (KX c m)&&i0 b.1.1&&cE c k e b.1.1&&eQ c k es a.1.2.1&&b.1.2.2.endLine==a.1.2.2.line&&aad a.1.2.1.length 30
 |.sup _,_=>false
 |.fs e,x=>vw (Su x) λa=>vw (Ee a.1) λl=>vw (xK l.1.1) λd=>vw (B6 d.1) λt=>vw (Ro l.1.2) λb=>t.1==("#":Str)&&b.1.2== -1&&cE c k e b.1.1
def eQ(c:Nm)(k:Ks):List PE->List adz->Bool
 |[],[]=>true
 |e::es,x::xs=>U0 x&&cE c k e x&&eQ c k es xs
 |_,_=>false
def cO(c:Nm)(k:Ks):Option PE->Option adz->Bool
 |none,none=>true
 |some e,some x=>cE c k e x
 |_,_=>false
def cI(c:Nm)(k:Ks):PI->adz->Bool
 |.e e,x=>BO x&&cE c k e x
 |.kW es,x=>vw (ef x) λa=>aM k a.1.1 "range"&&eQ c k es a.1.2.1
 |.zip a b,x=>vw (ef x) λy=>vw (Ee y.1.2.1) λr=>aM k y.1.1 "zip"&&U0 r.1.1&&U0 r.1.2&&cE c k a r.1.1&&cE c k b r.1.2
 |.enum a,x=>vw (ef x) λy=>vw (Di y.1.2.1) λr=>aM k y.1.1 "enumerate"&&U0 r.1&&cE c k a r.1
def cG(c:Nm)(z k:Ks):List PG->List ad2->Bool
 |[],[]=>true
 |.mk t i I::gs,⟨T,A,b,a⟩::g=>a==0&&cT c k t T&&cI c z i A&&jF i t&&eQ c k I b&&cG c k k gs g
 |_,_=>false
end
def cL(c:Nm)(k:Ks):PL->adz->Bool
 |.t t,x=>cT c k t x
 |.at e f,x=>vw (Ot x) λa=>Y5 a.1.2.1 (c.nm f)&&c.fld.contains f&&cE c k e a.1.1
 |.sub e i,x=>vw (HO x) λa=>i9 a.1.2&&cE c k e a.1.1&&cE c k i a.1.2
def FG(c:Nm)(k:Ks):List PL->List adz->Bool
 |[],[]=>true
 |t::ts,x::xs=>cL c k t x&&FG c k ts xs
 |_,_=>false
noncomputable def isDisplay(x:adz):Bool:=WV x.ctorIdx 25
noncomputable def pE(x:adz):Bool:=WV x.ctorIdx 25||WV x.ctorIdx 24
noncomputable def lr(x:adz):Bool:=WV x.ctorIdx 8||WV x.ctorIdx 9||WV x.ctorIdx 10
noncomputable def KG(x:Stmt):Option {a:adz×adz // ∃p,x=.Assign [a.1] a.2 p}:=if h:x.ctorIdx=5 then Stmt.Assign.elim (motive_2:=λx=>Option {a:adz×adz // ∃p,x=.Assign [a.1] a.2 p}) x h λl v _=>match l with|[y]=>some ⟨(y,v),_,rfl⟩|_=>none else none
noncomputable def Rb(x:Stmt):Option {a:adz // ∃p,x=.Expr a p}:=if h:x.ctorIdx=24 then some (Stmt.Expr.elim (motive_2:=λx=>{a:adz // ∃p,x=.Expr a p}) x h λv _=>⟨v,_,rfl⟩) else none
noncomputable def Ul(x:Stmt):Option {a:adz×List Stmt×List Stmt // ∃p,x=.If a.1 a.2.1 a.2.2 p}:=if h:x.ctorIdx=12 then some (Stmt.If.elim (motive_2:=λx=>{a:adz×List Stmt×List Stmt // ∃p,x=.If a.1 a.2.1 a.2.2 p}) x h λa b d _=>⟨(a,b,d),_,rfl⟩) else none
noncomputable def PJ(x:Stmt):Option {a:adz×adz×List Stmt // ∃p,x=.For a.1 a.2.1 a.2.2 [] p}:=if h:x.ctorIdx=9 then Stmt.For.elim (motive_2:=λx=>Option {a:adz×adz×List Stmt // ∃p,x=.For a.1 a.2.1 a.2.2 [] p}) x h λy z b o _=>match o with|[]=>some ⟨(y,z,b),_,rfl⟩|_::_=>none else none
noncomputable def Qv(x:Stmt):Option {a:adz×List Stmt // ∃p,x=.While a.1 a.2 [] p}:=if h:x.ctorIdx=11 then Stmt.While.elim (motive_2:=λx=>Option {a:adz×List Stmt // ∃p,x=.While a.1 a.2 [] p}) x h λa b o _=>match o with|[]=>some ⟨(a,b),_,rfl⟩|_::_=>none else none
noncomputable def QM(x:Stmt):Option {a:Option adz // ∃p,x=.Return a p}:=if h:x.ctorIdx=3 then some (Stmt.Return.elim (motive_2:=λx=>{a:Option adz // ∃p,x=.Return a p}) x h λv _=>⟨v,_,rfl⟩) else none
noncomputable def O7(x:Stmt):Option {a:List Stmt // ∃e es p,x=.Try a (e::es) [] [] p}:=if h:x.ctorIdx=17 then Stmt.Try.elim (motive_2:=λx=>Option {a:List Stmt // ∃e es p,x=.Try a (e::es) [] [] p}) x h λb g o f _=>match g,o,f with|_::_,[],[]=>some ⟨b,_,_,_,rfl⟩|_,_,_=>none else none
noncomputable def SK(x:PL):Option {i:Nat // x=.t (.n i)}:=match x with|.t (.n i)=>some ⟨i,rfl⟩|_=>none
noncomputable def Tb(x:PE):Option {a:List Nat×PE×List PG // x=.lc a.1 a.2.1 a.2.2}:=match x with|.lc a b d=>some ⟨(a,b,d),rfl⟩|_=>none
noncomputable def Sh(x:PE):Option {Q:Unit // x=.k .none}:=match x with|.k .none=>some ⟨(),rfl⟩|_=>none
mutual
def cS(c:Nm)(k:Ks):PS->Stmt->Bool
 |.hole,_=>true
 |.asg t e,x=>vw (KG x) λa=>cL c k t a.1.1&&cE c k e a.1.2&&(!isDisplay a.1.2|| !pE a.1.1)&&(!lr a.1.2||vw (Tb e) λ_=>vw (SK t) λ_=>true)
 |.par ts es,x=>vw (KG x) λa=>vw (Ey a.1.1) λxs=>vw (Ey a.1.2) λys=>FG c k ts xs.1&&eQ c k es ys.1&&(ys.1.all (aeP 8)|| !ys.1.all (constantsAlone 8))&&W2 es.length 30&&WV ts.length es.length
 |.ex e,x=>vw (Rb x) λv=>cE c k e v.1&& !lr v.1
 |.iff q t f,x=>vw (Ul x) λa=>cE c k q a.1.1&&sO c k t a.1.2.1&&sO c k f a.1.2.2
 |.for t i b,x=>vw (PJ x) λa=>cT c k t a.1.1&&cI c k i a.1.2.1&&jF i t&&sO c k b a.1.2.2
 |.Gk q b,x=>vw (Qv x) λa=>cE c k q a.1.1&&sO c k b a.1.2
 |.ret e,x=>vw (QM x) λa=>match a.1 with
  |some v=>cE c k e v
  |none=>vw (Sh e) λ_=>true
 |.try b,x=>vw (O7 x) λa=>sO c k b a.1
def sO(c:Nm)(k:Ks):List PS->List Stmt->Bool
 |[],[]=>true
 |s::ss,x::xs=>cS c k s x&&sO c k ss xs
 |_,_=>false
end
noncomputable def mO:List (Str×Value):=[("len",.builtin "len"),("tuple",.type "tuple"),("list",.type "list"),("dict",.type "dict"),("sorted",.builtin "sorted"),("sum",.builtin "sum"),("min",.builtin "min"),("max",.builtin "max"),
 ("abs",.builtin "abs"),("int",.type "int"),("all",.builtin "all"),("range",.type "range"),("zip",.type "zip"),("enumerate",.type "enumerate"),("isinstance",.builtin "isinstance"),("set",.type "set"),("bool",.type "bool"),("str",.type "str"),("super",.type "super")]
noncomputable def BZ(ps:List PS):Option {p:Nat×List PS // ps=.ex (.sup p.1)::p.2}:=match ps with|.ex (.sup g)::rest=>some ⟨(g,rest),rfl⟩|_=>none
noncomputable def Nf{L:Type}(l:List L):Option {p:L×List L // l=p.1::p.2}:=match l with|a::l=>some ⟨(a,l),rfl⟩|[]=>none
def Qg(c:Nm)(k:Ks)(rest:List PS)(xs:List Stmt):Bool:=vw (Nf xs) λx=>vw (Rb x.1.1) λe=>vw (ef e.1) λa=>vw (Ot a.1.1) λb=>vw (ef b.1.1) λg=>vw (Qu g.1.1) λn=>
 n.1.1==("super":Str)&&b.1.2.1==("__init__":Str)&&b.1.2.2.endLine==a.1.2.2.line&&a.1.2.1.isEmpty&&g.1.2.1.isEmpty&&sO c k rest x.1.2
def MR(c:Nm)(k:Ks)(ps:List PS)(xs:List Stmt):Bool:=match BZ ps with
 |some p=>Qg c k p.1.2 xs
 |none=>sO c k ps xs
noncomputable def Hc(o:Option Obj):Option {p:Obj×adV // o=some p.1/\p.1.data=.func p.2}:=match o with|some ⟨c,d,.func f,s⟩=>some ⟨(⟨c,d,.func f,s⟩,f),rfl,rfl⟩|_=>none
noncomputable def Hp(o:Option Obj):Option {p:Obj×Option Value // o=some p.1/\p.1.data=.cell p.2}:=match o with|some ⟨c,d,.cell v,s⟩=>some ⟨(⟨c,d,.cell v,s⟩,v),rfl,rfl⟩|_=>none
noncomputable def Jh(b:FuncBody):Option {l:List Stmt // b=.stmts l}:=match b with|.stmts l=>some ⟨l,rfl⟩|_=>none
def qN(K:Frag)(c:Nm)(a:Addr)(F:Fn):Bool:=vw (Hc<|K.lookup a) λf=>vw (Jh f.1.2.body) λb=>
 (MR c f.1.2.scope.names F.body b.1&&f.1.2.globals==adH&&f.1.2.builtins==adW&& !f.1.2.scope.isCoroutine&& !f.1.2.scope.isGenerator&&f.1.2.scope.kind==.function)&&
 (Oh (f.1.2.scope.names.map (·.1))&&codeIn K f.1.2.code f.1.2.qualname&&f.1.2.params.posonlyargs.isEmpty&&f.1.2.params.vararg.isNone&&f.1.2.params.kwonlyargs.isEmpty&&f.1.2.params.kwarg.isNone)&&
 (f.1.2.defaults==.none&&f.1.2.params.args.map (·.arg)==F.ps.map c.nm&&decide F.ps.Nodup&&(F.ps.all λx=>lq f.1.2.scope.names (c.nm x)==some .local||lq f.1.2.scope.names (c.nm x)==some .cell))&&
 (W2 f.1.2.closure.length 1&&(f.1.2.closure.all λp=>vw (Hp<|K.lookup p.2) λ_=>true)&&(f.1.2.scope.names.all λp=>p.2 !=.free||(f.1.2.closure.lookup p.1).isSome))
noncomputable def P7(v:Value):Option {a:Addr // v=.ref a}:=match v with|.ref a=>some ⟨a,rfl⟩|_=>none
noncomputable def JE(o:Option Value):Option {a:Addr // o=some (.ref a)}:=match o with|some (.ref a)=>some ⟨a,rfl⟩|_=>none
noncomputable def EE(o:Option Obj):Option {p:Obj×Array Value // o=some p.1/\p.1.data=.fields p.2}:=match o with|some ⟨c,d,.fields v,s⟩=>some ⟨(⟨c,d,.fields v,s⟩,v),rfl,rfl⟩|_=>none
noncomputable def Lu(o:Option Value):Option {p:Str×Tok // o=some (.str p.1 p.2)}:=match o with|some (.str s t)=>some ⟨(s,t),rfl⟩|_=>none
noncomputable def Gl{L:Type}(o:Option L):Option {a:L // o=some a}:=match o with|some a=>some ⟨a,rfl⟩|none=>none
def QI(K:Frag)(prog:Program)(c:Nm)(C a:Addr)(f:adV)(p:Str×Addr)(D:Addr)(s:Str)(A:Arg):Bool:=
  (p.1==("__class__":Str)&&mroIn K C (.ref D)==some true&&ae2 K C D ("__init__":Str)==some (some<|.ref a)&&f.scope.names.lookup ("super":Str)==some .globalImplicit&&f.scope.names.lookup ("__class__":Str)==some .free&&f.scope.names.lookup (c.nm 0)==some .local)&&
  (A.arg==c.nm 0&&prog.main.file==s&& !(prog.main.scope.names.lookup ("super":Str)).isSome&&acQ K a&&ae3 K (.ref a)==some (.type "function")&&aed K cStatics ("thirdparty.any":Str)==some none)
def OP(K:Frag)(prog:Program)(c:Nm)(C a:Addr)(f:adV)(p:Str×Addr)(D:Addr)(vs:Array Value):Bool:=vw (Lu vs[2]?) λs=>vw (Gl f.params.args.head?) λA=>QI K prog c C a f p D s.1.1 A.1
def OQ(K:Frag)(prog:Program)(c:Nm)(C a:Addr)(f:adV)(p:Str×Addr)(D:Addr):Bool:=vw (Gl<|clsIn K D) λ_=>vw (P7 f.code) λQ=>vw (EE<|K.lookup Q.1) λvs=>OP K prog c C a f p D vs.1.2
def PH(K:Frag)(prog:Program)(c:Nm)(C a:Addr)(f:adV):Bool:=vw (Di f.closure) λp=>vw (Hp<|K.lookup p.1.2) λm=>vw (JE m.1.2) λD=>OQ K prog c C a f p.1 D.1
def jA(K:Frag)(prog:Program)(c:Nm)(a C A:Addr):Bool:=vw (Hc<|K.lookup a) λf=>PH K prog c C A f.1.2
def sh(ps:List PS):Option Nat:=(BZ ps).map (·.1.1)
noncomputable def sL(l:List String)(i:Nat):Str:=match l[i]? with|some s=>Xw s|none=>⟨⟨Yg (i+1) 1114111⟩⟩
def cN:Nm:={nm:=sL Vr,gn:=sL Ib,fn:=λi=>match lB[i]? with|some p=>Xw p.2|none=>"",cn:=sL HI,an:=sL HF,st:=sL wz,fld:=kN,ig:=λi=>match lB[i]? with|some p=>p.1==""|none=>false}
noncomputable def Uj:List Nat:=[28,35,42,49,56,203,210,217,224,231,245,250,257,262,272,279,286,293,314,321,335,342,356,417,424,429,434,448,490,512,536,553,560,565,572,577,589,596,603,631,643,655,669,676,683,688,693,698,703,708,715,720,725,732,737,744,767,774,781,807,824,829,834,848,855,862,869,901,955,976,981,993,1000,1044,1051,1058,1065,1070,1084,1089,1094,1101,1115,1120,1160,1167,1174,1181,1186,1191,1198,1203,1210,1217,1222,1227,1232,1237]
noncomputable def Oq:List Nat:=[234,498,1151,747,879]
noncomputable def R8:List Nat:=[170,171,173,0,0,398,546,0,545,0,882,883,885]
noncomputable def xS:List Nat:=[3,1,234,498,1151,747,879,233,497,1150,746,878,170,171,173,175,174,177,176,179,178,182,180,181,185,183,184,187,186,189,188,398,546,545,544,882,883,885,28,27,35,34,42,41,49,48,56,55,203,202,210,209,217,216,224,223,231,230,245,244,250,249,257,256,262,261,272,271,279,278,286,285,293,292,314,313,321,320,335,334,342,341,356,355,417,416,424,423,429,428,434,433,448,447,490,489,512,511,536,535,553,552,560,559,565,564,572,571,577,576,589,588,596,595,603,602,631,630,643,642,655,654,669,668,676,675,683,682,688,687,693,692,698,697,703,702,708,707,715,714,720,719,725,724,732,731,737,736,744,743,767,766,755,774,773,781,780,807,806,824,823,829,828,834,833,848,847,855,854,862,861,869,868,901,900,889,955,954,976,975,981,980,993,992,1000,999,1044,1043,1051,1050,1058,1057,1065,1064,1070,1069,1084,1083,1089,1088,1094,1093,1101,1100,1115,1114,1120,1119,1160,1159,1167,1166,1174,1173,1181,1180,1186,1185,1191,1190,1198,1197,1203,1202,1210,1209,1217,1216,1222,1221,1227,1226,1232,1231,1237,1236,2]
def sM(f:Nat):Addr:=Uj.getD f 28
def GI(c:Nat):Addr:=Oq.getD c 234
noncomputable def yH(i:Nat):Addr:=R8.getD i 170
noncomputable def Ai(K:Frag)(T:String)(v:Value):Option (Addr×List Value):=match v with
 |.ref a=>match K.lookup a with
  |some ⟨c,none,.seq xs _,s⟩=>if c=.type T/\s.size=0/\xs.size<=lim then some (a,xs.toList) else none
  |_=>none
 |_=>none
noncomputable def k7(K:Frag)(a:Addr):List DictEntry:=match K.lookup a with
 |some ⟨c,none,.dict es _,s⟩=>if c=.type "dict"/\s.size=0 then es.toList else []
 |_=>[]
mutual
def CT(K:Frag):D->Value->Bool
 |.none,v=>v==.none
 |.bool b,v=>v==.bool b
 |.int i,v=>(match v with|.int j _=>j==i|_=>false)
 |.str k,v=>uC (cN.st k) v
 |.hash _,_=>false
 |.gd g,v=>v==.ref (yH g)
 |.tup l,v=>(match Ai K "tuple" v with|some p=>xB K l p.2|none=>false)
 |.lst _,_=>false
def xB(K:Frag):List D->List Value->Bool
 |[],vs=>vs.isEmpty
 |d::l,vs=>(match vs with|v::vs=>CT K d v&&xB K l vs|[]=>false)
end
def Il(d:D)(v:Value):Bool:=match d with|.str k=>uC (cN.st k) v|_=>false
def oV(K:Frag):List (D×D)->List DictEntry->Bool
 |[],es=>es.isEmpty
 |p::l,es=>(match es with|e::es=>Il p.1 e.key&&CT K p.2 e.val&&oV K l es|[]=>false)
noncomputable def nt(d:D):Nat:=match d with|.str k=>k|_=>0
noncomputable def wo(p:Nat->Fn->Bool):Nat->List Fn->Bool
 |_,[]=>true
 |i,F::l=>p i F&&wo p (i+1) l
def uT(K:Frag):Bool:=wo (λf F=>qN K cN (sM f) F&&(match sh F.body with|some g=>jA K Ym cN (sM f) (GI 2) (sM g)|none=>true)&&
 (!cN.ig f||aed K adH (cN.fn f)==some (some<|.ref<|sM f)&&aee K (.ref<|sM f))) 0 fns
def uy(K:Frag):Bool:=(Oq.all λa=>s9 K a&&kN.all λx=>ad1 K (.ref a) (cN.nm x)==some none)&&
 (HB.all λp=>ad1 K (.ref<|GI p.1.1) (cN.an p.1.2)==some (some<|.ref<|sM p.2)&&ae3 K (.ref<|sM p.2)==some (.type "function")&&aee K (.ref<|sM p.2)&&
  (aed K adH (cN.cn p.1.1)==some (some<|.ref<|GI p.1.1)&&aee K (.ref<|GI p.1.1)))
def qY(K:Frag):Bool:=(K.lookup adX).isSome&&(mO.all λp=>aed K adH p.1==some none)&&
 (QP.all λp=>match aed K adH (cN.gn p.1) with|some (some v)=>CT K p.2 v|_=>false)&&
 (w0.all λp=>oV K p.2 (k7 K<|yH p.1)&& !(k7 K<|yH p.1).isEmpty)
def Vs(K:Frag):Bool:=uT K&&uy K&&qY K
def lS(K:Frag):List Int:=w0.flatMap λp=>(k7 K<|yH p.1).map (·.hash)
def hashW(w:World):List Int:=w0.flatMap λp=>p.2.map λe=>aef w<|cN.st<|nt e.1
noncomputable def mC(h:Heap)(as:List Addr):Frag:=as.filterMap λa=>(h.get? a).map λo=>(a,o)
def Ax(h:Heap):∀A:List Addr,(mC h A).In h:=by
 intro A
 induction A with
 |nil=>exact λa o e=>nomatch e
 |cons b A i=>
  intro a o e;unfold mC at e;rw[YO] at e;cases Q:h.get? b with
  |none=>rw[Q] at e;exact i a o e
  |some x=>
   rw[Q] at e;dsimp only [W4] at e;rw[Xg] at e;cases q:a==b with
   |true=>rw[q] at e;cases Wn e;rw[agQ.mp q];exact Q
   |false=>rw[q] at e;exact i a o e
end
end Mm
namespace HL
open Mm
open PySem PySem.W PyProof.Rows PySem.Calls
noncomputable def Pr(S:SharedT)(a:Addr):Option (Addr×Obj):=match aad a S.n with|true=>(alive<|(S.tree.get a).getD default).map λo=>(a,o)|false=>none
def ja(S:SharedT)(as:List Addr):Frag:=as.filterMap<|Pr S
def JK(x:Option (aep×SharedT×Code×Pos)):=match x with
 |some (.next,s,c,_)=>some (c,uT<|ja s xS)
 |_=>none
def IA(w:World)(x:Option (aep×SharedT×Code×Pos)):=match x with
 |some (.next,s,c,_)=>some (c,uU w s.abs,aa5 q loose (importedModules P.main.body) (λ_=>true) true s.abs,uy (ja s xS)&&qY (ja s xS),lS<|ja s xS)
 |_=>none
noncomputable def wf(w:World)(b:Bool):World:=w.withFollow "special-get-raises" b
def RM(w:World)(os:adF):JK (R (wf w false) os)=some (.body bd ev,true):=by kernel_rfl
def Tp(w:World)(os:adF):JK (R (wf w true) os)=some (.body bd ev,true):=by kernel_rfl
def RT(w:World)(os:adF):IA (wf w false) (R (wf w false) os)=some (.body bd ev,true,ae4 q loose,true,hashW (wf w false)):=by kernel_rfl
def Sk(w:World)(os:adF):IA (wf w true) (R (wf w true) os)=some (.body bd ev,true,ae4 q loose,true,hashW (wf w true)):=by kernel_rfl
end HL
namespace Mm
variable{B:Nat}{U:Value->adx->Prop}{M:adz->Prop}{J:List Value}{j:List Addr}{L:Addr}
section
open PySem PyProof.Rows PySem.SeqAt PySem.W PySem.Calls
open Sem (wp)
section
structure U3 where
 nm:Nat->Str
 st:Nat->Str
 gd:Nat->Addr
 cl:Nat->Addr
 jD:∀i j,nm i=nm j->i=j
 pq:∀i j,st i=st j->i=j
 Gm:∀i,aau (st i)
 fld:List Nat
 nm_ok:∀i,(nm i==("__debug__":Str))=false/\(nm i==("__classdict__":Str))=false
def nA(h:Heap)(a:Addr)(xs:Array Value):Prop:=∃n,h.get? a=some {cls:=.type "tuple",data:=.seq xs n}
def kI(h:Heap)(a:Addr)(xs:Array Value):Prop:=∃n,h.get? a=some {cls:=.type "list",data:=.seq xs n}
def nA.i(x:nA h a f):h.IsTuple a f:=af x λn e=>⟨_,e,rfl,n,rfl⟩
def kI.i(x:kI h a f):h.IsList a f:=af x λn e=>⟨_,e,rfl,n,rfl⟩
inductive L2 {α β:Type} (R:α->β->Prop):List α->List β->Prop
 |nil:L2 R [] []
 |cons {a:α} {b:β} {as:List α} {bs:List β}:R a b->L2 R as bs->L2 R (a::as) (b::bs)
section
variable{c d:Type}{R g:c->d->Prop}
def L2.mono(f:∀a b,R a b->g a b)(h:L2 R as bs):L2 g as bs:=
 h.rec .nil λx _ i=> .cons (f _ _ x) i
def L2.length(h:L2 R as bs):as.length=bs.length:=
 h.rec rfl λ_ _ i=>agN Y6 i
def L2.append(h:L2 R as bs)(k:L2 R z T):L2 R (as++z) (bs++T):=
 h.rec k λx _ i=> .cons x i
def L2.dZ:L2 R as []->as=[]:=λh=>by cases h;rfl
def L2.bZ:L2 R as (b::bs)->∃a A,as=a::A/\R a b/\L2 R A bs:=λh=>by
 cases h with|cons x r=>exact⟨_,_,rfl,x,r⟩
def L2.get'(h:L2 R as bs):∀{i:Nat}{a:c},as[i]?=some a->∃b,bs[i]?=some b/\R a b:=by
 induction h with
 |nil=>intro i a e;cases e
 |cons x _ I=>intro i a e;exact match i,e with
  |0,e=>⟨_,rfl,Wn e▸x⟩
  |_+1,e=>I e
def L2.get(h:L2 R as bs):∀{i:Nat}{b:d},bs[i]?=some b->∃a,as[i]?=some a/\R a b:=by
 induction h with
 |nil=>intro i a e;cases e
 |cons x _ I=>intro i a e;exact match i,e with
  |0,e=>⟨_,rfl,Wn e▸x⟩
  |_+1,e=>I e
def L2.take(h:L2 R as bs):∀n,L2 R (as.take n) (bs.take n):=
 h.rec (λn=>by refine aa acT<|aa acT ?_;exact .nil) λx _ i n=>match n with
  |0=> .nil
  |n+1=> .cons x<|i n
def L2.drop(h:L2 R as bs):∀n,L2 R (as.drop n) (bs.drop n):=
 h.rec (λn=>by refine aa abh<|aa abh ?_;exact .nil) λx r i n=>match n with
  |0=> .cons x r
  |n+1=>i n
end
section
variable(W:U3)
inductive DR (h:Heap) (own:List Addr):Value->D->Prop
 |none:DR h own Value.none D.none
 |bool (b:Bool):DR h own (Value.bool b) (D.bool b)
 |int (i:Int) (t:Tok):DR h own (Value.int i t) (D.int i)
 |str {k:Nat} {x:Str} {t:Tok}:x=W.st k->DR h own (Value.str x t) (D.str k)
 |hash (i:Int) (x:Str) (t:Tok):DR h own (Value.str x t) (D.hash i)
 |gd {g:Nat} {a:Addr}:a=W.gd g->DR h own (Value.ref a) (D.gd g)
 |tup {a:Addr} {vs:List Value} {l:List D}:nA h a vs.toArray->a∉own->vs.length<=lim->L2 (DR h own) vs l->DR h own (Value.ref a) (D.tup l)
 |lst {a:Addr} {vs:List Value} {l:List D}:kI h a vs.toArray->a∉own->vs.length<=lim->L2 (DR h own) vs l->DR h own (Value.ref a) (D.lst l)
abbrev bL(h:Heap)(own:List Addr):List Value->List D->Prop:=L2<|DR W h own
end
def bq(h:Heap)(own:List Addr)(h':Heap)(b:List Addr):Prop:=
 ∀a o,a∉own->h.get? a=some o->(∃xs n,o.data=.seq xs n)->h'.get? a=some o/\a∉b
section
variable{W:U3}
def DR.stays(S:bq h own G o)(r:DR W h own v d):DR W G o v d:=
 DR.rec (motive_1:=λv d _=>DR W G o v d) (motive_2:=λvs T _=>bL W G o vs T) .none .bool .int .str .hash .gd
  (λz I J _ r=>af z λn f=> .tup ⟨n,(S _ _ I f ⟨_,_,rfl⟩).1⟩ (S _ _ I f ⟨_,_,rfl⟩).2 J r) (λz I J _ r=>af z λn f=> .lst ⟨n,(S _ _ I f ⟨_,_,rfl⟩).1⟩ (S _ _ I f ⟨_,_,rfl⟩).2 J r)
  .nil (λ_ _ x r=> .cons x r) r
def bL.stays(S:bq h own G o)(r:bL W h own vs d):bL W G o vs d:=r.mono λ_ _ r=>r.stays S
def DI(W:U3)(h:Heap)(own:List Addr)(v:Value)(d:D):Prop:=match d with
 |.none=>v=.none
 |.bool b=>v=.bool b
 |.int i=>∃t,v=.int i t
 |.str k=>∃t,v=.str (W.st k) t
 |.hash _=>∃x t,v=.str x t
 |.gd g=>v=.ref (W.gd g)
 |.tup l=>∃a vs,v=.ref a/\nA h a vs.toArray/\a∉own/\vs.length<=lim/\bL W h own vs l
 |.lst l=>∃a vs,v=.ref a/\kI h a vs.toArray/\a∉own/\vs.length<=lim/\bL W h own vs l
section
variable{h:Heap}{own:List Addr}{v:Value}{d:D}
def DR.di(r:DR W h own v d):DI W h own v d:=by
 obtain _|_|_|e|_|e|⟨h1,h2,Y,f⟩|⟨h1,h2,Y,f⟩:=r;iterate 2 exact rfl
 ·exact⟨_,rfl⟩
 ·exact⟨_,aa e rfl⟩
 ·exact⟨_,_,rfl⟩
 ·exact agN _ e
 iterate 2 exact⟨_,_,rfl,h1,h2,Y,f⟩
def DR.pD(r:DR W h own v .none):v=.none:=r.di
def DR.eZ(r:DR W h own v (.bool b)):v=.bool b:=r.di
def DR.cW(r:DR W h own v (.int i)):∃t,v=.int i t:=r.di
def DR.g6(r:DR W h own v (.str k)):∃t,v=.str (W.st k) t:=r.di
def DR.Qe(r:DR W h own v (.gd g)):v=.ref (W.gd g):=r.di
def DR.eD{l:List D}(r:DR W h own v (.tup l)):∃a vs,v=.ref a/\nA h a vs.toArray/\a∉own/\vs.length<=lim/\bL W h own vs l:=r.di
def DR.eX{l:List D}(r:DR W h own v (.lst l)):∃a vs,v=.ref a/\kI h a vs.toArray/\a∉own/\vs.length<=lim/\bL W h own vs l:=r.di
end
def no{L:Type}{a:L}{p:Prop}(e:none=some a):p:=nomatch e
def bj{d:D}{i:Int}(h:d.fU=some i):d=.int i:=by
 obtain _|_|j|_|_|_|_|_:=d;iterate 2 exact no h
 ·exact agN D.int (Wn h)
 all_goals exact no h
def xr{d:D}(h:d.JI=some B):d=.str B:=by
 obtain _|_|_|j|_|_|_|_:=d;iterate 3 exact no h
 ·exact agN D.str (Wn h)
 all_goals exact no h
def gL{d:D}{l:List D}(h:d.ny=some l):d=.tup l:=by
 obtain _|_|_|_|_|_|j|_:=d;iterate 6 exact no h
 ·exact agN D.tup (Wn h)
 exact no h
def xw{d:D}{l:List D}(h:d.IP=some l):d=.lst l:=by
 obtain _|_|_|_|_|_|_|j:=d;iterate 7 exact no h
 ·exact agN D.lst (Wn h)
def gP{d:D}{l:List D}(h:d.ju=some l):d=.tup l\/d=.lst l:=by
 obtain _|_|_|_|_|_|j|j:=d;iterate 6 exact no h
 ·exact .inl (agN D.tup<|Wn h)
 ·exact .inr (agN D.lst<|Wn h)
def bs{L Y:Type}{o:Option L}{f:L->Option Y}{b:Y}(h:o.bind f=some b):∃a,o=some a/\f a=some b:=by
 obtain _|a:=o
 ·exact no h
 ·exact⟨a,rfl,h⟩
def ms{L Y:Type}{o:Option L}{f:L->Y}{b:Y}(h:o.map f=some b):∃a,o=some a/\f a=b:=by
 obtain _|a:=o
 ·exact no h
 ·exact⟨a,rfl,Wn h⟩
def fs{L:Type}{p:Prop}[Decidable p]{o:Option L}{a:L}(h:(if p then o else none)=some a):p/\o=some a:=by
 by_cases q:p
 ·exact⟨q,(agO q).symm.trans h⟩
 ·exact no ((agP q).symm.trans h)
def GY{L:Type}{b:Bool}{x:Option L}{a:L}(h:(match b with|true=>x|false=>none)=some a):b=true/\x=some a:=by
 obtain _|_:=b
 ·exact no h
 ·exact⟨rfl,h⟩
def an(h:(a&&b)):a=true/\b=true:=WE.mp h
mutual
noncomputable def D.py(W:U3):D->PyData
 |.none=> .none
 |.bool b=> .bool b
 |.int i=> .int i
 |.str k=> .str (W.st k)
 |.hash _=> .none
 |.gd _=> .none
 |.tup l=> .tuple (xa W l)
 |.lst l=> .list (xa W l)
noncomputable def xa(W:U3):List D->List PyData
 |[]=>[]
 |x::xs=>x.py W::xa W xs
end
def du:∀{n:Nat}{d:D},plain n d->d.ju=some l->∃m,n=m+1/\l.all (plain m)=true
 |0,d,h,e=>by rcases gP e with rfl|rfl<;>cases h
 |n+1,d,h,e=>by
  have h:(match d.ju with|some l=>l.all (plain n)|none=>d.atom)=true:=h;rw[e] at h;exact⟨n,rfl,h⟩
def bO(o:d.ju=none)(m:d.atom=false):∀{n:Nat},plain n d->False
 |0,h=>Ws (m.symm.trans h)
 |n+1,h=>by
  have h:(match d.ju with|some l=>l.all (plain n)|none=>d.atom)=true:=h;rw[o] at h;exact Ws<|m.symm.trans h
def DR.reads(r:DR W h own v d):∀n,plain n d->∃as,Reads h v (d.py W) as/\(d.py W).canLay0/\(d.py W).depth<=n:=
 DR.rec (motive_1:=λv d _=>∀n,plain n d->∃as,Reads h v (d.py W) as/\(d.py W).canLay0/\(d.py W).depth<=n)
  (motive_2:=λvs T _=>∀n,T.all (plain n)->∃as,ReadsAll h vs (xa W T) as/\abR (xa W T)/\ab4 (xa W T)<=n)
  (λn _=>⟨_,.none,rfl,Wz n⟩) (λb n _=>⟨_,.bool b,rfl,Wz n⟩) (λi t n _=>⟨_,.int i t,rfl,Wz n⟩)
  (λ{k x t} e n _=>⟨[],by subst e;exact Reads.str _ t,W.Gm k,Wz n⟩) (λi x t n h=>(bO rfl rfl h).elim) (λ{g a} e n h=>(bO rfl rfl h).elim)
  (λ{a vs l} h1 _ _ _ I n Y=>by
   refine ae (du Y rfl) λm E Y=>?_;subst E;exact aj (I m Y) λas r h2 c=>af h1 λk h1=>⟨as,.tuple h1 rfl rfl r,h2,WB c⟩)
  (λ{a vs l} h1 _ _ _ I n Y=>by
   refine ae (du Y rfl) λm E Y=>?_;subst E;exact aj (I m Y) λas r h2 c=>af h1 λk h1=>⟨a::as,.list h1 rfl rfl r,h2,WB c⟩)
  (λn _=>⟨_,.nil,rfl,Wz n⟩)
  (λ_ _ o L n Y=>by
   exact aj (o n (an Y).1) λas r h2 c=>aj (L n (an Y).2) λbs w f J=>⟨_,.cons r w,WE.mpr ⟨h2,f⟩,adm.mpr ⟨c,J⟩⟩) r
def bL.reads(r:bL W h own vs T):T.all (plain n)->∃as,ReadsAll h vs (xa W T) as/\abR (xa W T)/\ab4 (xa W T)<=n:=
 r.rec (λ_=>⟨_,.nil,rfl,Wz n⟩) λx _ i Y=>by
  exact aj (x.reads n (an Y).1) λas r h2 a=>aj (i (an Y).2) λbs v d I=>⟨_,.cons r v,WE.mpr ⟨h2,d⟩,adm.mpr ⟨a,I⟩⟩
def HT(W:U3)(a b:Nat):(W.st a==W.st b)=WV a b:=by
 rcases h:WV a b with _|_
 ·exact agV.mpr λe=>abx h<|W.pq _ _ e
 ·exact aa (WY h)<|agW _
def Uo(a b:Bool):(((if a then 1 else 0:Int)==(if b then 1 else 0)):Bool)=(a==b):=by cases a<;>cases b<;>rfl
def MF(W:U3)(x:D):Prop:=∀(y:D){n m:Nat},plain n x->plain m y=true->aaM (x.py W) (y.py W)=bP x y
def Ki(W:U3)(xs:List D):Prop:=∀(ys:List D){n m:Nat},xs.all (plain n)=true->ys.all (plain m)->acu (xa W xs) (xa W ys)=lP xs ys
def pG(W:U3):∀x:D,MF W x:=by
 refine @D.rec (MF W) (Ki W) ?_ ?_ ?_ ?_ ?_ ?_ ?_ ?_ ?_ ?_
 ·intro y _ _ _ c
  cases y<;>first|rfl|exact(bO rfl rfl c).elim
 ·intro a y _ _ _ c
  obtain _|b|_|_|_|_|_|_:=y
  ·rfl
  ·exact(Uo a b).symm
  iterate 2 rfl
  iterate 2 exact(bO rfl rfl c).elim
  all_goals rfl
 ·intro a y _ _ _ c
  cases y<;>first|rfl|exact(bO rfl rfl c).elim
 ·intro a y _ _ _ c
  obtain _|_|_|b|_|_|_|_:=y;iterate 3 rfl
  ·exact HT W a b
  iterate 2 exact(bO rfl rfl c).elim
  all_goals rfl
 iterate 2 exact λ_ _ _ _ h _=>(bO rfl rfl h).elim
 ·intro a i y _ _ h c
  obtain _|_|_|_|_|_|b|_:=y;iterate 4 rfl
  iterate 2 exact(bO rfl rfl c).elim
  ·exact ae (du h rfl) λn _ h=>ae (du c rfl) λm _ c=>i b h c
  rfl
 ·intro a i y _ _ h c
  obtain _|_|_|_|_|_|_|b:=y;iterate 4 rfl
  iterate 2 exact(bO rfl rfl c).elim
  ·rfl
  ·exact ae (du h rfl) λn _ h=>ae (du c rfl) λm _ c=>i b h c
 ·intro Y _ _ _ _
  cases Y<;>rfl
 ·intro x f I J Y _ _ h c
  obtain _|⟨y,Y⟩:=Y
  ·rfl
  ·show(aaM _ _&&acu _ _)=(bP x y&&lP f Y)
   exact aa (I y (an h).1 (an c).1)<|aa (J Y (an h).2 (an c).2) rfl
def CO(i:u+13<cLine)(h:n<=12):u+min n m<cLine:=WJ (WL (Wh (Zk _ _) h) u)<|WJ (WL (ab rfl) u) i
section
variable{A:adC}{s:adx}{own a:List Addr}{u v:Value}{x y:D}(d:A.units+13<cLine)(e:DR W s.heap own u x)(f:DR W s.heap a v y)(b:plain 12 x=true)(c:plain 12 y=true)
include d e f b c
def Jx:EqAt A s u v (bP x y):=aj (e.reads 12 b) λz r h t=>aj (f.reads 12 c) λbs k Y g=>av (pG W x y b c)<|eqAt_reads _ _ _ _ _ _ _ _ r k h Y<|CO d t
end
def DR.same(b:DR W h own v x)(M:DR W h o v y)(g:plain n x)(a:plain m y):bP x y:=aj (b.reads n g) λas r h1 h2=>aj (M.reads m a) λbs k Y d=>av (pG W x y g a)<|av (SeqAt.Reads.unique _ _ _ _ _ h1 r k)<|eqv_refl _ h1
end
end
def L2.t7{L Y:Type}{R:L->Y->Prop}{a:L}{as:List L}{l:List Y}(h:L2 R (a::as) l):∃b bs,l=b::bs/\R a b/\L2 R as bs:=by
 cases h with|cons x r=>exact⟨_,_,rfl,x,r⟩
section
variable{W:U3}{c:Program}{w:World}{A:adC}{E:Value->adx->Prop}{s:adx}
mutual
noncomputable def D.canon:D->D
 |.none=> .none
 |.bool b=> .int (if b then 1 else 0)
 |.int i=> .int i
 |.str k=> .str k
 |.hash i=> .hash i
 |.gd x=> .gd x
 |.tup l=> .tup (fA l)
 |.lst l=> .lst l
noncomputable def fA:List D->List D
 |[]=>[]
 |x::xs=>x.canon::fA xs
end
mutual
def Bt(W:U3)(w:World):D->Int
 |.none=>0
 |.bool _=>0
 |.int i=>adP i
 |.str k=>aef w (W.st k)
 |.hash _=>0
 |.gd _=>0
 |.tup l=>reduceHash (aaR (pC W w l))
 |.lst _=>0
def pC(W:U3)(w:World):List D->List Int
 |[]=>[]
 |x::xs=>Bt W w x::pC W w xs
end
mutual
def AU:D->Nat
 |.none=>1
 |.bool _=>1
 |.int _=>1
 |.str _=>1
 |.hash _=>1
 |.gd _=>1
 |.tup l=>k9 l+1
 |.lst _=>1
def k9:List D->Nat
 |[]=>0
 |x::xs=>AU x+k9 xs
end
def rP{l:List D}{d:D}:∀{n:Nat},d.ao n->d.ny=some l->∃m,n=m+1/\l.all (D.ao m)=true
 |0,h,e=>by obtain rfl:=gL e;cases h
 |n+1,h,e=>by
  have h:(match d.ny with|some l=>l.all (D.ao n)|none=>d.qZ)=true:=h;rw[e] at h;exact⟨n,rfl,h⟩
def aE{d:D}(o:d.ny=none)(m:d.qZ=false):∀{n:Nat},d.ao n->False
 |0,h=>Ws (m.symm.trans h)
 |n+1,h=>by
  have h:(match d.ny with|some l=>l.all (D.ao n)|none=>d.qZ)=true:=h;rw[o] at h;exact Ws<|m.symm.trans h
def fE(o:d.ju=none)(h:d.atom):∀n,plain n d=true
 |0=>h
 |n+1=>by
  show(match d.ju with|some l=>l.all (plain n)|none=>d.atom)=true;refine aa o ?_;exact h
def mB{f g:D->Bool}{l:List D}(h:∀d,f d->g d)(k:l.all f):l.all g:=Wt.mpr λd Y=>h d<|Wt.mp k d Y
def lj:∀{n:Nat}{d:D},d.ao n->plain n d:=by
 intro n
 induction n with
 |zero=>
  intro d h;obtain _|_|_|_|_|_|_|_:=d
  ·exact(aE rfl rfl h).elim
  iterate 3 rfl
  iterate 2 exact(aE rfl rfl h).elim
  ·cases h
  exact(aE rfl rfl h).elim
 |succ n i=>
  intro d h;obtain _|_|_|_|_|_|l|_:=d
  ·exact(aE rfl rfl h).elim
  iterate 3 rfl
  iterate 2 exact(aE rfl rfl h).elim
  ·exact mB (λ_=>i) h
  exact(aE rfl rfl h).elim
def Bk:∀{n m:Nat},n<=m->plain n d->plain m d:=by
 intro n
 induction n generalizing d with
 |zero=>
  intro m _ h;obtain _|_|_|_|_|_|_|_:=d;iterate 4 exact fE rfl rfl m
  all_goals cases h
 |succ n i=>
  intro m Q h;obtain _|m:=m
  ·exact agR Q (abT n)
  ·obtain _|_|_|_|_|_|l|l:=d
   iterate 6 exact h
   iterate 2 exact mB (λ_=>i<|Yy Q) h
def EY:(i==a)↔D.int i=D.int a:=⟨λh=>agN _<|agQ.mp h,λh=>agQ.mpr<|D.noConfusion h λe=>e⟩
def yP(h:p->False):false=true↔p:=⟨λe=>Ws e,λe=>(h e).elim⟩
def P8:WV i a↔D.str i=D.str a:=⟨λh=>agN _<|WY h,λh=>(D.noConfusion h λe=>e)▸aaD i⟩
def LB(x:D):Prop:=∀(y:D){n m:Nat},x.ao n=true->y.ao m->(bP x y↔x.canon=y.canon)
def K7(xs:List D):Prop:=∀(ys:List D){n m:Nat},xs.all (D.ao n)=true->ys.all (D.ao m)=true->(lP xs ys↔fA xs=fA ys)
def jV:∀x:D,LB x:=by
 refine @D.rec LB K7 ?_ ?_ ?_ ?_ ?_ ?_ ?_ ?_ ?_ ?_
 ·exact λ_ _ _ g _=>(aE rfl rfl g).elim
 ·intro a y _ _ _ d
  obtain _|b|b|b|_|_|b|_:=y
  ·exact(aE rfl rfl d).elim
  iterate 2 exact EY
  ·exact yP nofun
  iterate 2 exact(aE rfl rfl d).elim
  ·exact yP nofun
  exact(aE rfl rfl d).elim
 ·intro a y _ _ _ d
  obtain _|b|b|b|_|_|b|_:=y
  ·exact(aE rfl rfl d).elim
  iterate 2 exact EY
  ·exact yP nofun
  iterate 2 exact(aE rfl rfl d).elim
  ·exact yP nofun
  exact(aE rfl rfl d).elim
 ·intro a y _ _ _ d
  obtain _|b|b|b|_|_|b|_:=y
  ·exact(aE rfl rfl d).elim
  iterate 2 exact yP nofun
  ·exact P8
  iterate 2 exact(aE rfl rfl d).elim
  ·exact yP nofun
  exact(aE rfl rfl d).elim
 iterate 2 exact λ_ _ _ _ g _=>(aE rfl rfl g).elim
 ·intro a i y _ _ g d
  obtain _|b|b|b|_|_|b|_:=y
  ·exact(aE rfl rfl d).elim
  iterate 3 exact yP nofun
  iterate 2 exact(aE rfl rfl d).elim
  ·obtain⟨n,-,g⟩:=rP g rfl
   obtain⟨m,-,d⟩:=rP d rfl;have h:=i b g d;exact⟨λe=>agN D.tup<|h.mp e,λe=>h.mpr<|D.noConfusion e λe=>e⟩
  exact(aE rfl rfl d).elim
 ·exact λ_ _ _ _ _ g _=>(aE rfl rfl g).elim
 ·intro Y _ _ _ _
  obtain _|_:=Y
  ·exact⟨λ_=>rfl,λ_=>rfl⟩
  ·exact yP nofun
 ·intro x f I J Y _ _ g d
  obtain _|⟨y,Y⟩:=Y
  ·exact yP nofun
  ·have o:=I y (an g).1 (an d).1
   have t:=J Y (an g).2 (an d).2;exact⟨λe=>List.cons_eq_cons.mpr ⟨o.mp (an e).1,t.mp (an e).2⟩,λe=>WE.mpr ⟨o.mpr (Xk e).1,t.mpr (Xk e).2⟩⟩
open Classical in
def vb(g:x.ao n)(a:y.ao m):bP x y=decide (x.canon=y.canon):=by
 rcases h:bP x y with _|_
 ·exact(agY λe=>Ws<|h.symm.trans<|(jV x y g a).mpr e).symm
 ·exact(agT<|(jV x y g a).mp h).symm
def oT(h:Q (adP (if b then 1 else 0)) {s with toks:=s.toks+1}):
  adA (adB c w) A (pyHash<|.bool b) Q E s:=by
 have I:s.TypeIs (.bool b) "bool":=rfl;refine adw<|wpAny_cRoomFor_byValue rfl<|adw<|ad7 I acW.lookup<|afZ (by rfl) (adw<|ad7 I acW.lookup<|adw<|af0 I acW<|adL acW I F.entry_int_hash ?_<|F.args_int_hash_1 _);clear I;cases b;iterate 2 exact aft (ady h)
def pO(h:Q (reduceHash i) s):adA (adB c w) A (aat i) Q E s:=by
 unfold aat;unfold reduceHash at h
 split at h
 ·rename_i p
  exact aa (agO p)<|ady h
 ·rename_i p
  exact aa (agP p)<|adw<|adZ<|ady h
def AI(n:Nat):∀{A:adC}{s:adx}{own:List Addr}{v:Value}{d:D}{Q:Int->adx->Prop},A.units+n<cLine->DR W s.heap own v d->d.ao n->
  Q (Bt W w d.canon) {s with toks:=s.toks+AU d.canon}->adA (adB c w) A (pyHash v) Q E s:=by
 induction n with
 |zero=>
  intro A s own v d Q L r hh h;obtain _|b|i|k|_|_|_|_:=d
  ·exact(aE rfl rfl hh).elim
  ·exact aa r.eZ<|oT h
  ·refine af r.cW λt f=>?_;clear r;subst f;exact afu h
  ·refine af r.g6 λt f=>?_;clear r;subst f;exact afv h
  iterate 2 exact(aE rfl rfl hh).elim
  ·cases hh
  exact(aE rfl rfl hh).elim
 |succ n I=>
  intro A s own v d Q L r hh h;obtain _|b|i|k|_|_|l|_:=d
  ·exact(aE rfl rfl hh).elim
  ·exact aa r.eZ<|oT h
  ·refine af r.cW λt f=>?_;clear r;subst f;exact afu h
  ·refine af r.g6 λt f=>?_;clear r;subst f;exact afv h
  iterate 2 exact(aE rfl rfl hh).elim
  ·obtain⟨a,g,rfl,p,u,ac,r⟩:=r.eD
   have hT:=p.i.typeIs;obtain⟨o,j,y,m,Y⟩:=p.i;have hh:=hh;have G:A.units+1+n<cLine:=by rw[W3,Xj 1 n];exact L
   refine adw<|wpAny_cRoomFor (WJ (WD _ _) L)<|adw<|ad7 hT acK.lookup<|afZ (by rfl) (adw<|ad7 hT acK.lookup<|adw<|af0 hT acK<|adL acK hT F.entry_tuple_hash ?_<|F.args_tuple_hash_1 _);show adA _ _ (aaK (.ref a)>>=_) _ _ s;refine adw<|wpAny_tupleItemsOf j Y<|adw<|av ab0 ?_;refine wpAny_forIn_list _
    (λag (b:Array Int) U=>∃left,bL W s.heap own ag left/\left.all (D.ao n)/\b.toList++pC W w (fA left)=pC W w (fA l)/\U={s with toks:=U.toks}/\U.toks+k9 (fA left)=s.toks+k9 (fA l))
    _ ?_ ?_ _ _ ⟨l,r,hh,rfl,rfl,rfl⟩
   ·intro x ag b U z
    refine aK z λleft hr J T z=>ak z λN B=>aq (L2.t7 hr) λk ks e M al=>?_;subst e;refine aa N<|adw<|I G M (an J).1<|ady ⟨ks,al,(an J).2,?_,rfl,?_⟩
    ·rw[ZW,Xq];exact T
    ·exact av B<|W3 _ _ _
   ·intro b U z
    refine aK z λleft hr J T z=>ak z λN B=>?_;clear J;cases hr;show adA _ _ (retInt<|aaR b.toList) _ _ _;exact aa N<|av (WI b.toList)<|aft<|pO<|aa T<|aa (show U.toks=s.toks+k9 (fA l) from B) h
  exact(aE rfl rfl hh).elim
def Fq(n:Nat):∀{A:adC}{s:adx}{own:List Addr}{v:Value}{d:D}{Q:Bool->adx->Prop},DR W s.heap own v d->d.ao n->
  Q true s->adA (adB c w) A (eqIsQuiet n v) Q E s:=by
 induction n with
 |zero=>
  intro A s own v d Q r B h;obtain _|b|i|k|_|_|_|_:=d
  ·exact(aE rfl rfl B).elim
  ·refine aa r.eZ (aa (aeC _ rfl) ?_);exact ady h
  ·refine af r.cW λt f=>?_;clear r;subst f;exact aa (aeC _ rfl)<|ady h
  ·refine af r.g6 λt f=>?_;clear r;subst f;exact aa (aeC _ rfl)<|ady h
  iterate 2 exact(aE rfl rfl B).elim
  ·cases B
  exact(aE rfl rfl B).elim
 |succ n I=>
  intro A s own v d Q r B h;obtain _|b|i|k|_|_|l|_:=d
  ·exact(aE rfl rfl B).elim
  ·refine aa r.eZ (aa (aeC _ rfl) ?_);exact ady h
  ·refine af r.cW λt f=>?_;clear r;subst f;exact aa (aeC _ rfl)<|ady h
  ·refine af r.g6 λt f=>?_;clear r;subst f;exact aa (aeC _ rfl)<|ady h
  iterate 2 exact(aE rfl rfl B).elim
  ·obtain⟨a,g,rfl,p,u,ac,r⟩:=r.eD
   have N:=p.i.typeIs;obtain⟨o,j,x,m,Y⟩:=p.i;have B:=B;unfold eqIsQuiet;refine adw<|ad7 N F.slot_tuple_eq.lookup<|adw<|aeQ N isSubtype_tuple_tuple ?_;refine adw<|ad3 j Y<|adw<|av ab0<|wpAny_forIn_list _ (λag r' T=>r'.1=none/\T=s/\∃left,bL W s.heap own ag left/\left.all (D.ao n)) _ ?_ ?_ _ _ ⟨rfl,rfl,l,r,B⟩
   ·intro v ag r' T z
    refine aC z λL y z=>ae z λleft J G=>aq (L2.t7 J) λk ks e M al=>?_;subst e;exact aa y<|adw<|I M (an G).1<|ady ⟨rfl,rfl,ks,al,(an G).2⟩
   ·intro ⟨U,r2⟩ T ⟨L,y,_⟩
    subst L;exact aa y<|ady h
  exact(aE rfl rfl B).elim
def oL(h:d.ao 8):plain 12 d:=Bk (ab rfl)<|lj h
open Classical in
def nY(W:U3)(c:Program)(w:World):HeapKind c w D where
 is h k a:=∃d,DR W h [] (.ref a) d/\d.ao 8=true/\d.canon=k
 hash:=Bt W w
 draws:=AU
 room A:=A.units+13<cLine
 inj:=by
  intro h a x y z z'
  refine aj z λd h1 h2 e1=>aj z' λd' k1 k2 e2=>?_
  exact av e1 (av e2<|(jV d d' h2 k2).mp<|h1.same k1 (lj h2)<|lj k2)
 keeps:=by
  intro h h' k a d o es ep z ho hd hs
  refine aj z λx h1 h2 e=>?_
  refine⟨x,h1.stays ?_,h2,e⟩
  intro b ob _ hb z
  refine d9 z λxs n hq=>?_
  refine⟨(hs.2 b λq=>?_).trans hb,WW⟩
  rw[q,ho] at hb
  rw[<-Wn hb,hd] at hq
  exact nomatch hq
 pyHash:=by
  intro A E s k a Q hu z h
  refine aj z λd h1 h2 e=>?_
  rw[<-e] at h
  exact AI 8 (WJ (WL (ab rfl) _) hu) h1 h2 h
 eqBool:=by
  intro A E s x y a b Q hu z z' h
  refine aj z λd h1 h2 e1=>aj z' λd' k1 k2 e2=>?_
  rw[<-e1,<-e2] at h
  refine Jx hu h1 k1 (oL h2) (oL k2) c w E Q ?_
  refine aa (vb h2 k2) ?_;exact h
 quiet:=by
  intro A E s k a Q z h
  refine aj z λd h1 h2 _=>?_
  exact Fq 8 h1 h2 h
noncomputable def NA(i:Int):Value->Bool
 |.int a _=>a==i
 |_=>false
def nW:Str ⊕ Int->Value->Bool
 |.inl x=>uC x
 |.inr i=>NA i
@[elab_as_elim] def oJ{G:Str ⊕ Int->Value->Prop}(h:nW k v)(Q:∀x t,G (.inl x) (.str x t))(Y:∀i t,G (.inr i) (.int i t)):G k v:=by
 obtain x|i:=k
 ·obtain _|_|_|_|_|_|⟨y,t⟩|_|_|_|_:=v
  iterate 6 exact Ws h
  ·exact agQ.mp h▸Q y t
  all_goals exact Ws h
 ·obtain _|_|_|_|⟨j,t⟩|_|_|_|_|_|_:=v
  iterate 4 exact Ws h
  ·exact agQ.mp h▸Y j t
  all_goals exact Ws h
def bk(c:Program)(w:World):KeyKind c w (Str ⊕ Int) where
 is:=nW
 hash:=λk=>match k with|.inl x=>aef w x|.inr i=>adP i
 inj:=by
  intro v a b ha hb
  revert hb
  refine oJ ha (λx t=>?_) (λi t=>?_)
  ·rcases b with y|j
   ·exact λh=>agN Sum.inl<|agQ.mp h
   ·exact λh=>Ws h
  ·rcases b with y|j
   ·exact λh=>Ws h
   ·exact λh=>agN Sum.inr (agQ.mp h)
 byValue:=λk v h=>oJ h (λ_ _=>rfl) λ_ _=>rfl
 pyHash:=by
  intro A E s k v Q hv
  exact oJ hv (λ_ _ h=>afv h) λ_ _ h=>afu h
 eqBool:=by
  intro A E s a b u v Q hu hv
  refine oJ hu (λx t=>oJ hv (λy r h=>?_) λj r h=>?_) λi t=>oJ hv (λy r h=>?_) λj r h=>?_
  ·exact wpAny_eqBool_str (by simpa using h)
  ·exact EqAt.str_int x t j r c w E Q h
  ·exact EqAt.int_str i t y r c w E Q h
  ·exact af1 (by simpa [Bool.beq_eq_decide_eq] using h)
 «strs»:=by
  intro k x t v h
  rcases k with y|i
  ·cases agQ.mp h;cases v<;>rfl
  ·exact Ws h
end
structure Pl where
 a:Addr
 d:Addr
structure aF where
 l:List Pl
 ex:List Addr
instance:GetElem? aF Nat Pl (λP n=>n<P.l.length) where
 getElem P n h:=P.l[n]
 getElem? P n:=P.l[n]?
instance:HAppend aF (List Pl) aF:=⟨λP R=>⟨P.l++R,P.ex⟩⟩
noncomputable def aF.length(P:aF):Nat:=P.l.length
noncomputable def j5(P:aF):List Addr:=P.l.flatMap λp=>[p.a,p.d]
def own(P:aF):List Addr:=j5 P++P.ex
def qm:b∈j5 P↔∃p∈P.l,b=p.a\/b=p.d:=by simp [j5]
def bB(h:b∈j5 P):b∈own P:=W6 _ h
def aD:b∈own P↔b∈j5 P\/b∈P.ex:=WH
def cU(P:aF)(R:List Pl):j5 (P++R)=j5 P++R.flatMap λp=>[p.a,p.d]:=by
 show(P.l++R).flatMap _=_;refine aa List.flatMap_append ?_;rfl
def j8(h:P[B]?=some p):p.a∈j5 P:=qm.mpr ⟨p,X0 h,.inl rfl⟩
def vH(h:P[B]?=some p):p.d∈j5 P:=qm.mpr ⟨p,X0 h,.inr rfl⟩
def g9(h:P[B]?=some p):p.a∈own P:=bB<|j8 h
def nO(h:P[B]?=some p):p.d∈own P:=bB<|vH h
def aF.lt{P:aF}{p:Pl}(h:P[B]?=some p):B<P.length:=(Xb.mp h).1
def aF.left{P:aF}{R:List Pl}(h:B<P.length):(P++R)[B]?=P[B]?:=Yc h
def aF.append_assoc(P:aF)(R r:List Pl):P++R++r=P++(R++r):=by
 show(⟨P.l++R++r,P.ex⟩:aF)=⟨P.l++(R++r),P.ex⟩;rw[Xq]
def aF.append_nil(P:aF):P++([]:List Pl)=P:=by
 show(⟨P.l++[],P.ex⟩:aF)=P;rw[WI]
def aF.length_append(P:aF)(R:List Pl):(P++R).length=P.length+R.length:=Wv
section
variable(W:U3)
inductive VR (h:Heap) (P:aF):Value->V->Prop
 |d {v:Value} {x:D}:DR W h (own P) v x->VR h P v (.d x)
 |loc {n:Nat} {p:Pl}:P[n]?=some p->VR h P (.ref p.a) (.loc n)
abbrev j3(h:Heap)(P:aF):List Value->List V->Prop:=L2<|VR W h P
end
def pH(W:U3)(prog:Program)(w:World)(h:Heap)(a:Addr)(xs:List (D×Addr×Value)):Prop:=
 ∃o es ep,h.get? a=some o/\o.ExactDict/\o.data=.dict es ep/\es.toList=xs.map (@entryOfKey prog w D (Xx D) (nY W prog w))/\(xs.map (·.1)).Nodup
def MK(W:U3)(k:Str ⊕ Int)(d:D):Prop:=(∃i,d=.str i/\k=.inl (W.st i))\/∃i,d=.int i/\k=.inr i
abbrev lJ(W:U3)(h:Heap)(ow:List Addr):List ((Str ⊕ Int)×Value)->List (D×D)->Prop:=L2 λk e=>MK W k.1 e.1/\DR W h ow k.2 e.2
abbrev Ip(W:U3)(h:Heap)(ow:List Addr):List (D×Addr×Value)->List (D×D)->Prop:=L2 λx e=>(DR W h ow (.ref x.2.1) e.1/\kd e.1=2/\e.1.canon=x.1)/\DR W h ow x.2.2 e.2
def dY(W:U3)(prog:Program)(w:World)(h:Heap)(ow:List Addr)(a:Addr)(k:Nat)(es:List (D×D)):Prop:=
 (k<=1/\∃kvs,h.DictOf (bk prog w) a kvs/\lJ W h ow kvs es)\/(k=2/\∃xs,pH W prog w h a xs/\Ip W h ow xs es)
def OR(W:U3)(prog:Program)(w:World)(h:Heap)(P:aF)(p:Pl):O->Prop
 |.list l=>p.d=p.a/\∃vs:List Value,h.PlainList p.a vs.toArray/\vs.length<=lim/\bL W h (own P) vs l
 |.dict k es=>p.d=p.a/\es.length<=lim/\dY W prog w h (own P) p.a k es
 |.inst c fs=>h.get? p.a=some (YY (W.cl c) p.d)/\∃m,h.Ns1 p.d m/\(∀x v,UY fs x=some v->∃u,m (W.nm x)=some u/\VR W h P u v)/\∀y u,m y=some u->∃x∈W.fld,y=W.nm x
 |.eN=>p.d=p.a/\∃a b,h.get? p.a=some {cls:=.type "tuple",data:=.seq #[a,b]}
structure Good (W:U3) (prog:Program) (w:World) (h₀:Heap) (os₀:adF) (h:Heap) (o:adF) (g:Array adQ) (P:aF) (σ:UT):Prop where
 base:∀b o,h₀.get? b=some o->h.get? b=some o
 len:P.length=σ.length
 obj:∀(n:Nat)(p:Pl)(o:O),P[n]?=some p->σ[n]?=some o->OR W prog w h P p o
 apart:∀(i j:Nat)(p q:Pl),P[i]?=some p->P[j]?=some q->i≠j->p.a≠q.a/\p.a≠q.d/\p.d≠q.a/\p.d≠q.d
 off:∀b∈own P,h₀.get? b=none
 gY:∀b∈P.ex,b∉j5 P/\∃o,h.get? b=some o
 os:o=os₀
 gs:g=#[]
structure Step (fr:List Addr) (h:Heap) (P:aF) (h':Heap) (P':aF):Prop where
 pre:∃R:List Pl,P'=P++R
 dH:∀b o,b∉j5 P->b∉fr->h.get? b=some o->h'.get? b=some o
 live:∀b o,h.get? b=some o->∃o',h'.get? b=some o'
 gX:∀b∈j5 P',b∈j5 P\/h.get? b=none
 stays:bq h (own P) h' (own P')
section
variable{W:U3}{f:Program}{w:World}{g h h' L:Heap}{E I:adF}{J:Array adQ}{P t M:aF}{B N:UT}{A:List Addr}
def bq.refl(h:Heap)(l:List Addr):bq h l h l:=λ_ _ G i _=>⟨i,G⟩
def bq.trans(x:bq h l h' r)(y:bq h' r L l''):bq h l L l'':=
 λa o G i p=>ak (x a o G i p) λh1 h2=>y a o h2 h1 p
def Step.refl(A:List Addr)(h:Heap)(P:aF):Step A h P h P:=⟨⟨[],(aF.append_nil P).symm⟩,λ_ _ _ _ e=>e,λ_ o e=>⟨o,e⟩,λ_ hb=> .inl hb,bq.refl _ _⟩
def Step.trans(x:Step A h P h' t)(y:Step A h' t L M):Step A h P L M:=by
 refine af x.pre λR Q=>af y.pre λr T=>⟨⟨R++r,by rw[T,Q,aF.append_assoc]⟩,λb o h1 h2 e=>?_,λb o e=>?_,λb hb=>?_,x.stays.trans y.stays⟩
 ·refine y.dH b o (λq=>?_) h2 (x.dH b o h1 h2 e)
  obtain q|q:=x.gX b q
  ·exact h1 q
  ·rw[e] at q;cases q
 ·exact af (x.live b o e) λz i=>y.live b z i
 ·obtain q|q:=y.gX b hb
  ·exact x.gX b q
  ·refine .inr ?_
   rcases e:h.get? b with _|o
   ·rfl
   ·refine af (x.live b o e) λz i=>?_
    rw[i] at q;cases q
def Step.weaken(x:Step A h P h' t)(i:∀b∈A,b∈T):Step T h P h' t:=
 ⟨x.pre,λb o h1 h2 e=>x.dH b o h1 (λq=>h2<|i b q) e,x.live,x.gX,x.stays⟩
def Step.nil(x:Step [] h P h' t)(A:List Addr):Step A h P h' t:=x.weaken<|by simp
def Step.keep(x:Step A h P h' t)(b:Addr)(o:Obj)(h1:b∉own P)(h2:b∉A)(e:h.get? b=some o):h'.get? b=some o:=x.dH b o (λq=>h1<|bB q) h2 e
def Step.ex(x:Step A h P h' t):t.ex=P.ex:=af x.pre λR e=>by
 clear x;subst e;rfl
def Step.zL(x:Step A h P h' t):∀b∈j5 P,b∈j5 t:=af x.pre λR e=>by
 clear x;subst e;intro b hb;rw[cU];exact W6 _ hb
def Step.qD(x:Step A h P h' t):∀b∈own P,b∈own t:=by
 intro b hb;obtain hb|hb:=aD.mp hb
 ·exact bB (x.zL b hb)
 ·exact aD.mpr (.inr<|x.ex▸hb)
def Step.new(x:Step A h P h' t):∀b∈own t,b∈own P\/h.get? b=none:=by
 intro b hb;obtain hb|hb:=aD.mp hb
 ·exact(x.gX b hb).imp bB id
 ·exact .inl (aD.mpr<|.inr<|x.ex▸hb)
def Step.place(x:Step A h P h' t){n:Nat}{p:Pl}(e:P[n]?=some p):t[n]?=some p:=af x.pre λR i=>by
 clear x;subst i;exact aa (aF.left<|aF.lt e) e
def DR.step(x:DR W h (own P) v d)(s:Step A h P h' t):DR W h' (own t) v d:=x.stays s.stays
def bL.step(x:bL W h (own P) v d)(s:Step A h P h' t):bL W h' (own t) v d:=bL.stays s.stays x
def VR.step(r:VR W h P v x)(s:Step A h P h' t):VR W h' t v x:=by
 obtain r|e:=r
 ·exact .d (r.stays s.stays)
 ·exact .loc (s.place e)
def j3.step(r:j3 W h P vs x)(s:Step A h P h' t):j3 W h' t vs x:=r.mono λ_ _ r=>r.step s
def L2.step(r:L2 (VR W h P) vs x)(s:Step A h P h' t):L2 (VR W h' t) vs x:=r.mono λ_ _ r=>r.step s
def j3.length(r:j3 W h P vs x):vs.length=x.length:=L2.length r
def VR.stays(r:VR W h P v x)(S:bq h (own P) h' (own P)):VR W h' P v x:=by
 obtain r|e:=r
 ·exact .d (r.stays S)
 ·exact .loc e
def VR.dd(r:VR W h P v (.d x)):DR W h (own P) v x:=by cases r with|d r=>exact r
def VR.ll(r:VR W h P v (.loc n)):∃p,P[n]?=some p/\v=.ref p.a:=by cases r with|loc e=>exact⟨_,e,rfl⟩
def Step.ext(Q:∀b o,h.get? b=some o->h'.get? b=some o):Step A h P h' P:=
 ⟨⟨[],(aF.append_nil P).symm⟩,λb o _ _ e=>Q b o e,λb o e=>⟨o,Q b o e⟩,λ_ hb=> .inl hb,λa o G i _=>⟨Q a o i,G⟩⟩
def dY.stays(x:dY W f w h s a k e)(G:h'.get? a=h.get? a)(S:bq h s h' ow'):dY W f w h' ow' a k e:=by
 obtain⟨Q,b,⟨o,e,T,i,r⟩,l⟩|⟨Q,b,⟨o,e,T,i,r⟩,l⟩:=x
 ·exact .inl ⟨Q,b,⟨o,e,T,G.trans i,r⟩,l.mono λ_ _ z=>⟨z.1,z.2.stays S⟩⟩
 ·exact .inr ⟨Q,b,⟨o,e,T,G.trans i,r⟩,l.mono λ_ _ z=>⟨⟨z.1.1.stays S,z.1.2⟩,z.2.stays S⟩⟩
def dY.live(x:dY W f w h r a k e):∃o,h.get? a=some o:=by
 rcases x with⟨_,_,⟨o,_,_,i,_⟩,_⟩|⟨_,_,⟨o,_,_,i,_⟩,_⟩<;>exact⟨o,i⟩
def OR.stays(x:OR W f w h P p o)(G:h'.get? p.a=h.get? p.a)(y:h'.get? p.d=h.get? p.d)(S:bq h (own P) h' (own t))(hP:∀(n:Nat)(p:Pl),P[n]?=some p->t[n]?=some p):OR W f w h' t p o:=by
 obtain l|⟨k,i⟩|⟨c,fs⟩|_:=o
 ·refine dF x λe vs z s r=>?_;refine af z λn Q=>?_
  exact⟨e,vs,⟨n,G.trans Q⟩,s,bL.stays S r⟩
 ·exact aC x λe s r=>⟨e,s,r.stays G S⟩
 ·refine dF x λe m z T b=>?_;refine jn z λo i U j r=>?_
  refine⟨by exact aa G<|e,m,⟨o,i,U,by exact aa y j,r⟩,λx v Y=>?_,b⟩;refine ae (T x v Y) λu h1 h2=>⟨u,h1,?_⟩;clear Y h1;obtain r|e:=h2
  ·exact .d (r.stays S)
  ·exact .loc (hP _ _ e)
 ·exact⟨x.1,by exact aa G x.2⟩
def OR.live(x:OR W f w h P p o):(∃T,h.get? p.a=some T)/\∃T,h.get? p.d=some T:=by
 obtain l|⟨k,i⟩|⟨c,fs⟩|_:=o
 ·exact kO x λe vs z _=>af z λn Q=>⟨⟨_,Q⟩,e▸⟨_,Q⟩⟩
 ·exact aC x λe s r=>⟨r.live,e▸r.live⟩
 ·exact kO x λe m z U=>jn z λo i G j r=>⟨⟨_,e⟩,_,j⟩
 ·exact Fy x λe a b j=>⟨⟨_,j⟩,e▸⟨_,j⟩⟩
namespace Good
def place(G:Good W f w g E h I J P B){n:Nat}(e:B[n]?=some o):∃p,P[n]?=some p/\OR W f w h P p o:=by
 have r:n<P.length:=by exact aa G.len (Xb.mp e).1
 have m:=WS r;exact⟨_,m,G.obj n _ o m e⟩
def at'(G:Good W f w g E h I J P B){n:Nat}{p:Pl}(e:P[n]?=some p):∃o,B[n]?=some o/\OR W f w h P p o:=by
 have m:n<B.length:=by exact av G.len<|aF.lt e
 exact⟨B[n],WS m,G.obj n p _ e<|WS m⟩
def live(G:Good W f w g E h I J P B)(Q:b∈own P):∃o,h.get? b=some o:=by
 obtain Q|Q:=aD.mp Q
 case inr=>exact(G.gY b Q).2
 refine ae (qm.mp Q) λp Y e=>?_;obtain⟨n,m⟩:=aah.mp Y;refine ae (G.at' m) λo _ r=>?_;obtain⟨T,l⟩:=r.live;clear Q;obtain rfl|rfl:=e
 ·exact T
 ·exact l
def fresh(G:Good W f w g E h I J P B)(e:h.get? b=none):b∉own P:=λQ=>by
 refine af (G.live Q) λo i=>?_;rw[i] at e;cases e
def ext(G:Good W f w g E h I J P B)(T:∀b o,h.get? b=some o->h'.get? b=some o):Good W f w g E h' I J P B:=by
 refine⟨λb o e=>T b o<|G.base b o e,G.len,λn p o Y i=>?_,G.apart,G.off,λb Q=>⟨(G.gY b Q).1,af ((G.gY b Q).2) λo e=>⟨o,T b o e⟩⟩,G.os,G.gs⟩;have r:=G.obj n p o Y i;exact cM r.live λz d l=>af z λj c=>r.stays (aa (T _ _ c)<|aa c rfl) (aa (T _ _ l)<|aa l rfl) (λa o U i _=>⟨T a o i,U⟩) λ_ _ e=>e
def lg(G:Good W f w g E h I J P B)(A:List Addr)(d:∀b∈A,b∉own P/\g.get? b=none/\∀o x n,h.get? b=some o->o.data≠ .seq x n)
  (U:∀b o,b∉A->h.get? b=some o->h'.get? b=some o) (T:∀b o,h.get? b=some o->∃y,h'.get? b=some y):Good W f w g E h' I J P B/\Step A h P h' P:=by
 have S:bq h (own P) h' (own P):=λa o c i ⟨x,n,s⟩=>⟨U a o (λq=>(d a q).2.2 o x n i s) i,c⟩;refine⟨⟨λb o e=>U b o (λq=>by rw[(d b q).2.1] at e;cases e) (G.base b o e),G.len,λn p o Y i=>?_,G.apart,G.off,λb Q=>⟨(G.gY b Q).1,af ((G.gY b Q).2) λo e=>T b o e⟩,G.os,G.gs⟩,⟨[],(aF.append_nil P).symm⟩,λb o _ u e=>U b o u e,T,λ_ Q=> .inl Q,S⟩;have r:=G.obj n p o Y i;exact cM r.live λz m l=>af z λk j=>r.stays (aa (U _ _ (λq=>(d _ q).1<|g9 Y) j) (aa j rfl)) (aa (U _ _ (λq=>(d _ q).1<|nO Y) l) (aa l rfl)) S λ_ _ e=>e
def set(G:Good W f w g E h I J P B){n:Nat}{p:Pl}{o:O}(Y:P[n]?=some p)(b:Addr)(Q:b=p.a\/b=p.d)
  (j:Yw b h h') (T:∃k,h'.get? b=some k) (l:bq h (own P) h' (own P)->OR W f w h' P p o):Good W f w g E h' I J P (B.set n o)/\Step [] h P h' P:=by
 have al:b∈j5 P:=by clear j T;obtain rfl|rfl:=Q;exact j8 Y;exact vH Y
 have ac:=bB al;have lv:∀c k,h.get? c=some k->∃ap,h'.get? c=some ap:=λc k e=>by
  by_cases am:c=b
  ·clear Q j al ac;subst am;exact T
  ·exact⟨k,(j.2 c am).trans e⟩
 have S:bq h (own P) h' (own P):=λa k U i _=>⟨(j.2 a λq=>U<|q▸ac).trans i,U⟩;refine⟨⟨λc k e=>(j.2 c (λq=>by rw[q,G.off b ac] at e;cases e)).trans (G.base c k e),by simp [G.len],λm q k v i=>?_,G.apart,G.off,λc u=>⟨(G.gY c u).1,af ((G.gY c u).2) λo e=>lv c o e⟩,G.os,G.gs⟩,
  ⟨[],(aF.append_nil P).symm⟩,λc k s _ e=>(j.2 c λq=>s<|q▸al).trans e,lv,λ_ Q=> .inl Q,S⟩
 ·by_cases ag:n=m
  ·subst ag
   rw[Y] at v;cases v;have:n<B.length:=by exact av G.len<|aF.lt Y
   rw[abr this] at i;cases i;exact l S
  ·rw[abP ag] at i
   have r:=G.obj m q k v i;refine aV (G.apart n m p q Y v ag) λx y z a4=>r.stays (j.2 _ ?_) (j.2 _ ?_) S λ_ _ e=>e
   ·clear j T al ac;obtain rfl|rfl:=Q
    ·exact YK x
    ·exact YK z
   ·clear j T al ac;obtain rfl|rfl:=Q
    ·exact YK y
    ·exact YK a4
def new(G:Good W f w g E h I J P B){p:Pl}{o:O}(T:∀b o,h.get? b=some o->h'.get? b=some o)(U:h.get? p.a=none)(c:h.get? p.d=none)
  (y:bq h (own P) h' (own (P++[p]))->OR W f w h' (P++[p]) p o):Good W f w g E h' I J (P++[p]) (B++[o])/\Step [] h P h' (P++[p])/\(P++[p])[B.length]?=some p:=by
 have a0:j5 (P++[p])=j5 P++[p.a,p.d]:=by rw[cU];rfl
 have al:∀b,b∈own (P++[p])->b∈own P\/b=p.a\/b=p.d:=λb Q=>by
  obtain Q|Q:=aD.mp Q
  ·rw[a0] at Q
   obtain Q|Q:=WH.mp Q
   ·exact .inl (bB Q)
   ·right;simpa using Q
  ·exact .inl (aD.mpr<|.inr Q)
 have S:bq h (own P) h' (own<|P++[p]):=λa v q k _=>⟨T a v k,by
  intro Y;obtain Y|rfl|rfl:=al a Y
  ·exact q Y
  ·rw[U] at k;cases k
  ·rw[c] at k;cases k⟩
 have am:∀(n:Nat)(q:Pl),P[n]?=some q->(P++[p])[n]?=some q:=λn q e=>by exact aa (aF.left<|aF.lt e) e
 have s:=G.base;have e0:∀b,h.get? b=none->g.get? b=none:=λb e=>by
  rcases e':g.get? b with _|o
  ·rfl
  ·rw[s b o e'] at e;cases e
 have ag:∀(n:Nat)(q:Pl),(P++[p])[n]?=some q->(P[n]?=some q)\/(n=P.length/\q=p):=λn q e=>by
  obtain m|m|m:=ach n P.length
  ·left;rwa [aF.left m] at e
  ·right;subst m
   have e:(P.l++[p])[P.l.length]?=some q:=e;simp at e;exact⟨rfl,e.symm⟩
  ·have e:=e
   have m:=m;exact no<|(XW<|by exact aa Wv m).symm.trans e
 have ap:∀(n:Nat)(q:Pl),P[n]?=some q->p.a≠q.a/\p.a≠q.d/\p.d≠q.a/\p.d≠q.d:=λn q e=>by
  have m:=G.fresh U;have u:=G.fresh c;exact⟨λz=>m<|z▸g9 e,λz=>m<|z▸nO e,λz=>u<|z▸g9 e,λz=>u<|z▸nO e⟩
 have a5:(P++[p])[B.length]?=some p:=by
  refine av G.len ?_;show(P.l++[p])[P.l.length]?=some p;simp
 refine⟨⟨λb v e=>T b v<|G.base b v e,by rw[aF.length_append,G.len];simp,λn q v x k=>?_,λi j q r x ax ar=>?_,λb Q=>?_,λb Q=>?_,G.os,G.gs⟩,
  ⟨⟨[p],rfl⟩,λb v _ _ e=>T b v e,λb v e=>⟨v,T b v e⟩,λb Q=>?_,S⟩,a5⟩
 ·clear U c a0 al ap a5;obtain aw|⟨rfl,rfl⟩:=ag n q x
  ·have:n<B.length:=by refine av G.len ?_;exact aF.lt aw
   rw[Yc this] at k;have r:=G.obj n q v aw k;exact cM r.live λac o2 l2=>af ac λo1 l1=>r.stays (aa (T _ _ l1)<|aa l1 rfl) (aa (T _ _ l2)<|aa l2 rfl) S am
  ·rw[G.len] at k;simp at k;subst k
   exact y S
 ·clear U c y a0 al S am a5;rcases ag i q x with aw|⟨rfl,rfl⟩<;>obtain a6|⟨rfl,rfl⟩:=ag j r ax
  ·exact G.apart i j q r aw a6 ar
  ·exact aV (ap i q aw) λa1 a2 a3 a4=>⟨YK a1,YK a3,YK a2,YK a4⟩
  ·exact ap j r a6
  ·exact(ar rfl).elim
 ·obtain Q|rfl|rfl:=al b Q
  ·exact G.off b Q
  ·exact e0 _ U
  ·exact e0 _ c
 ·refine cM (G.gY b Q) λm o u=>⟨λq=>?_,o,T b o u⟩
  rw[a0] at q;obtain q|q:=WH.mp q
  ·exact m q
  ·simp only[Wo,WW,or_false] at q
   clear Q m;obtain rfl|rfl:=q
   ·rw[U] at u;cases u
   ·rw[c] at u;cases u
 ·rw[a0] at Q
  obtain Q|Q:=WH.mp Q
  ·exact .inl Q
  ·simp only[Wo,WW,or_false] at Q
   obtain rfl|rfl:=Q
   ·exact .inr U
   ·exact .inr c
end Good
end
def dG(L:Ev)(x:Nat)(v:V)(y:Nat):UY (put L x v) y=if y=x then some v else UY L y:=by
 induction L with
 |nil=>
  show(if x==y then some v else none)=if y=x then some v else none
  by_cases h:y=x
  ·rw[agO h,agO<|agQ.mpr h.symm]
  ·rw[agP h,agP λe=>h (agQ.mp e).symm]
 |cons p r i=>
  obtain⟨z,u⟩:=p;show UY (if z==x then (z,v)::r else (z,u)::put r x v) y=if y=x then some v else if z==y then some u else UY r y
  by_cases s:z=x
  ·rw[agO<|agQ.mpr s]
   show(if z==y then some v else UY r y)=_;by_cases h:y=x
   ·rw[agO h,agO<|agQ.mpr<|s.trans h.symm]
   ·rw[agP h,agP λe=>h<|(agQ.mp e).symm.trans s,agP λe=>h<|(agQ.mp e).symm.trans s]
  ·rw[agP λe=>s<|agQ.mp e]
   show(if z==y then some u else UY (put r x v) y)=_;rw[i];by_cases h:z=y
   ·rw[agO<|agQ.mpr h,agP λe=>s<|h.trans e,agO<|agQ.mpr h]
   ·exact aa (agP λe=>h<|agQ.mp e) (aa (agP λe=>h<|agQ.mp e) rfl)
structure mD (W:U3) (h₀ h:Heap) (P:aF) (fr:List Addr) (sc:List (Str×NameKind)) (env:Env) (ρ:Ev):Prop where
 kind:env.scope.kind=.function
 globals:env.globals=adH
 builtins:env.builtins=adW
 loc:∀s,sc.lookup s=some .local->env.kindOf s=some .local
 CX:∀s,sc.lookup s=some .cell->env.kindOf s=some .cell/\∃c,env.cells.lookup s=some c/\c∈fr
 xN:∀s,sc.lookup s=some .free->(env.kindOf s=some .cell\/env.kindOf s=some .free)/\∃c,env.cells.lookup s=some c
 F8:∀s,sc.lookup s=some .globalImplicit->env.kindOf s=some .globalImplicit
 ns:∃m,h.Ns env.locals m/\∀x v,UY ρ x=some v->sc.lookup (W.nm x)=some .local->∃u,m (W.nm x)=some u/\VR W h P u v
 cells:∀x v,UY ρ x=some v->sc.lookup (W.nm x)=some .cell\/sc.lookup (W.nm x)=some .free->∃c u,env.cells.lookup (W.nm x)=some c/\h.IsCell c (some u)/\VR W h P u v
 de:∀s c,env.cells.lookup s=some c->(∃v,h.IsCell c v)/\c∉own P
 apart:∀s s' c,env.cells.lookup s=some c->env.cells.lookup s'=some c->s=s'
 eH:env.locals∈fr
 eC:∀b∈fr,b∉own P/\h₀.get? b=none/\(∃o,h.get? b=some o)/\∀o xs n,h.get? b=some o->o.data≠ .seq xs n
section
variable{W:U3}{g:Program}{w:World}{f h i:Heap}{I:adF}{P B:aF}{J:UT}{j:List Addr}{l:List (Str×NameKind)}{a:Env}{p:Ev}
def mD.step(N:mD W f h P j l a p)(S:Step [] h P i B):mD W f i B j l a p:=by
 have off:∀b,b∉own P->(∃o,h.get? b=some o)->b∉own B:=λb hb ⟨o,y⟩ q=>by
  obtain q|q:=S.new b q
  ·exact hb q
  ·rw[y] at q;cases q
 have cell:∀s c v,a.cells.lookup s=some c->h.IsCell c v->i.IsCell c v:=λs c v t ⟨o,y,z⟩=>
  ⟨o,S.keep c o (N.de s c t).2 (by simp) y,z⟩
 refine⟨N.kind,N.globals,N.builtins,N.loc,N.CX,N.xN,N.F8,?_,?_,?_,N.apart,N.eH,?_⟩
 ·refine ae N.ns λm Q r=>⟨m,Q.at' λo e=>S.keep _ o (N.eC _ N.eH).1 (by simp) e,λx v h1 h2=>?_⟩
  exact ae (r x v h1 h2) λu Y d=>⟨u,Y,d.step S⟩
 ·intro x v h1 h2
  exact aq (N.cells x v h1 h2) λc u Y d L=>⟨c,u,Y,cell _ _ _ Y d,L.step S⟩
 ·intro s c t
  refine ak (N.de s c t) λG h2=>?_;obtain⟨v,h1⟩:=G;exact⟨⟨v,cell s c v t h1⟩,off c h2<|ae h1 λo y _=>⟨o,y⟩⟩
 ·intro b hb
  refine aV (N.eC b hb) λh1 h2 G d=>af G λo Y=>?_;have e:=S.keep b o h1 (by simp) Y;refine⟨off b h1 ⟨o,Y⟩,h2,⟨o,e⟩,λA k n E=>?_⟩;rw[e] at E;cases E;exact d o k n Y
variable{M:Model}{A:adC}{E:Value->adx->Prop}{s:adx}
def xM(N:mD W f s.heap P j l a p)(b:UY p x=some v)(T:l.lookup (W.nm x)=some k)
  (r:k=.local\/k=.cell\/k=.free) (q:∀u,VR W s.heap P u v->Q u s):adA M A (eval (.Name (W.nm x) o) a) Q E s:=ak (W.nm_ok x) λe t=>by
 obtain rfl|rfl|rfl:=r
 ·exact ae N.ns λm U n=>ae (n x v b T) λu Y d=>ae5 (af2 N.kind (N.loc _ T) U Y<|q u d) e
 ·exact aq (N.cells x v b<|.inl T) λc u Y d L=>ae5 (af3 N.kind (N.CX _ T).1 Y d<|q u L) e
 ·refine aq (N.cells x v b<|.inr T) λc u Y d L=>?_
  obtain z|z:=(N.xN _ T).1
  ·exact ae5 (af3 N.kind z Y d<|q u L) e
  ·exact ae5 (af4 N.kind z Y d (q u L) t) e
def eF(G:Good W g w f I s.heap s.os s.gens P J)(N:mD W f s.heap P j l a p)
  (hk:l.lookup (W.nm x)=some .local\/l.lookup (W.nm x)=some .cell) (r:VR W s.heap P u v)
  (q:∀s',Good W g w f I s'.heap s'.os s'.gens P J->Step j s.heap P s'.heap P->mD W f s'.heap P j l a (put p x v)->Q () s'):
  adA M A (afw a (W.nm x) u) Q E s:=by
 obtain hk|hk:=hk
 ·refine ae N.ns λm hm hx=>?_
  refine wpAny_storeName_local (N.loc _ hk) hm (λi aw am=>?_) (by refine aa N.kind ?_;rfl);refine bK (id hm) λo es ep ho hd _=>bK (id aw) λo' al a3 ap ax _=>?_;have a9:=N.eC _ N.eH;obtain⟨G',Y⟩:=G.lg [a.locals] (λb U=>by
    exact aa (Wj.mp U) ⟨a9.1,a9.2.1,a9.2.2.2⟩)
   (λb o U e=>(am.2 b<|by simpa using U).trans e) (λb o e=>by
    by_cases U:b=a.locals
    ·clear e;subst U;exact⟨_,ap⟩
    ·exact⟨o,(am.2 b U).trans e⟩)
  have S:Step j s.heap P i P:=Y.weaken<|by simp [N.eH]
  have ag:∀c v,s.heap.IsCell c v->i.IsCell c v:=λc v ⟨oc,hc,a5⟩=>⟨oc,(am.2 c (λe=>by
   subst e;rw[ho] at hc;cases hc;rw[hd] at a5;cases a5)).trans hc,a5⟩
  refine q _ G' S ⟨N.kind,N.globals,N.builtins,N.loc,N.CX,N.xN,N.F8,⟨_,aw,λy v' L T=>?_⟩,λy v' L T=>?_,λt c hc=>?_,N.apart,N.eH,λb U=>?_⟩
  ·rw[dG] at L
   by_cases hy:y=x
   ·clear q hk aw;subst hy
    rw[agO rfl] at L;cases L;exact⟨u,agO rfl,r.step S⟩
   ·rw[agP hy] at L
    exact ae (hx y v' L T) λz h3 h4=>⟨z,by exact aa (agP λe=>hy<|W.jD _ _ e)<|h3,h4.step S⟩
  ·rw[dG] at L
   by_cases hy:y=x
   ·clear q aw L;subst hy;rw[hk] at T;simp at T
   ·rw[agP hy] at L
    exact aq (N.cells y v' L T) λc z h3 h4 h5=>⟨c,z,h3,ag _ _ h4,h5.step S⟩
  ·obtain⟨⟨z,L⟩,T⟩:=N.de t c hc
   exact⟨⟨z,ag _ _ L⟩,T⟩
  ·refine aV (N.eC b U) λL T ac h4=>?_;obtain⟨ob,h3⟩:=ac
   by_cases a2:b=a.locals
   ·clear U h4 h3;subst a2
    refine⟨L,T,⟨_,ap⟩,λa6 k n e=>?_⟩;have e':=e;rw[ap] at e';clear e;cases e';exact aa ax nofun
   ·exact⟨L,T,⟨ob,(am.2 b a2).trans h3⟩,λa6 k n e=>h4 a6 k n<|(am.2 b a2).symm.trans e⟩
 ·refine kO (N.CX _ hk) λa0 c hc bi=>?_
  refine ak (N.de _ c hc) λbe a4=>?_;obtain⟨cb,a7⟩:=be;have bm:=(N.eC c bi).2.1;refine wpAny_storeName_cell N.kind a0 hc a7 λi aw am=>ae (id a7) λoc bl a5=>ae (id aw) λca a8 bu=>?_;clear a7;obtain⟨G',Y⟩:=G.lg [c] (λb U=>by
    exact aa (Wj.mp U) ⟨a4,bm,λo k n e=>by rw[bl] at e;cases e;exact aa a5 nofun⟩)
   (λb o U e=>(am.2 b<|by simpa using U).trans e) (λb o e=>by
    by_cases U:b=c
    ·subst U;exact⟨_,a8⟩
    ·exact⟨o,(am.2 b U).trans e⟩)
  have S:Step j s.heap P i P:=Y.weaken<|by simp [bi]
  refine ae N.ns λm hm hx=>?_;have bn:a.locals≠c:=by
   rintro rfl;refine bK hm λo es ep ho hd _=>?_;rw[bl] at ho;cases ho;rw[a5] at hd;cases hd
  refine q _ G' S ⟨N.kind,N.globals,N.builtins,N.loc,N.CX,N.xN,N.F8,⟨m,hm.sameBut am bn,λy v' L T=>?_⟩,λy v' L T=>?_,λt d hd=>?_,N.apart,N.eH,λb U=>?_⟩
  ·rw[dG] at L
   by_cases hy:y=x
   ·clear q a0 hc L;subst hy;rw[hk] at T;simp at T
   ·rw[agP hy] at L
    exact ae (hx y v' L T) λz h3 h4=>⟨z,h3,h4.step S⟩
  ·rw[dG] at L
   by_cases hy:y=x
   ·clear q hk a0;subst hy
    rw[agO rfl] at L;cases L;exact⟨c,u,hc,aw,r.step S⟩
   ·rw[agP hy] at L
    refine aq (N.cells y v' L T) λd z h3 h4 h5=>?_;have bv:d≠c:=λe=>hy<|W.jD _ _<|N.apart _ _ c (e▸h3) hc;exact⟨d,z,h3,h4.sameBut am bv,h5.step S⟩
  ·by_cases ar:d=c
   ·subst ar;exact⟨⟨_,aw⟩,a4⟩
   ·exact ak (N.de t d hd) λbe T=>af be λz L=>⟨⟨z,L.sameBut am ar⟩,T⟩
  ·refine aV (N.eC b U) λL T ac h4=>?_;obtain⟨ob,h3⟩:=ac
   by_cases a2:b=c
   ·subst a2
    refine⟨L,T,⟨_,a8⟩,λa6 k n e=>?_⟩;have e':=e;rw[a8] at e';clear e;cases e';exact aa bu nofun
   ·exact⟨L,T,⟨ob,(am.2 b a2).trans h3⟩,λa6 k n e=>h4 a6 k n<|(am.2 b a2).symm.trans e⟩
end
structure Lb where
 gn:Nat->Str
 fn:Nat->Str
 cn:Nat->Str
 an:Nat->Str
inductive KR (st:Nat->Str):D->aeq->Prop
 |none:KR st .none .none
 |bool (b:Bool):KR st (.bool b) (.bool b)
 |int (i:Int):KR st (.int i) (.int i)
 |str (i:Nat):KR st (.str i) (.str (st i))
structure Wd where
 W:U3
 N:Lb
 T:Va
 prog:Program
 w:World
 h₀:Heap
 K:Frag
 mg:Str->Option Value
 mb:Str->Option Value
 X:K.In h₀
 lim:h₀.NoLimit
 g:h₀.Ns adH mg
 b:h₀.Ns adW mb
 bu:∀x:Str,x≠"__name__"->mb x=aeR x
 sys:∃o,h₀.get? adX=some o
 yN:∀i es,T.yN i=some es->dY W prog w h₀ [] (W.gd i) 0 es/\(W.gd i==adX)=false
 chars:∀k cs,T.chars k=some cs->(W.st k).cps.size=cs.length/\∀(j c:Nat),cs[j]?=some c->∃cp,(W.st k).cps[j]?=some cp/\W.st c=⟨#[cp]⟩
 my:∀k c,T.my k=some c->W.st c=⟨((W.st k).cps.toList.take 7).toArray⟩
 short:∀k,(T.chars k).isSome\/(T.my k).isSome->(W.st k).cps.size<=1000000
 gt:∀x d,T.gt x=some d->∃v,mg (N.gn x)=some v/\DR W h₀ [] v d
 os:adF
abbrev Gt(Z:Wd)(h:Heap)(o:adF)(g:Array adQ)(P:aF)(σ:UT):Prop:=Good Z.W Z.prog Z.w Z.h₀ Z.os h o g P σ
abbrev Gd(Z:Wd)(s:adx)(P:aF)(σ:UT):Prop:=Gt Z s.heap s.os s.gens P σ
abbrev Sm(s T:adx):Prop:=T.os=s.os/\T.gens=s.gens
def Sm.of(x:∃h t,I={s with heap:=h,toks:=t}):Sm s I:=x.elim λ_ x=>x.elim λ_ e=>e▸⟨rfl,rfl⟩
def Sm.trans(x:Sm s T)(y:Sm T A):Sm s A:=⟨y.1.trans x.1,y.2.trans x.2⟩
def Good.sm(G:Gt Z h o g P t)(m:y=o/\E=g):Gt Z h y E P t:=by obtain rfl:=m.1;obtain rfl:=m.2;exact G
abbrev En(Z:Wd)(h:Heap)(P:aF)(fr:List Addr)(sc:List (Str×NameKind))(env:Env)(ρ:Ev):Prop:=mD Z.W Z.h₀ h P fr sc env ρ
def zd(Z:Wd)(A:adC)(fr:List Addr){L:Type}(t:Sem L)(s:adx)(P:aF)(Y:UT)(R:L->Heap->aF->Prop):Prop:=
 ∀(Q:L->adx->Prop)(E:Value->adx->Prop),(∀a T p,Gd Z T p Y->Step fr s.heap P T.heap p->R a T.heap p->Q a T)->adA (adB Z.prog Z.w) A t Q E s
def nE(Z:Wd)(A:adC){L:Type}(t:Sem L)(s:adx)(R:L->Heap->Prop):Prop:=
 ∀(Q:L->adx->Prop)(E:Value->adx->Prop),(∀a T,(∀b o,s.heap.get? b=some o->T.heap.get? b=some o)->Sm s T->R a T.heap->Q a T)->adA (adB Z.prog Z.w) A t Q E s
section
variable{Z:Wd}{A:adC}{m:List Addr}{B I:Type}{s:adx}{P:aF}{j t z:UT}{h J:Heap}{y:Ev}{l:List (Str×NameKind)}{f:Env}
def Good.X(G:Gt Z h o g P j):Z.K.In h:=Z.X.keeps G.base
def Good.g{g:Array adQ}(G:Gt Z h o g P j):h.Ns adH Z.mg:=Z.g.keeps G.base
def Good.b{g:Array adQ}(G:Gt Z h o g P j):h.Ns adW Z.mb:=Z.b.keeps G.base
def Good.top{g:Array adQ}(G:Gt Z h o g P j)(r:DR Z.W Z.h₀ [] v d):DR Z.W h (own P) v d:=
 r.stays λa o _ i _=>⟨G.base a o i,λhb=>by rw[G.off a hb] at i;cases i⟩
def Good.AJ{g:Array adQ}(G:Gt Z h o g P j){n:Nat}(e:P[n]?=some p):(p.a==adX)=false:=af Z.sys λo i=>agV.mpr λq=>by
 have:=G.off p.a<|g9 e;rw[q,i] at this;cases this
def Good.yN{g:Array adQ}(G:Gt Z h o g P j){i:Nat}{E:List (D×D)}(e:Z.T.yN i=some E):dY Z.W Z.prog Z.w h (own P) (Z.W.gd i) 0 E/\(Z.W.gd i==adX)=false:=by
 exact ak (Z.yN i E e) λR n=>af R.live λo k=>⟨R.stays ((G.base _ _ k).trans k.symm) λa o _ k _=>⟨G.base a o k,λhb=>by rw[G.off a hb] at k;cases k⟩,n⟩
def jR(G:Gd Z s P j)(N:En Z s.heap P m l f y)(i:l.lookup x=some .globalImplicit)
  (Y:(x==("__debug__":Str))=false) (e:Z.mg x=some v) (q:Q v s):adA (adB Z.prog Z.w) A (eval (.Name x p) f) Q E s:=
 af5 N.kind (N.F8 _ i) (loadGlobal_global (by exact aa N.globals G.g) e q) Y
def Cp(G:Gd Z s P j)(N:En Z s.heap P m l f y)(i:l.lookup x=some .globalImplicit)
  (a:(x==("__debug__":Str))=false) (e:Z.mg x=none) (Y:aeR x=some v) (n:x≠"__name__") (q:Q v s):adA (adB Z.prog Z.w) A (eval (.Name x p) f) Q E s:=
 af5 N.kind (N.F8 _ i) (af6 (by exact aa N.globals G.g) e (by exact aa N.builtins G.b) ((Z.bu x n).trans Y) q) a
def sV(G:Gd Z s P j)(n:KR Z.W.st d c):zd Z A m (eval (.Constant c k p) f) s P j λu h P=>VR Z.W h P u (.d d):=by
 intro Q E q;rw[af7];cases n with
 |none=>exact ady<|q _ s P G (Step.refl ..)<|.d .none
 |bool=>exact ady<|q _ s P G (Step.refl ..)<|.d<|.bool _
 |int=>exact wpAny_mkInt<|q _ {s with toks:=s.toks+1} P G (Step.refl ..) (.d<|.int _ _)
 |str=>exact af8<|q _ {s with toks:=s.toks+1} P G (Step.refl ..) (.d<|.str rfl)
end
def gu{i:Int}(h:(i.natAbs:Int)<big):i.natAbs.log2<3400:=by
 by_cases n:i.natAbs=0
 ·refine aa n ?_;decide+kernel
 ·rw[adj n]
  have m:i.natAbs<10^1000:=by
   exact XX.mp h
  exact ZL m<|by decide+kernel
def mu(h:qk i):(i.natAbs:Int)<big:=by
 refine XX.mpr<|WJ (m:=1000001) ?_<|by decide+kernel
 obtain n|n:=i
 ·exact Y2 (Wi h)
 ·exact WB (Wi h)
def fb(e:(match b with|true=>some c|false=>none)=some d):b=true/\c=d:=by
 cases b
 ·cases e
 ·exact⟨rfl,Wn e⟩
def jQ{i j:Int}(T:(i.natAbs:Int)<big)(d:(j.natAbs:Int)<big):IntMulOk i j:=by
 have a:=gu T;have b:=gu d;unfold IntMulOk;have e:abj (YL i+YL j)=false:=by
  have B:∀{k:Int},k.natAbs.log2<3400->YL k<=3400:=by
   intro k M;unfold YL
   split
   ·exact ab rfl
   ·exact M
  have h:=B a;have t:=B b;have Q:(6800:Int)<=(bitsLine:Nat):=by decide+kernel
  unfold abj;refine agY ?_;intro m;have u:((YL i+YL j:Nat):Int)>(bitsLine:Nat):=m;exact Kr h t Q m
 rw[e,ZP];decide
section
variable{Z:Wd}{A:adC}{s:adx}{g:List Addr}{u v:Value}
def DR.ext(M:∀b o,h.get? b=some o->G.get? b=some o)(r:DR W h g x d):DR W G g x d:=
 r.stays λa o I f _=>⟨M a o f,I⟩
def bL.ext(M:∀b o,h.get? b=some o->G.get? b=some o)(r:bL W h g x d):bL W G g x d:=
 r.stays λa o I f _=>⟨M a o f,I⟩
def iH(L:h.objs.size∉g)(J:i.length<=lim)(r:bL W h g i l):
  DR W (h.push {cls:=.type "tuple",data:=.seq i.toArray}) g (.ref h.objs.size) (.tup l):=
 .tup ⟨0,WA _ rfl⟩ L J (r.ext λ_ _ e=>Wx _ e)
def kM(L:h.objs.size∉g)(J:i.length<=lim)(r:bL W h g i l):
  DR W (h.push {cls:=.type "list",data:=.seq i.toArray}) g (.ref h.objs.size) (.lst l):=
 .lst ⟨0,WA _ rfl⟩ L J (r.ext λ_ _ e=>Wx _ e)
def cA(G:Good W p w x i h y T P t):h.objs.size∉own P:=by
 refine G.fresh ?_;rcases e:h.get? h.objs.size with _|o
 ·rfl
 ·exact agR (WU e) (YM _)
def bX(h:Heap):h.get? h.objs.size=none:=by
 rcases e:h.get? h.objs.size with _|o
 ·rfl
 ·exact agR (WU e) (YM _)
def ba(h:n<=lim):n<=sizeLine:=by refine aa adJ ?_;unfold lim at h;exact cy h rfl
def Ew(L:s.heap.objs.size∉g)(o:nA s.heap a i.toArray)(t:a∉g)(Y:i.length<=lim)(r:bL Z.W s.heap g i l)(c:nA s.heap b G.toArray)(B:b∉g)(x:G.length<=lim)(k:bL Z.W s.heap g G m)
  (T:l.length+m.length<=lim):nE Z A (aer .Add (.ref a) (.ref b)) s (λr h=>DR Z.W h g r (.tup (l++m))):=by
 intro Q E q;refine af (id o) λn M=>af (id c) λN I=>?_;obtain _|⟨v,i⟩:=i
 ·clear T;cases r
  exact af9 ⟨_,M,rfl⟩ ⟨_,I,rfl⟩ aga agb acV acN (acC _ _) (AutoSeq1.tuple___add___tuple_tuple_0 a _ n b _ N rfl) ⟨M,I,q _ s (λ_ _ e=>e) ⟨rfl,rfl⟩ (.tup c B x k)⟩
 ·clear c x;obtain _|⟨w,G⟩:=G
  ·clear T;cases k
   exact af9 ⟨_,M,rfl⟩ ⟨_,I,rfl⟩ aga agb acV acN (acC _ _) (AutoSeq1.tuple___add___tuple_tuple_1 a _ n b _ N (λh=>Ws h) rfl) ⟨M,I,q _ s (λ_ _ e=>e) ⟨rfl,rfl⟩ (by rw[WI];exact .tup o t Y r)⟩
  ·have J:(v::i).length+(w::G).length<=lim:=by refine aa r.length<|aa k.length ?_;exact T
   refine P.add_tuple M I (X1) (X1) (q _ {s with heap:=_} (λ_ _ e=>Wx _ e) ⟨rfl,rfl⟩ ?_) (ba J);rw[aap];exact iH L (by exact aa Wv J) (r.append k)
def vn(L:s.heap.objs.size∉g)(o:kI s.heap a i.toArray)(r:bL Z.W s.heap g i l)(Y:kI s.heap b w.toArray)(k:bL Z.W s.heap g w m)
  (T:l.length+m.length<=lim):nE Z A (aer .Add (.ref a) (.ref b)) s (λr h=>DR Z.W h g r (.lst (l++m))):=by
 intro Q E q;refine af o λn o=>af Y λN Y=>?_;have J:i.length+w.length<=lim:=by refine aa r.length<|aa k.length ?_;exact T
 refine P.add_list o Y (q _ {s with heap:=_} (λ_ _ e=>Wx _ e) ⟨rfl,rfl⟩ ?_) (ba J);rw[aap];exact kM L (by exact aa Wv J) (r.append k)
def Av(L:s.heap.objs.size∉g)(z:DR Z.W s.heap g u a)(G:DR Z.W s.heap g v b)(e:Ag a b=some c):nE Z A (aer .Add u v) s (λr h=>DR Z.W h g r c):=by
 obtain _|_|i|_|_|_|x|x:=a;iterate 2 exact no e
 ·refine fZ e λj n f=>?_;clear e;subst f
  refine af z.cW λt f=>?_;clear z;subst f;obtain⟨p,rfl⟩:=(bj n▸G).cW;exact λQ E q=>wpAny_add_int<|q _ {s with toks:=s.toks+1} (λ_ _ e=>e) ⟨rfl,rfl⟩ (.int _ _)
 iterate 3 exact no e
 ·refine cB e λy d e=>ak (fs e) λT e=>az z.eD λa l f m w Y r=>?_;clear z;subst f
  refine az ((gL d▸G).eD) λb J f o B I k=>?_;clear G;subst f;exact Wn e▸Ew L m w Y r o B I k T
 ·refine cB e λy d e=>ak (fs e) λT e=>az z.eX λa l f m w Y r=>?_;clear z;subst f
  refine az ((xw d▸G).eX) λb J f o B I k=>?_;clear G;subst f;exact Wn e▸vn L m r o k T
def xZ(w:Value)(a:Array Value):∀k,List.foldl (λY x=>Y++x) a (Yg k [w].toArray)=a++(Yg k w).toArray:=by
 intro k
 induction k generalizing a with
 |zero=>exact Array.append_empty.symm
 |succ k i=>rw[abV,Zj,i,abV,Array.append_assoc];exact agN (a++·)<|Array.ext' (Array.toList_append ..)
def Et(r:DR Z.W h g w d):∀k,bL Z.W h g (Yg k w) (Yg k d):=by
 intro z
 induction z with
 |zero=>
  exact .nil
 |succ k i=>
  exact .cons r<|i
def VL(L:s.heap.objs.size∉g)(z:DR Z.W s.heap g u (.lst [x]))(o:0<=a)(B:a<=64):nE Z A (aer .Mult u (.int a t)) s (λr h=>DR Z.W h g r (.lst (Yg a.toNat x))):=by
 intro Q E q;refine az z.eX λl i G I y Y r=>?_;obtain rfl:=G;obtain⟨n,m⟩:=I;clear Y;obtain⟨w,_,rfl,U,r⟩:=r.bZ;rw[r.dZ] at m;have d:=Xe o;refine wpAny_binaryOp_repeat_ref rfl ⟨_,m,rfl⟩ (λT=>afx T a t) noFill_list_mul F.fills_int_mul ac3 repeat_list F.slot_int_index.lookup
  (aeD ac3 (afx s a t) F.entry_int_rmul (F.args_int_rmul_2 _ _) (int___rmul___int_list a t l [w].toArray n)
  ⟨m,rfl,⟨_,m,rfl⟩,aeD F.slot_list_mul ⟨_,m,rfl⟩ F.entry_list_mul (F.args_list_mul_2 _ _)
   (adu l [w].toArray n a t (by simp [Builtin.List.listFitsIndex];exact⟨HD o rfl,Qa B rfl⟩) (by simp;exact EC B rfl) (by simp [ZU,sizeLine];exact EC B rfl))
   ⟨m,q _ {s with heap:=_} (λ_ _ e=>Wx _ e) ⟨rfl,rfl⟩ ?_⟩⟩)
 exact aa ((xZ w #[] a.toNat).trans Array.empty_append)<|kM L (by exact aa Y1<|Lq o B) (Et U _)
def Bm(L:s.heap.objs.size∉g)(w:DR Z.W s.heap g u a)(G:DR Z.W s.heap g v b)(e:LY a b=some c):nE Z A (aer .Mult u v) s (λr h=>DR Z.W h g r c):=by
 obtain _|_|i|_|_|_|_|l:=a;iterate 2 exact no e
 ·refine cB e λj d e=>ak (fb e) λT e=>?_
  have T:=an T;refine af w.cW λt f=>?_;clear w;subst f;refine af ((bj d▸G).cW) λn k=>?_;obtain rfl:=k;exact e▸λQ E q=>P.mul_int (q _ {s with toks:=s.toks+1} (λ_ _ e=>e) ⟨rfl,rfl⟩ (.int _ _)) (jQ (mu T.1)<|mu T.2)
 iterate 4 exact no e
 ·match l,e with
  |[x],e=>
   refine cB e λj d e=>ak (fs e) λT e=>af ((bj d▸G).cW) λn f=>?_;clear G;subst f;exact Wn e▸VL L w T.1 T.2
def Ba(r:DR Z.W s.heap g u a)(G:DR Z.W s.heap g v b)(e:ii a b f=some c):∃i k t n,u=.int i t/\v=.int k n/\f i k=some c:=cB e λi T e=>cB e λk d e=>af ((bj T▸r).cW) λt h=>af ((bj d▸G).cW) λn w=>⟨i,k,t,n,h,w,e⟩
def zh(L:s.heap.objs.size∉g)(w:DR Z.W s.heap g u a)(G:DR Z.W s.heap g v b)(e:MH B a b=some c):
  nE Z A (aer (VC B) u v) s (λr h=>DR Z.W h g r c):=by
 match B,e with
 |0,e=>exact Av L w G e
 |1,e=>
  refine bQ (Ba w G e) λi j t n f p e=>?_;clear w;subst f;clear G;subst p;exact Wn e▸λQ E q=>P.sub_int<|q _ {s with toks:=s.toks+1} (λ_ _ e=>e) ⟨rfl,rfl⟩ (.int _ _)
 |2,e=>exact Bm L w G e
 |3,e=>
  refine bQ (Ba w G e) λi j t n f p e=>?_;clear w;subst f;clear G;subst p;exact ak (fs e) λT e=>Wn e▸λQ E q=>mod_int' T<|q _ {s with toks:=s.toks+1} (λ_ _ e=>e) ⟨rfl,rfl⟩ (.int _ _)
 |4,e=>
  refine bQ (Ba w G e) λi j t n f p e=>?_;clear w;subst f;clear G;subst p;refine ak (fb e) λT e=>?_;have T:=an T;exact e▸λQ E q=>floordiv_int (ag0.mp T.1) (q _ {s with toks:=s.toks+1} (λ_ _ e=>e) ⟨rfl,rfl⟩ (.int _ _)) (.inl<|PyProof.noPylong_of_log2<|ZL (gu<|mu T.2)<|ab rfl)
 |5,e=>
  refine bQ (Ba w G e) λi j t n f p e=>?_;clear w;subst f;clear G;subst p;exact ak (fs e) λT e=>aa T.1<|aa T.2<|Wn e▸λQ E q=>pow_int_small (by decide) (by decide) (ab rfl) (q _ {s with toks:=s.toks+1} (λ_ _ e=>e) ⟨rfl,rfl⟩ (.int _ _))
 |_+6,e=>exact no e
end
section
variable{K c:Type}[DecidableEq K]{KR:K×c->D->Prop}{VRel:c->D->Prop}
def qL(r:∀a y,KR a y->bP y x=decide (a.1=k))(h:L2 (λa e=>KR a e.1/\VRel a.2 e.2) f E):
  (aO x E=none/\f.find? (λa=>decide (a.1=k))=none)\/∃a d,aO x E=some d/\f.find? (λa=>decide (a.1=k))=some a/\VRel a.2 d:=by
 induction h with
 |nil=>exact .inl ⟨rfl,rfl⟩
 |@cons a b A bs m _ i=>
  have n:=r a b.1 m.1;refine aa List.find?_cons<|av n ?_;rcases q:bP b.1 x with _|_
  ·show(aO x (b::bs)=none/\_)\/_;exact aa (show aO x (b::bs)=aO x bs from(show(match bP b.1 x with|true=>some b.2|false=>aO x bs)=_ by rw[q])) i
  ·exact .inr ⟨a,b.2,show(match bP b.1 x with|true=>some b.2|false=>aO x bs)=some b.2 by exact aa q rfl,rfl,m.2⟩
noncomputable def Ve(k:K)(new:K×c)(f:K×c->K×c):List (K×c)->List (K×c)
 |[]=>[new]
 |a::r=>if a.1=k then f a::r else a::Ve k new f r
def kK(r:∀a y,KR a y->bP y x=decide (a.1=k))(o:KR new x/\VRel new.2 d)(L:∀a y,KR a y->KR (f a) y)(Y:∀a,VRel (f a).2 d)(h:L2 (λa e=>KR a e.1/\VRel a.2 e.2) g E):L2 (λa e=>KR a e.1/\VRel a.2 e.2) (Ve k new f g) (fV x d E):=by
 induction h with
 |nil=>exact .cons o .nil
 |@cons a b A bs m t i=>
  have n:=r a b.1 m.1;show L2 _ (if a.1=k then f a::A else a::Ve k new f A) (match bP b.1 x with|true=>(b.1,d)::bs|false=>b::fV x d bs);rcases q:bP b.1 x with _|_
  ·exact aa (agP<|agZ<|n.symm.trans q)<|.cons m i
  ·exact aa (agO<|agS<|n.symm.trans q)<|.cons ⟨L _ _ m.1,Y a⟩ t
def oX:(fV x d e).length<=e.length+1:=by
 induction e with
 |nil=>exact WC _
 |cons b e i=>
  show(match bP b.1 x with|true=>(b.1,d)::e|false=>b::fV x d e).length<=_;obtain _|_:=bP b.1 x
  ·exact WB i
  ·exact W9 _
def rT{x:List (K×c)}:k∉x.map (·.1)->Ve k n f x=x++[n]:=by
 induction x with
 |nil=>exact λ_=>rfl
 |cons a r i=>exact λh=>(agP λe=>h<|Wo.mpr<|.inl e.symm).trans (agN (a::·)<|i λq=>h<|Wu _ q)
def EV{f g:K×c->K×c}(j:∀a,g a=if a.1=k then f a else a){l:List (K×c)}:k∉l.map (·.1)->l.map g=l:=by
 induction l with
 |nil=>exact λ_=>rfl
 |cons b l i=>exact λh=>show g b::l.map g=b::l from congr (agN aco<|(j b).trans<|agP λe=>h<|Wo.mpr<|.inl e.symm) (i λq=>h<|Wu _ q)
def rp{f g:K×c->K×c}(j:∀a,g a=if a.1=k then f a else a){x:List (K×c)}:(x.map (·.1)).Nodup->k∈x.map (·.1)->Ve k n f x=x.map g:=by
 induction x with
 |nil=>exact λ_ h=>nomatch h
 |cons a r i=>
  intro m h;have m:a.1∉r.map (·.1)/\(r.map (·.1)).Nodup:=WO.mp m;by_cases G:a.1=k
  ·exact(agO G).trans (show f a::r=g a::r.map g from congr (agN aco ((j a).trans<|agO G).symm) (EV j<|G▸m.1).symm)
  ·exact(agP G).trans (show a::Ve k n f r=g a::r.map g from congr (agN aco ((j a).trans<|agP G).symm) (i m.2<|(Wo.mp h).resolve_left λe=>G e.symm))
end
def gx{K:Type}[DecidableEq K]{b:List (K×Value)}(m:(b.map (·.1)).Nodup)(k:K)(v:Value):stored b k v=Ve k (k,v) (λa=>(a.1,v)) b:=by
 unfold stored
 split
 ·rename_i h
  refine(rp (λa=>rfl) m ?_).symm;exact ae (WR.mp h) λa G M=>YH.mpr ⟨a,G,agS M⟩
 ·rename_i h
  refine(rT ?_).symm;intro Q;exact fc Q λa G M=>h<|WR.mpr ⟨a,G,agT M⟩
def pn{K:Type}[DecidableEq K]{f:List (K×Addr×Value)}(m:(f.map (·.1)).Nodup)(k:K)(a:Addr)(v:Value):storedH f k a v=Ve k (k,a,v) (λx=>(x.1,x.2.1,v)) f:=by
 unfold storedH
 split
 ·rename_i h
  refine(rp (λa=>rfl) m ?_).symm;refine af (Ye.mp h) λp Y=>?_;unfold atKey at Y;exact fZ Y λx g _=>YH.mpr ⟨x,List.mem_of_find?_eq_some g,agS<|by simpa using List.find?_some g⟩
 ·rename_i h
  refine(rT ?_).symm;intro Q;refine fc Q λx g M=>h ?_;unfold atKey;exact aa abS<|List.find?_isSome.mpr ⟨x,g,agT M⟩
def FZ{K Y:Type}[DecidableEq K]{k x:K}{n:K×Y}{f:K×Y->K×Y}(h:n.1=k)(L:∀a,(f a).1=a.1){l:List (K×Y)}:x∈(Ve k n f l).map (·.1)->x∈l.map (·.1)\/x=k:=by
 induction l with
 |nil=>exact λQ=> .inr<|(Wj.mp Q).trans h
 |cons b l i=>
  intro Q;by_cases e:b.1=k
  ·have Q:x∈(f b::l).map (·.1):=av (show Ve k n f (b::l)=f b::l from agO e) Q
   exact .inl<|Wo.mpr<|(Wo.mp Q).imp (λq=>q.trans<|L b) id
  ·have Q:x∈(b::Ve k n f l).map (·.1):=av (show Ve k n f (b::l)=b::Ve k n f l from agP e) Q
   exact(Wo.mp Q).elim (λq=> .inl<|Wo.mpr<|.inl q) λq=>(i q).imp (Wu _) id
def xT{K Y:Type}[DecidableEq K]{k:K}{new:K×Y}{f:K×Y->K×Y}(h:new.1=k)(L:∀a,(f a).1=a.1){x:List (K×Y)}:(x.map (·.1)).Nodup->((Ve k new f x).map (·.1)).Nodup:=by
 induction x with
 |nil=>exact λ_=>WO.mpr ⟨WW,Xr⟩
 |cons a r i=>
  intro m;have m:=WO.mp m;by_cases e:a.1=k
  ·refine aa (show Ve k new f (a::r)=f a::r from agO e) (WO.mpr ?_)
   show(f a).1∉r.map (·.1)/\_;exact aa (L a) m
  ·exact aa (show Ve k new f (a::r)=a::Ve k new f r from agP e) (WO.mpr ⟨λQ=>(FZ h L Q).elim m.1 e,i m.2⟩)
section
variable{W:U3}
def iV(m:MK W k x)(t:MK W l y):bP y x=decide (l=k):=by
 rcases m with⟨i,rfl,rfl⟩|⟨i,rfl,rfl⟩<;>obtain⟨j,rfl,rfl⟩|⟨j,rfl,rfl⟩:=t
 ·by_cases e:j=i
  ·exact aa e<|(aaD i).trans (agT rfl).symm
  ·exact(Bool.eq_false_iff.mpr λh=>e (WY h):WV j i=false).trans (agY λq=>e<|W.pq _ _<|adh q).symm
 iterate 2 exact(agY nofun).symm
 ·by_cases e:j=i
  ·exact aa e<|(agW i).trans (agT rfl).symm
  ·exact(agV.mpr e).trans (agY λq=>e<|Sum.inr.inj q).symm
def BU(h:kd (.tup l)=k):(k=2/\l.all (D.ao 7))\/k=3:=by
 revert h;show(match l.all (D.ao 7) with|true=>2|false=>3)=k->_;obtain _|_:=l.all<|D.ao 7
 ·exact λe=> .inr e.symm
 ·exact λe=> .inl ⟨e.symm,rfl⟩
def fO(r:DR W h o u x)(M:kd x<=1):∃k,nW k u/\MK W k x:=by
 obtain _|_|i|i|_|_|l|_:=x;iterate 2 exact agR M (show ¬(3:Nat)<=1 by decide)
 ·refine af r.cW λt E=>?_;clear r;subst E;exact⟨.inr i,agW _,.inr ⟨_,rfl,rfl⟩⟩
 ·refine af r.g6 λt E=>?_;clear r;subst E;exact⟨.inl _,agW _,.inl ⟨_,rfl,rfl⟩⟩
 iterate 2 exact agR M (show ¬(3:Nat)<=1 by decide)
 ·rcases BU rfl with⟨e,_⟩|e<;>rw[e] at M<;>exact agR M (by decide)
 exact agR M<|show ¬(3:Nat)<=1 by decide
def qf(h:kd x=2):(∃l,x=.tup l)/\x.ao 8:=by
 obtain _|_|_|_|_|_|l|_:=x;iterate 2 exact agR h (show ¬(3:Nat)=2 by decide)
 ·exact agR h (show ¬(1:Nat)=2 by decide)
 ·exact agR h (show ¬(0:Nat)=2 by decide)
 iterate 2 exact agR h (show ¬(3:Nat)=2 by decide)
 ·obtain⟨_,e⟩|e:=BU h
  ·exact⟨⟨l,rfl⟩,e⟩
  ·exact agR e (by decide)
 exact agR h<|show ¬(3:Nat)=2 by decide
open Classical in
def sC(h:kd x=2)(t:kd y=2/\y.canon=k):bP y x=decide (k=x.canon):=av t.2<|vb (qf t.1).2 (qf h).2
end
section
variable{Z:Wd}{A:adC}{E:Value->adx->Prop}{s:adx}{c:List Addr}{u v:Value}{d:Addr}{k:Nat}{g:List (D×D)}{x y:D}
abbrev GN(Z:Wd)(h:Heap)(d:Addr)(xs:List (D×Addr×Value)):Prop:=@Heap.DictOfH Z.prog Z.w D (Xx D) (nY Z.W Z.prog Z.w) h d xs
def iw{p:Program}{w:World}{h:Heap}{b:List ((Str ⊕ Int)×Value)}(Q:h.DictOf (bk p w) L b):(b.map (·.1)).Nodup:=Q.elim λ_ x=>x.elim λ_ x=>x.elim λ_ x=>x.2.2.2.2.2
def j1{p:Program}{w:World}{h:Heap}{b:List ((Str ⊕ Int)×Value)}(Q:h.DictOf (bk p w) L b):∃o,h.get? L=some o:=Q.elim λo x=>x.elim λ_ x=>x.elim λ_ x=>⟨o,x.1⟩
def il(r:pH Z.W Z.prog Z.w h d f)(l:Ip Z.W h c f g):GN Z h d f:=by
 refine gD r λo G B n m t Y p=>⟨o,G,B,n,m,t,Y,λx j=>?_,p⟩;exact af (aah.mp j) λi T=>aj (l.get' T) λe _ z _=>aC z λI J L=>⟨e.1,I.stays λa o _ n _=>⟨n,WW⟩,(qf J).2,L⟩
def HY(l:GN Z h d f):pH Z.W Z.prog Z.w h d f:=jx l λo G B i m t Y _ e=>⟨o,G,B,i,m,t,Y,e⟩
def mi(r:DR Z.W h c u x)(M:kd x=2):∃a,u=.ref a/\@HeapKind.is Z.prog Z.w D (Xx D) (nY Z.W Z.prog Z.w) h x.canon a:=ak (qf M) λG z=>by
 clear M;obtain⟨l,rfl⟩:=G;refine cF r.eD λa _ e _=>?_;subst e;exact⟨a,rfl,_,r.stays λa o _ f _=>⟨f,WW⟩,z,rfl⟩
def Under(Z:Wd)(h:Heap)(c:List Addr)(r:Option D)(o:Option Value):Prop:=match r with
 |none=>o=none
 |some d=>∃v,o=some v/\DR Z.W h c v d
def jt(x:Under Z h c r o):o.isSome=r.isSome:=by
 obtain _|d:=r
 ·exact agN _ x
 ·exact ae x λv e _=>agN _ e
def gM(l:lJ Z.W h c b g)(M:MK Z.W f x):Under Z h c (aO x g) (valueAt b f):=by
 unfold valueAt;rcases qL (λa y m=>iV M m) l with⟨e,t⟩|⟨a,d,e,t,Y⟩<;>refine aa e (aa t ?_)
 ·exact rfl
 ·exact⟨a.2,rfl,Y⟩
def mH(l:Ip Z.W h c f g)(M:kd x=2):Under Z h c (aO x g) ((@atKey D (Xx D) f x.canon).map (·.2)):=by
 letI:=Xx D
 unfold atKey;rcases qL (KR:=λ(a:D×Addr×Value) y=>DR Z.W h c (.ref a.2.1) y/\kd y=2/\y.canon=a.1) (VRel:=λp d=>DR Z.W h c p.2 d) (k:=x.canon) (λa y m=>sC M m.2) l with⟨e,t⟩|⟨a,d,e,t,Y⟩<;>refine aa e (aa t ?_)
 ·exact rfl
 ·exact⟨a.2.2,rfl,Y⟩
def lQ(h:A.units+30<cLine):A.in1.units+13<cLine:=QN h
def FF(Y:(d==adX)=false)(i:A.units+30<cLine)(R:dY Z.W Z.prog Z.w s.heap c d k g)(r:DR Z.W s.heap c u x)(M:kd x=k)
  (q:∀t,Q (.bool (aO x g).isSome) {s with toks:=t}):adA (adB Z.prog Z.w) A (aes .In u<|.ref d) Q E s:=by
 obtain⟨h,b,T,l⟩|⟨rfl,f,T,l⟩:=R
 ·refine ae (fO r<|M▸h) λL h z=>wpAny_in_of h Y T.mapOf ?_
  exact aa (jt<|gM l z)<|q _
 ·refine ae (mi r M) λa e U=>?_;clear r;subst e
  refine @wpAny_in_heap Z.prog Z.w D (Xx D) (nY Z.W Z.prog Z.w) A E s d a x.canon f Q (lQ i) U Y (il T l)<|av abS (aa (jt<|mH l M) ?_);exact q _
def Bu(n:A.units+30<cLine)(R:dY Z.W Z.prog Z.w s.heap c d k g)(r:DR Z.W s.heap c u x)(M:kd x=k)(e:aO x g=some y)
  (q:∀v t,DR Z.W s.heap c v y->Q v {s with toks:=t}):adA (adB Z.prog Z.w) A (adY (.ref d) u) Q E s:=by
 obtain⟨m,b,T,l⟩|⟨rfl,f,T,l⟩:=R
 ·refine ae (fO r<|M▸m) λL m z=>?_
  have h:=gM l z;rw[e] at h;exact ae h λv j I=>wpAny_getItem_of m T.mapOf j<|q _ _ I
 ·refine ae (mi r M) λa i U=>?_;clear r;subst i
  have h:=mH l M;rw[e] at h;exact ae h λv j I=>fZ j λp G B=>@wpAny_getItem_heap Z.prog Z.w D (Xx D) (nY Z.W Z.prog Z.w) A E s d a x.canon f p Q (lQ n) U (il T l) G (q _ _<|B▸I)
def zi{P:aF}{a0:UT}{p:Pl}(G:Gd Z s P a0)(U:A.units+30<cLine)(Y:P[B]?=some p)(ac:a0[B]?=some (.dict k g))(ru:DR Z.W s.heap (own P) u x)(rv:DR Z.W s.heap (own P) v y)
  (M:kd x=k) (J:g.length<lim):zd Z A [] (ae6 (.ref p.a) u v) s P (a0.set B (.dict k (fV x y g))) (λ_ _ P'=>P'=P):=by
 intro Q E q;refine aC (G.obj B p _ Y ac) λax am R=>?_;have al:∀(L:Heap)(t:Nat),Yw p.a s.heap L->(bq s.heap (own P) L (own P)->dY Z.W Z.prog Z.w L (own P) p.a k (fV x y g))->(∃o,L.get? p.a=some o)->Q () {s with heap:=L,toks:=t}:=by
  intro L t hs hr ar;exact ak (G.set (o:=.dict k<|fV x y g) Y p.a (.inl rfl) hs ar λS=>⟨ax,Wh oX J,hr S⟩) λG' j=>q () _ P G' j rfl
 clear ac q;obtain⟨h0,ag,T,l⟩|⟨rfl,i,T,l⟩:=R
 ·refine ae (fO ru<|M▸h0) λap m I=>?_
  have N:=iw T;have ar:ag.length+1<=sizeLine:=by exact aa l.length<|ba J
  refine wpAny_setItem_pairs m T (λL aw hs=>al _ _ hs (λS=> .inl ⟨h0,_,aw,?_⟩) (j1 aw)) (by exact aa l.length<|ba am);rw[gx N];exact(kK (f:=λa=>(a.1,v)) (KR:=λa y=>MK Z.W a.1 y) (VRel:=λv d=>DR Z.W s.heap (own P) v d) (λa y r=>iV I r) ⟨I,rv⟩ (λ_ _ h=>h) (λ_=>rv) l).mono λa b z=>⟨z.1,z.2.stays S⟩
 ·refine ae (mi ru M) λa e hi=>?_;subst e
  have N:=T.elim λ_ x=>x.elim λ_ x=>x.elim λ_ x=>x.2.2.2.2
  letI:=Xx D
  refine @wpAny_setItem_heap Z.prog Z.w D (Xx D) (nY Z.W Z.prog Z.w) A E s p.a a x.canon i v Q (lQ U) hi (il T l)
   (λL aw hs=>al _ _ hs (λS=> .inr ⟨rfl,_,HY aw,?_⟩) (aw.elim λo x=>x.elim λ_ x=>x.elim λ_ x=>⟨o,x.1⟩)) (by exact aa l.length<|ba am)
  rw[pn N];exact(kK (KR:=λ(a:D×Addr×Value) y=>DR Z.W s.heap (own P) (.ref a.2.1) y/\kd y=2/\y.canon=a.1) (VRel:=λp d=>DR Z.W s.heap (own P) p.2 d) (k:=x.canon) (d:=y) (new:=(x.canon,a,v)) (f:=λx=>(x.1,x.2.1,v))
   (λa y I=>sC M I.2) ⟨⟨ru,M,rfl⟩,rv⟩ (λ_ _ h=>h) (λ_=>rv) l).mono λa b z=>⟨⟨z.1.1.stays S,z.1.2⟩,z.2.stays S⟩
end
@[elab_as_elim] def GX{G:Nat->Prop}(b:Nat)(A:G 0)(Q:G 1)(Y:G 2)(L:G 3)(U:G 4)(z:G 5)(B:G 6)(r:G 7)(c:G 8)(d:G 9)(a:G 10)(q:∀n,G (n+11)):G b:=by
 obtain _|b:=b
 ·exact A
 ·obtain _|b:=b
  ·exact Q
  ·obtain _|b:=b
   ·exact Y
   ·obtain _|b:=b
    ·exact L
    ·obtain _|b:=b
     ·exact U
     ·obtain _|b:=b
      ·exact z
      ·obtain _|b:=b
       ·exact B
       ·obtain _|b:=b
        ·exact r
        ·obtain _|b:=b
         ·exact c
         ·obtain _|b:=b
          ·exact d
          ·cases b with
           |zero=>exact a
           |succ b=>
            exact q b
section
variable{Z:Wd}{A:adC}{E:Value->adx->Prop}{s:adx}{P:aF}{z:UT}{u v:Value}
def vD(h:adA a A (t>>=λb=>pure (Value.bool b)) (λv c=>∀b,v=.bool b->Q b c) E s):adA a A t Q E s:=λw p j=>by
 have:=h w p j;rw[Sem.wp_bind'] at this;refine Sem.wp_mono _ _ _ (λb G c T=>?_) (λ_ _ _ e=>e) _ _ this;rw[Sem.wp_pure'] at T;exact T b rfl
def uF(h:adA a A t (λb T=>Q (.bool (!b)) T) E s):adA a A (t>>=λb=>pure (Value.bool (!b))) Q E s:=
 adw (aeE h (λ_ _ q=>ady q) λ_ _ e=>e)
def XR(Z:Wd)(h:Heap)(ow:List Addr)(u:Value)(x:X):Prop:=match x with
 |.none=>u=.none
 |.bool b=>u=.bool b
 |.int i=>∃t,u=.int i t
 |.str k=>∃t,u=.str (Z.W.st k) t
 |.tup l=>∃a vs,u=.ref a/\nA h a vs.toArray/\vs.length<=lim/\bL Z.W h ow vs l/\a∉ow
 |.lst l=>∃a vs,u=.ref a/\kI h a vs.toArray/\vs.length<=lim/\bL Z.W h ow vs l
 |.kj k es=>∃a,u=.ref a/\dY Z.W Z.prog Z.w h ow a k es/\(a==adX)=false
 |.no=>True
def br{v:V}(G:Gd Z s P z)(r:VR Z.W s.heap P u v):XR Z s.heap (own P) u (fe Z.T z v):=by
 obtain x|n:=v
 ·have r:=r.dd
  obtain _|_|_|_|_|g|l|l:=x
  ·exact r.pD
  ·exact r.eZ
  ·exact r.cW
  ·exact r.g6
  ·exact trivial
  ·show XR Z s.heap (own P) u (match Z.T.yN g with|some j=> .kj 0 j|none=> .no)
   rcases e:Z.T.yN g with _|j
   ·exact trivial
   ·exact⟨_,r.Qe,G.yN e⟩
  ·exact az r.eD λa i e m y t b=>⟨a,i,e,m,t,b,y⟩
  ·exact aG r.eX λa i e m _ t=>⟨a,i,e,m,t⟩
 ·refine ae r.ll λp Y f=>?_;clear r;subst f
  refine ae (G.at' Y) λo w R=>?_;show XR Z s.heap (own P) (.ref p.a) (DE z[n]?);refine aa w ?_;clear w;obtain l|⟨k,j⟩|_|_:=o
  ·exact cM R λ_ i h=>⟨_,i,rfl,h⟩
  ·exact⟨_,rfl,R.2.2,G.AJ Y⟩
  all_goals exact trivial
def BN(h:plain 12 x)(J:l.all (plain 11)):(xa Z.W l).any (λy=>aaM y (x.py Z.W))=l.any λy=>bP y x:=by
 induction l with
 |nil=>rfl
 |cons y l i=>
  show(aaM (y.py Z.W) _||(xa Z.W l).any _)=(bP y x||l.any _);exact aa (pG Z.W y x (an J).1 h)<|aa (i (an J).2) rfl
def r6(i:A.units+30<cLine)(h:n<=11):A.units+1+min n m<cLine:=by
 have:=Zk n m;exact PC i h
def wu(j:A.units+30<cLine)(N:XR Z s.heap o v c)(I:DR Z.W s.heap o u x)(e:bF c x=some r)
  (q:∀t,Q (.bool r) {s with toks:=t}):adA (adB Z.prog Z.w) A (aes .In u v) Q E s:=by
 obtain _|_|_|_|l|l|⟨k,i⟩|_:=c;iterate 4 exact no e
 ·refine ak (GY e) λY e=>az N λa g f L y b _=>?_;clear N;subst f;refine af L λn h=>?_
  refine aj (I.reads 12 (an Y).1) λB d G _=>aj (bL.reads b (an Y).2) λbs J T p=>in_tuple_reads (.tuple h rfl rfl J) d T G (r6 j p) ?_;refine aa (BN (an Y).1 (an Y).2)<|aa (Wn e) ?_;exact q s.toks
 ·refine ak (GY e) λY e=>aG N λa g f L y b=>?_;clear N;subst f;refine af L λn h=>?_
  refine aj (I.reads 12 (an Y).1) λB d G _=>aj (bL.reads b (an Y).2) λbs J T p=>in_list_reads (.list h rfl rfl J) d T G (r6 j p) ?_;refine aa (BN (an Y).1 (an Y).2)<|aa (Wn e) ?_;exact q s.toks
 ·refine ak (GY e) λM e=>aj N λa f R m=>?_;clear N;subst f
  exact FF m j R I (WY M)<|Wn e▸q
 exact no e
def n8(r:XR Z s.heap o u x)(e:x.dat=some d)(Y:plain n d):∃y,Reads s.heap u (d.py Z.W) y/\(d.py Z.W).canLay0/\(d.py Z.W).depth<=n:=by
 obtain _|b|i|k|l|l|_|_:=x
 ·obtain rfl:=Wn e;exact DR.reads (own:=o) (r▸ .none) n Y
 ·obtain rfl:=Wn e;exact DR.reads (own:=o) (r▸ .bool b) n Y
 ·obtain rfl:=Wn e;refine af r λt f=>?_;clear r;subst f;exact DR.reads (own:=o) (.int i t) n Y
 ·obtain rfl:=Wn e;refine af r λt f=>?_;clear r;subst f;exact DR.reads (own:=o) (.str rfl) n Y
 ·obtain rfl:=Wn e
  refine az r λa g f G _ w _=>?_;clear r;subst f;refine af G λk h=>?_;refine ae (du Y rfl) λm f Y=>?_;subst f;exact aj (bL.reads w Y) λy r w c=>⟨y,.tuple h rfl rfl r,w,WB c⟩
 ·obtain rfl:=Wn e
  refine aG r λa g f G _ w=>?_;clear r;subst f;refine af G λk h=>?_;refine ae (du Y rfl) λm f Y=>?_;subst f;exact aj (bL.reads w Y) λy r w c=>⟨a::y,.list h rfl rfl r,w,WB c⟩
 all_goals exact no e
def vX(i:A.units+30<cLine)(G:XR Z s.heap o u a)(I:XR Z s.heap o v b)(e:(a.dat.bind λx=>b.dat.bind λy=>D.yL x y)=some r):
  (Q (.bool r) s->adA (adB Z.prog Z.w) A (aes .Eq u v) Q E s)/\(Q (.bool (!r)) s->adA (adB Z.prog Z.w) A (aes .NotEq u v) Q E s):=by
 refine cB e λx h e=>cB e λy c e=>ak (GY e) λY e=>aj (n8 G h (an Y).1) λB d k t=>aj (n8 I c (an Y).2) λbs T f _=>av (Wn e)<|av (pG Z.W x y (an Y).1 (an Y).2) ?_;have i:=CO (m:=(y.py Z.W).depth) (WJ (WL (ab rfl) _) i:A.units+13<cLine) t;exact⟨compareEq_reads d T k f i,compareNe_reads d T k f i⟩
def pj(h:fi b):b=.d .none:=by
 obtain x|_:=b
 ·obtain _|_|_|_|_|_|_|_:=x
  ·rfl
  all_goals cases h
 ·cases h
def Dc(r:VR Z.W s.heap P u a)(h:fi a=false):u≠ .none:=by
 obtain x|n:=a
 ·have r:=r.dd
  obtain _|_|_|_|_|_|_|_:=r
  ·cases h
  all_goals exact λe=>nomatch e
 ·refine ae r.ll λp _ f=>?_;clear r;subst f;exact λe=>nomatch e
def u0(r:VR Z.W s.heap P u a)(G:VR Z.W s.heap P v b)(e:fi b)(q:Q (.bool (fi a)) s):adA (adB Z.prog Z.w) A (aes .Is u v) Q E s:=by
 obtain rfl:=pj e;refine aa G.dd.pD ?_;rcases h:fi a with _|_
 ·rw[h] at q;exact is_none_ne (Dc r h) q
 ·obtain rfl:=pj h;exact aa r.dd.pD<|is_none_none q
def aL{v:V}{x:D}(h:Vf v=some x):v=.d x:=by
 obtain y|_:=v
 ·exact agN V.d (Wn h)
 ·exact no h
def Ed{L:Type}{a b:V}{f:Int->Int->Option L}{c:L}(r:VR Z.W s.heap P u a)(G:VR Z.W s.heap P v b)(e:((Vf a).bind λa=>(Vf b).bind λb=>ii a b f)=some c):∃i g t T,u=.int i t/\v=.int g T/\f i g=some c:=cB e λx h e=>cB e λy d e=>Ba (aL h▸r).dd (aL d▸G).dd e
def lI{a b:V}{r:Bool}(G:Gd Z s P z)(k:A.units+30<cLine)(y:VR Z.W s.heap P u a)(I:VR Z.W s.heap P v b)(e:nk Z.T z B a b=some r)
  (q:∀t,U (.bool r) {s with toks:=t}):adA (adB Z.prog Z.w) A (aes (vT B) u v) U E s:=by
 have d:U (.bool r) s:=q s.toks;revert e;refine GX B (λe=>?_) (λe=>?_) (λe=>?_) (λe=>?_) (λe=>?_) (λe=>?_) (λe=>?_) (λe=>?_) (λe=>?_) (λe=>?_) (λe=>no e) λ_ e=>no e
 ·exact(vX k (br G y) (br G I) e).1 d
 ·refine fZ e λc m f=>?_;clear q e;subst f
  exact(vX k (br G y) (br G I) m).2 d
 ·refine bQ (Ed y I e) λi j t n f p e=>?_;clear y;subst f;clear I;subst p;exact acr<|Wn e▸d
 ·refine bQ (Ed y I e) λi j t n f p e=>?_;clear y;subst f;clear I;subst p;exact PySem.P.le_int<|Wn e▸d
 ·refine bQ (Ed y I e) λi j t n f p e=>?_;clear y;subst f;clear I;subst p;exact acs<|Wn e▸d
 ·refine bQ (Ed y I e) λi j t n f p e=>?_;clear y;subst f;clear I;subst p;exact PySem.P.ge_int<|Wn e▸d
 ·exact ak (GY e) λh e=>u0 y I h<|Wn e▸d
 ·refine ak (GY e) λh e=>uF<|vD<|u0 y I h λb l=>?_
  exact av (Value.bool.inj l)<|Wn e▸d
 ·exact cB e λx g e=>wu k (br G I) (aL g▸y).dd e q
 ·refine cB e λx g e=>fZ e λc m f=>?_;clear d e;subst f
  refine uF<|vD<|wu k (br G I) (aL g▸y).dd m λt b l=>?_;exact av (Value.bool.inj l)<|q t
def jr(G:Gd Z s P z)(e:z[B]?=some (.list l))(Y:P[B]?=some p):∃g:List Value,kI s.heap p.a g.toArray/\g.length<=lim/\bL Z.W s.heap (own P) g l:=cM (G.obj B p _ Y e) λ_ g h=>⟨g,h⟩
end
def jW(h:n<=lim):(n:Int)<2^63:=QK h
def nN{l:List D}(h:l[B]?=some y):B<l.length:=(Xb.mp h).1
def GV(h:Vc l i=some y):∃k:Nat,l[k]?=some y/\((0<=i/\i=k)\/(i<0/\0<=i+l.length/\i+l.length=k)):=by
 unfold Vc at h;by_cases n:0<=i
 ·exact⟨_,(agO n).symm.trans h,.inl ⟨n,(Xe n).symm⟩⟩
 ·refine ak (fs<|(agP n).symm.trans h) λm h=>?_
  have t:=Ji m;exact⟨_,h,.inr ⟨Yp.mp n,t,(Xe t).symm⟩⟩
def u6{l:List D}{i:Int}(h:Vc l i=some y)(J:l.length<=lim):∃k,seqIndex? i l.length=some k/\l[k]?=some y/\ -2^63<=i/\i<2^63:=by
 have:=jW J;refine ae (GV h) λk h n=>?_;have M:=nN h;refine⟨k,?_,h,n.elim (λh=>Qj h.1) λh=>IH this h.2.1,n.elim (λh=>h.2▸LN this M) λh=>O1 h.1⟩;unfold seqIndex?;obtain⟨n,m⟩|⟨n,m,t⟩:=n
 ·exact aa (agP<|X4.mpr n) ((agO<|WE.mpr ⟨agT n,agT<|Hg m<|Cq M⟩).trans<|agN some<|Gx m)
 ·exact aa (agO n) ((agO<|WE.mpr ⟨agT m,agT<|Hg t<|Cq M⟩).trans<|agN some<|Gx t)
section
variable{Z:Wd}{A:adC}{E:Value->adx->Prop}{s:adx}{P:aF}{f:UT}{u v:Value}{d:List Addr}
def zo{l:List D}{i:Int}(c:s.heap.IsList a J.toArray)(n:J.length<=lim)(r:bL Z.W s.heap d J l)
  (e:Vc l i=some y) (q:∀v,DR Z.W s.heap d v y->U v s):adA (adB Z.prog Z.w) A (adY (.ref a) (.int i t)) U E s:=by
 have B:=r.length;have b:=jW n;refine ae (GV e) λk h o=>?_;have M:=nN h;refine ae (r.get h) λv Y T=>?_;obtain⟨o,m⟩|⟨o,m,x⟩:=o
 ·clear e;subst m
  exact wpAny_getItem_list c o (LN b<|jq B M) (by rw[YB,Y3];exact Y) (q v T)
 ·refine wpAny_getItem_list_neg c o (by refine aa WN<|aa B ?_;exact Pz m) (IH (B▸b) m) ?_ (q v T)
  rw[WN,B,x,YB,Y3];exact Y
def xv(J:nA s.heap a g.toArray)(m:g.length<=lim)(r:bL Z.W s.heap d g l)
  (e:Vc l i=some y) (q:∀v,DR Z.W s.heap d v y->Q v s):adA (adB Z.prog Z.w) A (adY (.ref a) (.int i t)) Q E s:=by
 have B:=r.length;exact af J λn h=>aK (u6 e<|B▸m) λk j I G z=>ae (r.get I) λw x U=>PySem.P.getItem_tuple h G z (by rw[WN,B];exact j) (by exact aa YB x) (q w U)
def Dn(h:Z.T.chars k=some z)(e:Vc (z.map D.str) i=some y)(q:∀v t,DR Z.W s.heap d v y->Q v {s with toks:=t}):adA (adB Z.prog Z.w) A (adY (.str (Z.W.st k) o)<|.int i t) Q E s:=ak (Z.chars _ _ h) λj I=>by
 have G:aaw (Z.W.st k)=z.length:=j;have b:z.length<=1000000:=j▸Z.short _ (.inl<|h▸rfl);refine aK (u6 e (by rw[Wm];exact Wh b<|ab rfl)) λn J B a L=>?_;rw[Xh] at B;refine fZ B λc m g=>?_;clear e B;subst g;refine ae (I n c m) λM U Y=>PySem.P.getItem_str ?_ ?_<|q _ _<|.str Y.symm
 ·exact Zw.mpr ⟨agY<|X4.mpr a,agY<|Yp.mpr L⟩
 ·rw[Wm] at J
  refine aa G<|aa J ?_;exact U
def As(p:A.units+30<cLine)(G:XR Z s.heap d u o)(U:DR Z.W s.heap d v i)(e:lF Z.T o i=some y)
  (q:∀w t,DR Z.W s.heap d w y->Q w {s with toks:=t}):adA (adB Z.prog Z.w) A (adY u v) Q E s:=by
 obtain _|_|_|k|l|l|⟨k,n⟩|_:=o;iterate 3 exact no e
 ·refine cB e λj z e=>af ((bj z▸U).cW) λt m=>?_;clear U;subst m
  refine cB e λc x e=>?_;obtain⟨B,rfl⟩:=G;exact Dn x e q
 ·refine cB e λj z e=>af ((bj z▸U).cW) λt m=>?_;clear U;subst m
  refine az G λa g I h x Y _=>?_;obtain rfl:=I;exact xv h x Y e λv r=>q v s.toks r
 ·refine cB e λj z e=>af ((bj z▸U).cW) λt m=>?_;clear U;subst m
  refine aG G λa g I h x Y=>?_;obtain rfl:=I;exact zo h.i x Y e λv r=>q v s.toks r
 ·refine ak (GY e) λM e=>aj G λa m R _=>?_;clear G;subst m
  exact Bu p R U (WY M) e q
 exact no e
def AE(x:XR Z s.heap d u o)(e:H5 Z.T o=some n)
  (q:∀w t,DR Z.W s.heap d w (.int n)->Q w {s with toks:=t}):adA (adB Z.prog Z.w) A (call (.builtin "len") [u]) Q E s:=by
 obtain _|_|_|k|l|l|_|_:=o;iterate 3 exact no e
 ·refine fZ e λc h e=>af x λt j=>?_;clear x;subst j
  refine ak (Z.chars _ _ h) λm _=>?_;have G:aaw (Z.W.st k)=c.length:=m;refine PySem.P.len_str ?_<|q _ _ ?_
  ·exact aa G<|Yp.mpr<|jW (Wh (m▸Z.short _ (.inl<|h▸rfl):c.length<=1000000)<|ab rfl)
  ·refine aa G (aa e ?_);exact .int _ _
 ·refine az x λa g j z Y r _=>?_;clear x;subst j;refine af z λk h=>?_
  refine PySem.P.len_tuple h (Yp.mpr<|jW Y)<|q _ _ ?_;refine aa WN<|aa r.length<|aa (Wn e) ?_;exact .int _ _
 ·refine aG x λa g j h Y r=>?_;clear x;subst j
  refine PySem.Calls.call_len_list h.i (jW Y)<|q _ _ ?_;refine aa WN<|aa r.length<|aa (Wn e) ?_;exact .int _ _
 all_goals exact no e
def zV(M:k<=4)(y:XR Z s.heap d u o)(e:o9 k o=some r)
  (q:∀t,Q (.bool r) {s with toks:=t}):adA (adB Z.prog Z.w) A (call (.builtin "isinstance") [u,.type<|eI k]) Q E s:=by
 have x:=zS<|XA M;clear M;obtain _|b|i|h|l|l|_|_:=o
 ·obtain rfl:=Wn e;refine aa y ?_;rcases x with rfl|rfl|rfl|rfl|rfl<;>first|exact IsiPair.NoneType_int (q _)|exact IsiPair.NoneType_bool (q _)|exact IsiPair.NoneType_str (q _)|exact IsiPair.NoneType_tuple (q _)|exact IsiPair.NoneType_list (q _)
 ·obtain rfl:=Wn e;refine aa y ?_;rcases x with rfl|rfl|rfl|rfl|rfl<;>first|exact IsiPair.bool_int (q s.toks)|exact IsiPair.bool_bool (q s.toks)|exact IsiPair.bool_str (q _)|exact IsiPair.bool_tuple (q _)|exact IsiPair.bool_list (q _)
 ·obtain rfl:=Wn e;obtain⟨t,rfl⟩:=y;rcases x with rfl|rfl|rfl|rfl|rfl<;>first|exact IsiPair.int_int (q s.toks)|exact IsiPair.int_bool (q _)|exact IsiPair.int_str (q _)|exact IsiPair.int_tuple (q _)|exact IsiPair.int_list (q _)
 ·obtain rfl:=Wn e;obtain⟨t,rfl⟩:=y;rcases x with rfl|rfl|rfl|rfl|rfl<;>first|exact IsiPair.str_int (q _)|exact IsiPair.str_bool (q _)|exact IsiPair.str_str (q s.toks)|exact IsiPair.str_tuple (q _)|exact IsiPair.str_list (q _)
 ·obtain rfl:=Wn e
  refine aq y λa g j z _=>?_;clear y;subst j;obtain⟨n,m⟩:=z;rcases x with rfl|rfl|rfl|rfl|rfl<;>first|exact IsiPair.tuple_int m rfl (q _)|exact IsiPair.tuple_bool m rfl (q _)|exact IsiPair.tuple_str m rfl (q _)|exact IsiPair.tuple_tuple m rfl (q s.toks)|exact IsiPair.tuple_list m rfl (q _)
 ·obtain rfl:=Wn e
  refine aq y λa g j z _=>?_;clear y;subst j;obtain⟨n,m⟩:=z;rcases x with rfl|rfl|rfl|rfl|rfl<;>first|exact IsiPair.list_int m rfl (q _)|exact IsiPair.list_bool m rfl (q _)|exact IsiPair.list_str m rfl (q _)|exact IsiPair.list_tuple m rfl (q _)|exact IsiPair.list_list m rfl (q _)
 all_goals exact no e
end
def Oa{A B C D E F G:Sort _}{p:A->B->C->D->E->F->G->Prop}(a:A)(b:B)(c:C)(d:D)(e:E)(f:F)(g:G)(h:p a b c d e f g):∃a b c d e f g,p a b c d e f g:=⟨a,b,c,d,e,f,g,h⟩
def aJ(h:Heap)(k:Nat)(a:Addr)(vs:List Value):Prop:=(k=0/\h.IsTuple a vs.toArray)\/(k=1/\h.IsList a vs.toArray)
section
variable{Z:Wd}{A:adC}{E:Value->adx->Prop}{s:adx}{P:aF}{f:UT}{u v:Value}
def fX(y:A.handled=none)(x:aJ s.heap k a g)
  (q:∀(c:adx)(I:Addr)(d:List Addr)(St:Nat->Heap->Prop),aeS prog w A I d [I] g.length (λi v=>g[i]?=some v) St->St 0 c.heap->(∀b∈d,b<c.heap.objs.size)->
   (∀b o,s.heap.get? b=some o->c.heap.get? b=some o)->s.heap.get? I=none->(∃h t,c={s with heap:=h,toks:=t})->Q (.ref I) c):adA (adB prog w) A (adK<|.ref a) Q E s:=by
 have L:∀(o:Obj),a<s.heap.objs.size->∀b∈[s.heap.objs.size,a],b<(s.heap.push o).objs.size:=λo G b T=>by
  rw[Yt];obtain rfl|T:=Wo.mp T
  ·exact WK _
  ·exact aa (Wj.mp T)<|WM G
 obtain⟨rfl,x⟩|⟨rfl,x⟩:=x
 ·have G:=x.elim λ_ e=>WU e.1
  refine afy x ?_;have W:=acZ (prog:=prog) (w:=w) y s.heap.objs.size a (Xi G) g.toArray;simp only[WN,YB] at W;exact q _ _ _ _ W ⟨⟨_,WA _ rfl,rfl,rfl⟩,x.push _⟩ (L _ G) (λb o e=>Wx _ e) (bX _) ⟨_,_,rfl⟩
 ·have G:=x.elim λ_ e=>WU e.1
  refine afz x ?_;have W:=ac7 (prog:=prog) (w:=w) y s.heap.objs.size a (Xi G) g.toArray;simp only[WN,YB] at W;exact q _ _ _ _ W ⟨⟨_,WA _ rfl,rfl,rfl⟩,x.push _⟩ (L _ G) (λb o e=>Wx _ e) (bX _) ⟨_,_,rfl⟩
def je(r:XR Z s.heap o u x)(e:jU x=some (k,l))(M:k≠2):∃a g,u=.ref a/\((k=0/\nA s.heap a g.toArray/\a∉o)\/(k=1/\kI s.heap a g.toArray))/\g.length<=lim/\bL Z.W s.heap o g l:=by
 obtain _|_|_|_|_|_|_|_:=x;iterate 4 exact no e
 ·clear M;cases Wn e;exact az r λa g e h t Y d=>⟨a,g,e,.inl ⟨rfl,h,d⟩,t,Y⟩
 ·clear M;cases Wn e;exact aq r λa g e h t=>⟨a,g,e,.inr ⟨rfl,h⟩,t⟩
 ·exact agR (Yr<|Wn (fs e).2).1.symm M
 exact no e
def yS(r:XR Z s.heap o u x)(e:jU x=some (k,l))(M:k≠2):∃a g,u=.ref a/\aJ s.heap k a g/\g.length<=lim/\bL Z.W s.heap o g l:=
 aG (je r e M) λa g e h Q T=>⟨a,g,e,h.imp (λh=>⟨h.1,h.2.1.i⟩) λh=>⟨h.1,h.2.i⟩,Q,T⟩
def oW(r:bL Z.W h o g l):∀{n:List Int},cP l=some n->g.length=n.length/\∀(i:Nat) v,g[i]?=some v->∃t,v=.int (n.getD i 0) t:=by
 induction r with
 |nil=>intro n e;obtain rfl:=Wn e;exact⟨rfl,λ_ _ e=>nomatch e⟩
 |cons Q _ I=>
  intro n e;refine cB e λj d e=>fZ e λN m k=>?_;clear e;subst k;exact ak (I m) λw Y=>⟨agN Y6 w,λi v a=>match i,a with
   |0,a=>Wn a▸(bj d▸Q).cW
   |i+1,a=>Y i v a⟩
def oE{ns:List Int}{n:Nat}{x:Int}(h:ns[n]?=some x):ns.getD n 0=x:=by refine aa aa4<|aa h ?_;rfl
def qX(N:List Int):∀n,n<=N.length->preSum (λi=>N.getD i 0) n=(N.take n).foldl (· +·) 0:=by
 intro z
 induction z with
 |zero=>
  intro _;exact rfl
 |succ n I=>
  intro h;have m:=WS h;rw[preSum,I<|Yo h,aay,ZX,m,oE m];rfl
def xc(c:Int->Int->Bool)(x:Int)(g:List Int):∀(n:Nat),n<=g.length->
  (x::g).getD (argBest (λi d=>c ((x::g).getD i 0) ((x::g).getD d 0)) n) 0=(g.take n).foldl (λa b=>if c b a=true then b else a) x:=by
 intro z
 induction z with
 |zero=>
  intro _;exact rfl
 |succ n I=>
  intro h;have I:=I<|Yo h;have m:=WS h;have e:=oE (ns:=x::g) (n:=n+1) m;rw[argBest,aay,ZX,m,<-I,e];show _=if c g[n] _=true then g[n] else _
  rcases c g[n] ((x::g).getD (argBest (λi d=>c ((x::g).getD i 0)<|(x::g).getD d 0) n) 0) with _|_
  ·rfl
  ·exact e
def rR{c:Int->Int->Bool}(h:k=(N::n).length):(N::n).getD (argBest (λi d=>c ((N::n).getD i 0) ((N::n).getD d 0)) (k - 1)) 0=n.foldl (λa b=>if c b a=true then b else a) N:=aa h<|aa (show(N::n).length - 1=n.length from rfl) (aa (xc c N n _<|WC _)<|aa Zb rfl)
def qA{c:Int->Int->Prop}[∀a b,Decidable (c a b)](n:List Int):∀N:Int,n.foldl (λa b=>if decide (c b a)=true then b else a) N=n.foldl (λa b=>if c b a then b else a) N:=by
 induction n with
 |nil=>intro _;rfl
 |cons b n i=>
  intro a;rw[Zj,Zj,i];by_cases h:c b a
  ·rw[agO h,agO<|agT h]
  ·exact aa (agP h) (aa (agP λq=>h<|agS q) rfl)
def pR{h G:Heap}(w:h.get? L=none)(M:∀b o,h.get? b=some o->G.get? b=some o){p:Heap}(r:∀b o,b∉[L]->G.get? b=some o->p.get? b=some o)(b:Addr)(o:Obj)(e:h.get? b=some o):p.get? b=some o:=
 r b o (λq=>by rw[Wj.mp q,w] at e;exact no e) (M b o e)
def BK{l:List D}{n:List Int}(z:A.handled=none)(x:aJ s.heap B L J)(r:bL Z.W s.heap j J l)(e:cP l=some n)
  (q:∀T t,(∀b o,s.heap.get? b=some o->T.heap.get? b=some o)->Sm s T->U (.int (n.foldl (· +·) 0) t) T):adA (adB Z.prog Z.w) A (call (.builtin "sum") [.ref L]) U E s:=by
 refine ak (oW r e) λh y=>call_sum_walkG<|fX z x λN I ac St W st Y M c m=>Oa I ac [I] J.length _ St (λi=>n.getD i 0) ⟨rfl,W,st,Y,y,λG ag p d=>?_⟩;exact aa h<|aa (qX n _<|WC _)<|aa Zb<|q {N with heap:=G,toks:=ag} p (pR c M d) (Sm.of m:)
def y5{l:List D}{N:List Int}{m:Int}(am:A.handled=none)(x:aJ s.heap B L J)(r:bL Z.W s.heap j J l)(e:cP l=some N)(z:tw N=some m)
  (q:∀T t,(∀b o,s.heap.get? b=some o->T.heap.get? b=some o)->Sm s T->U (.int m t) T):adA (adB Z.prog Z.w) A (call (.builtin "min") [.ref L]) U E s:=ak (oW r e) λh y=>by
 clear e;obtain _|⟨n0,N⟩:=N
 ·exact no z
 ·refine call_min_walk (fX am x λag I fp St W st al M hI m'=>Oa I fp [I] J.length _ St (λi aw=>decide<|(n0::N).getD i 0<(n0::N).getD aw 0) ⟨rfl,W,st,al,h▸X9 _,
   λi aw vi vj s U E ar d p=>?_,λv G ap Y ac=>?_⟩)
  ·refine af (y i vi ar) λt1 n=>?_;clear ar;subst n
   obtain⟨t2,rfl⟩:=y aw vj d;exact acr p
  ·refine af (y _ v Y) λt n=>?_;clear Y;subst n
   rw[rR (c:=λL b=>decide<|L<b) h,qA,show N.foldl (λL b=>if b<L then b else L) n0=m from Wn z];exact q {ag with heap:=G,toks:=ap} t (pR hI M ac) (Sm.of m':)
def AN{l:List D}{N:List Int}{m:Int}(am:A.handled=none)(x:aJ s.heap B L J)(r:bL Z.W s.heap j J l)(e:cP l=some N)(z:nr N=some m)
  (q:∀T t,(∀b o,s.heap.get? b=some o->T.heap.get? b=some o)->Sm s T->U (.int m t) T):adA (adB Z.prog Z.w) A (call (.builtin "max") [.ref L]) U E s:=ak (oW r e) λh y=>by
 clear e;obtain _|⟨n0,N⟩:=N
 ·exact no z
 ·refine call_max_walk (fX am x λag I fp St W st al M hI m'=>Oa I fp [I] J.length _ St (λi aw=>decide<|(n0::N).getD i 0>(n0::N).getD aw 0) ⟨rfl,W,st,al,h▸X9 _,
   λi aw vi vj s U E ar d p=>?_,λv G ap Y ac=>?_⟩)
  ·refine af (y i vi ar) λt1 n=>?_;clear ar;subst n
   obtain⟨t2,rfl⟩:=y aw vj d;exact acs p
  ·refine af (y _ v Y) λt n=>?_;clear Y;subst n
   rw[rR (c:=λL b=>decide<|L>b) h,qA,show N.foldl (λL b=>if L<b then b else L) n0=m from Wn z];exact q {ag with heap:=G,toks:=ap} t (pR hI M ac) (Sm.of m':)
def lD{d:D}{b:Bool}(h:d.oM=some b):d=.bool b:=by
 obtain _|j|_|_|_|_|_|_:=d
 ·exact no h
 ·exact agN D.bool (Wn h)
 all_goals exact no h
def Jc{l:List D}(x:bL Z.W h j J l):∀{r:Bool},uq l=some r->(∀(i:Nat) v,J[i]?=some v->v=.bool ((l[i]?.bind D.oM).getD false))/\(Yj J.length).all (λi=>(l[i]?.bind D.oM).getD false)=r:=by
 induction x with
 |nil=>intro r e;obtain rfl:=Wn e;exact⟨(λ_ _ e=>nomatch e),rfl⟩
 |@cons v d J l T U I=>
  intro r e;refine cB e λb Q e=>fZ e λz a c=>?_;clear e;subst c;obtain⟨Y,k⟩:=I a;obtain rfl:=lD Q;refine⟨λi w y=>(match i,y with
   |0,y=>(Wn y).symm.trans T.eZ
   |i+1,y=>Y i w y),?_⟩
  refine aa WZ<|aa List.range_succ_eq_map<|aa Zi<|aa Zr<|av k ?_;rfl
def zj{l:List D}{m:Bool}(y:A.handled=none)(x:aJ s.heap B L J)(r:bL Z.W s.heap j J l)(e:uq l=some m)
  (q:∀T,(∀b o,s.heap.get? b=some o->T.heap.get? b=some o)->Sm s T->U (.bool m) T):adA (adB Z.prog Z.w) A (call (.builtin "all") [.ref L]) U E s:=by
 refine ak (Jc r e) λh t=>call_all_walk<|fX y x λag I N St W st n M d c=>Oa I N [I] J.length _ St (λi=>(l[i]?.bind D.oM).getD false) ⟨rfl,W,st,λi v s U E Y p=>?_,λG al ac=>?_⟩
 ·exact aa (h i v Y)<|aet p
 ·exact aa t (q {ag with heap:=G,toks:=al} (pR d M ac) (Sm.of c:))
end
abbrev Kp(h h':Heap):Prop:=∀b o,h.get? b=some o->h'.get? b=some o
def Kp.refl(h:Heap):Kp h h:=λ_ _ e=>e
def Kp.trans(x:Kp h G)(y:Kp G p):Kp h p:=λb o e=>y b o<|x b o e
def Kp.push(h:Heap)(o:Obj):Kp h (h.push o):=λ_ _ e=>Wx _ e
section
variable{d:Program}{w:World}{A:adC}{E:Value->adx->Prop}{s:adx}
def fB(J:s.TypeIs (.ref l) T)(t:(Value.type T==Value.type "list")=false)(i:(Value.type T==Value.type "tuple")=false)
  (a9:∀bu:adx,Kp s.heap bu.heap->∀(Q:Bool->adx->Prop)(E:Value->adx->Prop),(∀b z,Q b {bu with toks:=z})->adA (adB d w) A.in1 (aaI<|.ref l) Q E bu)
  (be:∀bu:adx,Kp s.heap bu.heap->s.heap.objs.size<bu.heap.objs.size->∀(K:Value->adx->Prop)(E:Value->adx->Prop),
   (∀(ag:adx)(I:Addr)(fp N:List Addr)(St:Nat->Heap->Prop),aeS d w A.in1 I fp N n P St->St 0 ag.heap->(∀b∈N,bu.heap.get? b=none)->s.heap.objs.size∉fp->Kp bu.heap ag.heap->(∃z h,ag={bu with heap:=h,toks:=z})->K (.ref I) ag)->
   adA (adB d w) A.in1 (adK<|.ref l) K E bu)
  (u:n<=sizeLine) (hQ:∀Y (y:Array Value),Kp s.heap Y.heap->Sm s Y->aeg P y n->Q y.toList Y):adA (adB d w) A (collect<|.ref l) Q E s:=by
 have bi:l<s.heap.objs.size:=by exact ae J λo j _=>WU j
 have a7:s.heap.objs.size≠l:=λe=>YM _<|e▸bi;refine adw<|agc<|ad8 F.entry_proto_collect<|aa (Yk F.plain_proto_collect _)<|adw<|adT<|ady ⟨aeu acM _,ad8 F.entry_list_iadd ?_⟩;refine aa (Yk acM _) ?_;show adA _ A.in1 (Builtin.List.listExtendWith (.ref s.heap.objs.size) (.ref l)<|.ref s.heap.objs.size) _ _ _;have G:Kp s.heap (s.heap.push {cls:=.type "list",data:=.seq ([]:List Value).toArray}):=Kp.push _ _;have a4:(s.heap.push {cls:=.type "list",data:=.seq ([]:List Value).toArray}).get? s.heap.objs.size=some {cls:=.type "list",data:=.seq ([]:List Value).toArray}:=WA _ rfl;refine adw<|wpAny_typeOf (ae J λo j p=>⟨o,G _ _ j,p⟩) ?_;have m:aa0 (.ref s.heap.objs.size) (.ref l)=false:=by simp [aa0,a7]
 refine aa m<|aa t<|aa i ?_;refine adw<|be {s with heap:=s.heap.push {cls:=.type "list",data:=.seq ([]:List Value).toArray}} G (WU a4) _ _ λag I fp N St W al bl aw B am=>?_;refine d9 am λbm a0 g=>?_;clear am;subst g;have a3:=B _ _ a4;refine adw<|adD<|a9 _ (G.trans B) _ _ λb bn=>?_;have ac:∀(ap:adx)(c:Nat),ap.heap.get? s.heap.objs.size=some {cls:=.type "list",dict:=none,data:=.seq #[] c,slots:=#[]}->(∀b,b≠s.heap.objs.size->∀o,a0.get? b=some o->ap.heap.get? b=some o)->Sm s ap->
   adA (adB d w) A.in1 (aeh<|.builtin "list.extend.loop" ⟨[.ref s.heap.objs.size,.ref I,.ref s.heap.objs.size],[]⟩) (λac Y=>match ac with
    |.done f=>(match (Except.ok f:aeF) with
     |.ok (.ret v)=>adA (adB d w) A (match v with
      |.ref a=>do
       match (<-load a).data with
       |Data.seq x _=>pure x.toList
       |_=>aev "internal:collect"
      |_=>aev "internal:collect") Q E Y
     |.ok _=>False
     |.error e=>E e Y)
    |.again c'=>c'.quiet=true/\adR (adB d w) A c' (λr Y=>match r with
     |.ok (.ret v)=>adA (adB d w) A (match v with
      |.ref a=>do
       match (<-load a).data with
       |Data.seq x _=>pure x.toList
       |_=>aev "internal:collect"
      |_=>aev "internal:collect") Q E Y
     |.ok _=>False
     |.error e=>E e Y) Y) (λe Y=>E e Y) ap:=by
  intro ap c ax a5 ms;refine ady ⟨aeu F.plain_extend_loop _,codeAny_extend_loopS W.toS u _ aw _ n 0 ap #[] c rfl (Wz _)
   (W.frame 0 a0 ap.heap al λb U o e=>a5 b (λL=>aw<|L▸U) o e) ax (ItemsOf.nil P) λY a6 c' k a2 ar=>?_⟩
  refine adw<|wpAny_load a2<|ady<|hQ Y a6 (λb o e=>k.heap b o (λU=>?_) (a5 b (Xi<|WU e) o<|B _ _<|G _ _ e)) (Sm.trans ms ⟨k.os,k.gens⟩) ar;obtain rfl|U:=Wo.mp U
  ·exact agR (WU e) (YM _)
  ·have:=bl b U
   rw[G _ _ e] at this;cases this
 refine ad9 (λ_=>?_) (λ_=>?_)
 ·refine adw (adZ<|adw<|adw<|agd a3 rfl ?_)
  have ax:=Zs (Obj.mapSeq (·.push Value.none)) a3 rfl;refine agd ax rfl ?_;have a8:=Zs (Obj.mapSeq (·.pop)) ax rfl;exact ac _ _ a8 (λb U o e=>(abu _ _<|YK U).trans<|(abu _ _<|YK U).trans e) ⟨rfl,rfl⟩
 ·exact ac _ _ a3 (λb U o e=>e) ⟨rfl,rfl⟩
end
section
variable{c:Program}{w:World}{A:adC}{E:Value->adx->Prop}{s:adx}
def ke{T id:String}{Q:Bool->adx->Prop}(I:s.TypeIs v T)(J:aeG (.type T) "__len__"=pure (some (.builtin id)))
  (cH:(id="dict.__len__"/\T="dict")\/(id="set.__len__"/\T="set")) (h:Q false s):adA (adB c w) A (aaI v) Q E s:=by
 refine adw<|ad7 I J ?_;clear J;obtain⟨rfl,rfl⟩|⟨rfl,rfl⟩:=cH
 ·generalize cH:("dict.__len__":String)=id0
  wp_delta
  refine aa (show splitId id0=some ("dict","__len__") from by subst cH;decide+kernel) ?_;subst cH;refine adw<|aeQ (T:="dict") (b:=true) I (by rw[ae7];kernel_rfl) ?_;refine ad9 (λU=>agR U<|by decide) (λ_=>ad9 (λ_=>?_) (λU=>agR (by decide+kernel) U));exact adw<|wpAny_typeOf I<|ady h
 ·generalize cH:("set.__len__":String)=id0
  wp_delta
  refine aa (show splitId id0=some ("set","__len__") from by subst cH;decide+kernel) ?_;subst cH;refine adw<|aeQ (T:="set") (b:=true) I (by rw[ae7];kernel_rfl) ?_;refine ad9 (λU=>agR U<|by decide) (λ_=>ad9 (λ_=>?_) (λU=>agR (by decide+kernel) U));exact adw<|wpAny_typeOf I<|ady h
def o5{K:Type}[DecidableEq K]{knd:KeyKind c w K}{f:List (K×Value)}{Q:List Value->adx->Prop}(y:A.handled=none)(Y:(L==adX)=false)(U:s.heap.DictOf knd L f)(m:f.length<=sizeLine)
  (n:∀T (a:Array Value),Kp s.heap T.heap->Sm s T->aeg (λi v=>∃k x,f[i]?=some (k,x)/\knd.is k v) a f.length->Q a.toList T):adA (adB c w) A (collect (.ref L)) Q E s:=af U.dictAt λB U=>by
 have u:=U.lt_size;refine fB U.dictOf.typeIs rfl rfl (λj M Q E p=>?_) (λj M g K E r=>?_) m n
 ·exact ke (U.keep M).dictOf.typeIs F.slot_dict_len.lookup (.inl ⟨rfl,rfl⟩) (p false j.toks)
 ·have t:=U.keep M
  refine wpAny_pyIter_dict Y t ?_;have l:=Xi t.lt_size;refine r _ j.heap.objs.size _ _ _ (Walks.dictKeys (A:=A.in1) y _ L l f B) ⟨?_,t.push _⟩ (λb h=>?_) (λh=>?_) (Kp.push _ _) ⟨j.toks,_,rfl⟩
  ·exact⟨_,WA _ rfl,rfl,rfl⟩
  ·refine aa (Wj.mp h) ?_
   rcases e:j.heap.get? j.heap.objs.size with _|o
   ·rfl
   ·exact agR (WU e) (YM _)
  ·obtain e|h:=Wo.mp h
   ·exact agR e (Xi g)
   ·exact agR (Wj.mp h) (YZ u)
def mW:∀{l d:List Int},l.Perm d->l.Pairwise (· <=·)->d.Pairwise (· <=·)->l=d:=by
 intro z
 induction z with
 |nil=>
  intro d p _ _;exact(List.nil_perm.mp p).symm
 |cons x l i=>
  intro d p B I;obtain _|⟨y,d⟩:=d
  ·exact agR p.length_eq (by simp)
  ·have J:x=y:=by
    have h:=p.mem_iff.mp (Wr ..);have t:=p.mem_iff.mpr (Wr ..);have a:y<=x:=by
     obtain e|h:=Wo.mp h
     ·exact W0 e.symm
     ·exact(XZ.mp I).1 x h
    have b:x<=y:=by
     obtain e|t:=Wo.mp t
     ·exact W0 e.symm
     ·exact(XZ.mp B).1 y t
    exact Xa b a
   subst J;exact aa (i (List.perm_cons x|>.mp p) (XZ.mp B).2 (XZ.mp I).2) rfl
def insI_perm(x:Int):∀l:List Int,(insI x l).Perm (x::l):=by
 intro z
 induction z with
 |nil=>
  exact YT _
 |cons y l i=>
  show(if x<y then x::y::l else y::insI x l).Perm (x::y::l)
  split
  ·exact YT _
  ·exact((i).cons y).trans (acI ..)
def rY(x:Int):∀{l:List Int},l.Pairwise (· <=·)->(insI x l).Pairwise (· <=·):=by
 intro I
 induction I with
 |nil=>
  intro _;exact XZ.mpr ⟨λ_ h=>(WW h).elim,.nil⟩
 |cons y l i=>
  intro h;show(if x<y then x::y::l else y::insI x l).Pairwise (· <=·)
  split
  ·rename_i g
   refine XZ.mpr ⟨λz t=>?_,h⟩;obtain rfl|t:=Wo.mp t
   ·exact XH g
   ·have:=(XZ.mp h).1 z t;exact WG (XH g) this
  ·rename_i g
   refine XZ.mpr ⟨λz t=>?_,i (XZ.mp h).2⟩;obtain rfl|t:=Wo.mp<|(insI_perm x l).mem_iff.mp t
   ·exact x5 g
   ·exact(XZ.mp h).1 z t
def sortI_perm:∀l:List Int,(U7 l).Perm l:=by
 intro l
 induction l with
 |nil=>exact YT _
 |cons x l i=>exact(insI_perm x _).trans<|i.cons x
def pQ:∀l:List Int,(U7 l).Pairwise (· <=·):=by
 intro z
 induction z with
 |nil=>
  exact List.Pairwise.nil
 |cons x l i=>
  exact rY x<|i
def pU(p:a.Perm l)(h:a.Pairwise (· <=·)):a=U7 l:=mW (p.trans (sortI_perm l).symm) h<|pQ l
def lX
  (m:∀(K:List Value->adx->Prop)(E:Value->adx->Prop),(∀v u G,Kp s.heap G.heap->Sm s G->ad4 v u->u.Perm ns->K v G)->adA (adB c w) A.in1 (collect x) K E s) (B:ns.length<64)
  (r:∀T (l:Addr) (p:List Value) n,Kp s.heap T.heap->Sm s T->s.heap.get? l=none->T.heap.get? l=some (adE "list" p.toArray n)->ad4 p (U7 ns)->Q (.ref l) T):
  adA (adB c w) A (call (.builtin "sorted") [x]) Q E s:=aa6 kind_sorted age agf (agg _)<|adw<|ady<|adw<|m _ _ λv u G M ms y Y=>by
 have U:v.length<64:=by refine aa (Zn y)<|aa Y.length_eq ?_;exact B
 refine adw<|aeH ?_;have k:(G.heap.push<|adE "list" v.toArray 0).get? G.heap.objs.size=some (adE "list" v.toArray 0):=WA _ rfl;have N:s.heap.get? G.heap.objs.size=none:=by
  rcases e:s.heap.get? G.heap.objs.size with _|o
  ·rfl
  ·exact agR (WU<|M _ _ e) (YM _)
 refine adw<|adD<|adL afA ⟨_,k,rfl⟩ afB (list_sort_tree k y U λp z a d f=>⟨_,rfl,?_⟩) (afC _);refine af (sortedHeap_at k) λe i=>ady ⟨_,rfl,r _ G.heap.objs.size p.toList e (λb o h=>?_) ms N i ?_⟩
 ·have t:=M _ _ h
  have g:=WU t;rw[afD (Xi g) (by rw[size_push'];exact WM g)];exact Wx _ t
 ·exact av (pU (d.trans Y) f) a
end
noncomputable def ia{L:Type}(n:Nat)(R:L->Bool):KasT L->Bool
 |.ret a=>R a
 |.ask i b k=>aad i n&&aad b n&&ia n R (k true)&&ia n R (k false)
def Eh:ia 2 (λp=>p.toList.isPerm (Yj 2)) (ae8 2)=true:=by decide+kernel
def Fo:ia 3 (λp=>p.toList.isPerm (Yj 3)) (ae8 3)=true:=by decide+kernel
def Dk:ia 4 (λp=>p.toList.isPerm (Yj 4)) (ae8 4)=true:=by decide+kernel
def yq{R:f->Bool}{c:Nat->Nat->(Bool->adx->Prop)->adx->Prop}{Q:f->adx->Prop}{g d o}
  (m:∀i l C T,i<n->l<n->(∀b T,C b ⟨h,g,d,T,o⟩)->c i l C ⟨h,g,d,T,o⟩) (p:∀a T,R a->Q a ⟨h,g,d,T,o⟩):
  ∀(t:KasT f)(T:Tok),ia n R t->t.kasWp c Q ⟨h,g,d,T,o⟩
 :=by
 intro t
 induction t with
 |ret a=>exact p a
 |ask i l k I=>
  intro T e;have E:=WE.mp e;have u:=WE.mp E.1;have r:=WE.mp u.1;exact m i l _ T (Wi r.1) (Wi r.2) λb T=>by
   cases b
   ·exact I false T E.2
   ·exact I true T u.2
section
variable{c:Program}{w:World}{A:adC}{E:Value->adx->Prop}{s:adx}
def zB{l:List Nat}(p:l.Perm (Yj J.length)):(l.map λi=>J.getD i Value.none).Perm J:=by
 have h:=p.map λi=>J.getD i Value.none;have e:(Yj J.length).map (λi=>J.getD i Value.none)=J:=by
  apply List.ext_getElem
  ·simp
  ·intro i m t
   simp at m;simp [m]
 rw[e] at h;exact h
def xR{P:PySem.Fin->adx->Prop}(f:s.heap.get? a=some (adE "list" v.toArray n))(t:2<=v.length)(d:v.length<=4)
  (ac:∀(a2:adx)(Q:SortKind->adx->Prop)(E:Value->adx->Prop),(∀b o,b≠a->s.heap.get? b=some o->a2.heap.get? b=some o)->Q N a2->adA (adB c w) A (keyKind' v.toArray) Q E a2)
  (ax:∀(a2:adx)(i a3:Nat)(C:Bool->adx->Prop),(∀b o,b≠a->s.heap.get? b=some o->a2.heap.get? b=some o)->i<v.length->a3<v.length->(∀b k,C b {a2 with toks:=k})->kas_ask c w A N v i a3 C a2)
  (h:∀(u:List Value) k,u.Perm v->P (.done<|.ret .none) {s with heap:=aei s.heap a v u.toArray,toks:=k}):
  adA (adB c w) A (Builtin.«list.sort» ⟨[.ref a],[]⟩) P E s:=by
 have I:=WU f;obtain⟨J,B⟩:∃J,(s.heap.update a<|Obj.mapSeq λ_=>(#[]:Array Value)).get? a=some (adE "list" #[] J):=⟨_,get?_update_seq f λ_=>#[]⟩;have ap:(((s.heap.update a<|Obj.mapSeq λ_=>#[]).push (adE "tuple" v.toArray 0)).push (adE "list" #[] 0)).get? a=some (adE "list" #[] J):=Wx _<|Wx _ B;have aw:∀b o,b≠a->s.heap.get? b=some o->(((s.heap.update a<|Obj.mapSeq λ_=>#[]).push (adE "tuple" v.toArray 0)).push (adE "list" #[] 0)).get? b=some o:=λb o T e=>
  Wx _ (Wx _<|(Heap.get?_update_ne _ _ _ _ T).trans e)
 rw[agh];refine adw<|agi f rfl ?_;refine adw<|ae9 f rfl ?_ (by refine aa WN<|aa adJ ?_;exact cy d rfl) (Wz _);refine adw<|afa B rfl ?_;refine adw<|aeT ?_ (by show v.length<=_;exact aa adJ<|cy d rfl);refine adw<|aeH ?_<|Wz _;refine adD ?_;have ag:¬v.toArray.size<2:=by exact aa WN<|Ze t
 refine aa (agP ag)<|aa (agP ag)<|adw<|ac _ _ _ aw ?_;have am:ia v.length (λp=>p.toList.isPerm<|Yj v.length) (ae8 v.length)=true:=by
  have:v.length=2\/v.length=3\/v.length=4:=NK (Ze t)<|XA d;rcases this with e|e|e<;>refine aa e ?_
  ·exact Eh
  ·exact Fo
  ·exact Dk
 refine adw<|aeE (kat_run (Q:=λal a2=>∃(p:Array Nat)(k:Tok),p.size=v.length/\arrOf al=p.map (kas_item<|v.toArray.zip v.toArray)/\failedOf al=none/\p.toList.Perm (Yj v.length)/\
   a2={s with heap:=((s.heap.update a<|Obj.mapSeq λ_=>(#[]:Array Value)).push (adE "tuple" v.toArray 0)).push (adE "list" #[] 0),toks:=k})
  (G:=λp a2=>p.toList.Perm (Yj v.length)/\∃k:Tok,a2={s with heap:=((s.heap.update a<|Obj.mapSeq λ_=>(#[]:Array Value)).push (adE "tuple" v.toArray 0)).push (adE "list" #[] 0),toks:=k})
  rfl t (yY d rfl) (λz al a2 M m r y=>let ⟨b1,k,b2⟩:=y;⟨z,k,M,m,r,b1,b2⟩)
  (yq (λi a3 C k g l hC=>ax _ i a3 C aw g l hC) (λp k Y=>⟨List.isPerm_iff.mp Y,k,rfl⟩) _ _ am)) ?_ λ_ _ e=>e
 rintro ⟨⟨⟩,al⟩ a2 ⟨p,k,Y,ar,L,a5,rfl⟩;dsimp only;have a0:=kat_snds rfl ar;have x:(ac0<|p.toList.map λi=>v.getD i Value.none).size=v.length:=by rw[WN,Wm,Xd,Y]
 refine aa a0<|adw<|afa ap rfl ?_;refine adw<|ae9 ap rfl ?_ (Wz _)<|Wh (Xf x) (by exact aa adJ<|cy d rfl);refine aa L ?_;simp only[bne_self_eq_false,aav,if_false];exact ady<|h _ k<|zB a5
def CJ(f:s.heap.get? a=some (adE "list" v.toArray n))(t:v.length<2)
  (h:P (.done (.ret .none)) {s with heap:=aei s.heap a v v.toArray}):adA (adB c w) A (Builtin.«list.sort» ⟨[.ref a],[]⟩) P E s:=by
 obtain⟨e,o⟩:∃e,(s.heap.update a<|Obj.mapSeq λ_=>(#[]:Array Value)).get? a=some (adE "list" #[] e):=⟨_,get?_update_seq f λ_=>#[]⟩;have u:(((s.heap.update a<|Obj.mapSeq λ_=>#[]).push (adE "tuple" v.toArray 0)).push (adE "list" #[] 0)).get? a=some (adE "list" #[] e):=Wx _<|Wx _ o;rw[agh];refine adw<|agi f rfl ?_;refine adw<|ae9 f rfl ?_ (by refine aa WN<|aa adJ ?_;exact E5 t rfl) (Wz _);refine adw<|afa o rfl ?_;refine adw<|aeT ?_ (by show v.length<=_;exact aa adJ<|E5 t rfl);refine adw<|aeH ?_<|Wz _;refine adD ?_;dsimp only;have i:v.toArray.size<2:=by exact aa WN t
 refine aa (agO i)<|aa (agO i)<|adw<|ady ?_;rw[StateT.run_pure];refine adw<|ady ?_;have T:((v.toArray.zip v.toArray).map (·.2))=v.toArray:=by
  apply acg.mp;simp [List.map_snd_zip]
 have G:=T;refine aa G<|adw<|afa u rfl ?_;refine adw<|ae9 u rfl ?_ (Wz _) (by refine aa WN<|aa adJ ?_;exact E5 t rfl);simp only[bne_self_eq_false,aav,if_false];exact ady h
end
section
variable{Z:Wd}{A:adC}{E:Value->adx->Prop}{s:adx}{P:aF}{c:UT}{u v:Value}
def g8(W:U3)(k:Nat)(h:Heap)(v:Value):Prop:=∃a t i T b n,v=.ref a/\h.get? a=some {cls:=.type "tuple",data:=.seq #[.str (W.st k) t,.int i T,.bool b] n}
def Ek(h:VV l=some p):l=[p.1,p.2.1,p.2.2]:=
 match l,h with
 |[_,_,_],h=>Wn h▸rfl
def Nq{d:D}(h:d.pf):∃b,d=.bool b:=by
 obtain _|b|_|_|_|_|_|_:=d
 ·cases h
 ·exact⟨b,rfl⟩
 all_goals cases h
def Dz{d:D}(h:nV d=some B):∃i b,d=.tup [.str B,.int i,.bool b]:=cB h λp Y h=>cB Y λx g Y=>ak (GY h) λm t=>af (Ye.mp (an m).1) λi T=>af (Nq (an m).2) λb Q=>⟨i,b,aa (gL g)<|aa (Ek Y)<|aa (xr t)<|aa (bj T)<|aa Q rfl⟩
def Hu(r:DR Z.W h o v d)(e:yg k d):g8 Z.W k h v:=by
 unfold yg at e;rcases q:nV d with _|l
 ·rw[q] at e;cases e
 ·rw[q] at e
  rw[<-WY e] at q;refine d9 (Dz q) λi b f=>?_;clear q;subst f;obtain⟨a,g,rfl,⟨n,m⟩,_,_,r⟩:=r.eD;obtain⟨_,_,rfl,Q,r⟩:=r.bZ;obtain⟨_,_,rfl,T,r⟩:=r.bZ;obtain⟨_,_,rfl,w,r⟩:=r.bZ;rw[r.dZ] at m;refine af Q.g6 λt j=>?_;obtain rfl:=j;clear r;obtain⟨p,rfl⟩:=T.cW;rw[w.eZ] at m;exact⟨a,t,i,p,b,n,rfl,m⟩
def F5(r:bL Z.W h o g l)(e:m6 l)(i:l≠[]):∃k,∀v∈g,g8 Z.W k h v:=by
 obtain _|⟨d,l⟩:=l
 ·exact agR rfl i
 ·have e:(match nV d with|some k=>(d::l).all (yg k)|none=>false)=true:=e
  rcases q:nV d with _|k
  ·rw[q] at e;cases e
  ·rw[q] at e
   refine⟨k,λv Y=>?_⟩;exact af (aah.mp Y) λj f=>ae (r.get' f) λd a t=>Hu t<|Wt.mp e d<|X0 a
def IJ(g:g8 Z.W k s.heap x)(d:g8 Z.W k s.heap y)(h:∀b l,C b {s with toks:=l}):
  adA (adB Z.prog Z.w) A (keyLt' (tuples' true) x y) C E s:=eS g λa t i l b n e G=>by
 clear g;subst e;refine eS d λI o J r B N e z=>?_;clear d;subst e;refine kat_lt G rfl z rfl ?_;have f:∀b,C b s:=λb=>h b s.toks;refine afE<|eqBool_str<|aa (show(Z.W.st k==Z.W.st k)=true from by simp) ?_;refine afF<|afE<|af1 ?_;rcases T:(i==J) with _|_
 ·exact kat_no (kat_one _ _<|PyProof.Rows.lt_int<|f _)
 ·have Q:EqAt A s (.bool b) (.bool B) (b==B):=EqAt.bool_bool b B
  refine afF<|afE<|Q Z.prog Z.w _ _ ?_;rcases L:(b==B) with _|_
  ·exact kat_no (kat_one _ _<|PyProof.Rows.lt_bool<|f _)
  ·exact afF (kat_nil<|f _)
def Aa(o:∀v∈g,g8 Z.W k s.heap v)(l:g≠[])(h:Q (tuples' true) s):adA (adB Z.prog Z.w) A (keyKind' g.toArray) Q E s:=by
 have:∃fs,KatTups s.heap g fs/\fs.length=g.length/\∀f∈fs,∃t,f=.str (Z.W.st k) t:=by
  clear l h
  induction g with
  |nil=>exact⟨[],KatTups.nil,rfl,by simp⟩
  |cons v g I=>
   refine aj (I λv d=>o v<|Wu _ d) λfs m x Y=>eS (o v (Wr ..)) λa t i j b n e G=>?_;clear o;subst e;exact⟨.str (Z.W.st k) t::fs,KatTups.cons G rfl rfl rfl m,by simp [x],λf hf=>by
    obtain rfl|hf:=Wo.mp hf
    ·exact⟨_,rfl⟩
    ·exact Y f hf⟩
 refine aj this λfs m x Y=>kat_kind (T:=.type "str") m (by exact aa x<|List.length_pos_iff.mpr l) (λf hf=>?_) rfl h;refine af (Y f hf) λt e=>?_;clear hf;subst e;exact .now
def bL.perm(p:b.Perm vs):∀{l:List D},bL W h o vs l->∃a,a.Perm l/\bL W h o b a:=by
 induction p with
 |nil=>exact λr=>⟨_,YT _,r⟩
 |cons x p i=>intro l r;cases r with|cons Q r=>exact ae (i r) λa h1 h2=>⟨_,h1.cons _,.cons Q h2⟩
 |swap x y l=>intro l r;cases r with|cons Q r=>cases r with|cons T r=>exact⟨_,acI ..,.cons T<|.cons Q r⟩
 |trans p q I J=>intro l r;exact ae (J r) λl1 h1 h2=>ae (I h2) λl2 Y d=>⟨l2,Y.trans h1,d⟩
def xG(M:∀b o,b≠a->h.get? b=some o->G.get? b=some o)(J:∀o,h.get? a=some o->o.cls≠ .type "tuple")(x:g8 Z.W k h v):g8 Z.W k G v:=eS x λb t i T p n f Q=>by
 clear x;subst f;refine⟨b,t,i,T,p,n,rfl,M b _ (λe=>?_) Q⟩;clear M;subst e;exact J _ Q rfl
def nU(f:s.heap.get? a=some (adE "list" g.toArray n))(r:bL Z.W h₁ ow g l)(al:∀v k,g8 Z.W k h₁ v->g8 Z.W k s.heap v)
  (d:l.length<=4) (T:m6 l)
  (h:∀(am:List Value)(ap:List D) z,ap.Perm l->bL Z.W h₁ ow am ap->am.length=g.length->Pq (.done (.ret .none)) {s with heap:=aei s.heap a g am.toArray,toks:=z}):
  adA (adB Z.prog Z.w) A (Builtin.«list.sort» ⟨[.ref a],[]⟩) Pq E s:=by
 have G:=r.length;by_cases t:g.length<2
 ·exact CJ f t (h g l s.toks (YT _) r rfl)
 ·have I:l≠[]:=by intro e;rw[e] at G;simp at G;simp [G] at t
  refine af (F5 r T I) λk p=>?_;have N:∀(U:adx),(∀b o,b≠a->s.heap.get? b=some o->U.heap.get? b=some o)->∀v∈g,g8 Z.W k U.heap v:=λU M v x=>
   xG M (λo e=>by rw[f] at e;cases e;exact λe=>by simp at e) (al v k<|p v x)
  refine xR f (acv t) (l6 G d) (λU Q E M q=>Aa (N U M) (by intro e;clear f r h G p N;subst e;simp at t) q) (λU i j C M y B hC=>?_) (λam z Y=>?_)
  ·have ag:g.getD i Value.none∈g:=by simp [y]
   have ac:g.getD j Value.none∈g:=by simp [B]
   exact IJ (N U M _ ag) (N U M _ ac) hC
  ·exact ae (bL.perm Y r) λap m t=>h am ap z m t Y.length_eq
end
def yC:aeG (.type "tuple") "keys"=pure none:=by rw[afG,afH];kernel_rfl
section
variable{b:Program}{w:World}{A:adC}{E:Value->adx->Prop}{s:adx}
def Ff(hx:s.heap.get? a=some {cls:=.type "tuple",dict:=none,data:=.seq xs k})(hA:A.handled=none)
  (h:∀h' tk,Kp s.heap h'->Q none {s with heap:=h',toks:=tk}):adA (adB b w) A (getAttr? (.ref a) "keys") Q E s:=by
 obtain⟨hp,g,d,tk,os⟩:=s;have hT:∀tk',(⟨hp,g,d,tk',os⟩:adx).TypeIs (.ref a) "tuple":=λ_=>⟨_,hx,rfl⟩;have f1:=sub_AttributeError;have f3:=F.slot_tuple_getattribute.lookup;have f4:=F.slot_tuple_getattribute.bind<|.ref a;have f5:=am_tuple_getattr_none
 repeat (any_goals (first|assumption|exact hT _|((with_reducible show adA _ _ (call (Value.builtin "tuple.__getattribute__") _ _) _ _ _);refine aeD F.slot_tuple_getattribute (hT _) am_entry_tuple_getattribute (F.args_tuple_getattribute_2 _ _) (meets_getattribute_miss_tuple a xs k _ "keys" _ yC (by decide+kernel) (by decide+kernel)) ⟨hx,hA,λh' tk' e hx'=>?_⟩)|wp_step))
 refine d9 hx'.there λt' u' he=>?_;show adA _ _ (getattributeRaised _ _ _ _ _ _ _) _ _ _
 repeat (any_goals (first|assumption|wp_step))
 exact h h' tk' hx'.keeps
def cD:plainId "dict.update.loop":=by decide+kernel
def eV:afb table "dict.update.loop"=some Builtin.«dict.update.loop»:=agj<|by kernel_rfl
end
def Mw(h:two l=some p):l=[p.1,p.2]:=by
 obtain _|⟨_,l⟩:=l
 ·exact no h
 ·obtain _|⟨_,l⟩:=l
  ·exact no h
  ·cases l with|nil=>exact Wn h▸rfl|cons=>exact no h
def qv(e:fK (d::l)=some E):∃a b r,d=.tup [a,b]/\fK l=some r/\E=(a,b)::r:=cB e λp Y e=>cB Y λx h Y=>fZ e λr k e=>⟨p.1,p.2,r,aa (gL h)<|aa (Mw Y) rfl,k,e.symm⟩
def mw(e:dE k g ((a,b)::E)=some A):(kd a=k/\g.length<lim)/\dE k (fV a b g) E=some A:=fs e
def Ir(r:DR W h o v (.tup [a,b])):∃T n k p,v=.ref T/\h.get? T=some {cls:=.type "tuple",data:=.seq #[k,p] n}/\DR W h o k a/\DR W h o p b:=by
 obtain⟨T,g,rfl,⟨n,m⟩,_,_,r⟩:=r.eD;obtain⟨k,_,rfl,Q,r⟩:=r.bZ;obtain⟨p,_,rfl,U,r⟩:=r.bZ;rw[r.dZ] at m;exact⟨T,n,k,p,rfl,m,Q,U⟩
section
variable{Z:Wd}{A:adC}{E:Value->adx->Prop}{s:adx}
def VA(I:h.get? T=some {cls:=.type "tuple",data:=.seq #[k,v] n})(q:Q [k,v] {s with heap:=h,toks:=t}):adA (adB Z.prog Z.w) A (Builtin.Dict.pairItems<|.ref T) Q E {s with heap:=h,toks:=t}:=adw<|wpAny_typeOf ⟨_,I,rfl⟩<|aa (agO rfl)<|adw<|ad3 I rfl<|ady q
def Ea{I:Array Value}(Y:I[B]?=some v):I.toList.drop B=v::I.toList.drop (B+1):=by
 rw[<-XU] at Y;exact af (Xb.mp Y) λh e=>aa (List.drop_eq_getElem_cons h)<|aa e rfl
def j4{b:List ((Str ⊕ Int)×Value)}{h G:Heap}(x:h.DictOf (bk Z.prog Z.w) L b)(k:∀o,h.get? L=some o->G.get? L=some o):G.DictOf (bk Z.prog Z.w) L b:=x.elim λo x=>x.elim λl x=>x.elim λe x=>⟨o,l,e,k o x.1,x.2⟩
def ub{sB:adx}{hB:Heap}{B ax:Addr}{a4:Array Value}{ap:List (D×D)}{R:aeF->adx->Prop}(z:A.handled=none)(cb:L≠B)(cd:L≠ax)(ce:ax≠B)(g:hB.get? L=none)(p:hB.get? B=none)
  (hR:∀(ci:adx) be,Kp hB ci.heap->Sm sB ci->ci.heap.DictOf (bk Z.prog Z.w) L be->lJ Z.W hB j be ap->ap.length<=lim->R (.ok (.ret .none)) ci):
  ∀(l:List D)(i:Nat)(a8 cl:List (D×D))(ag:List ((Str ⊕ Int)×Value))(s:adx)(tk:Tok),fK l=some cl->dE 1 a8 cl=some ap->bL Z.W hB j (a4.toList.drop i) l->i<=a4.size->
   s.heap.IsTupleIter B ax i->s.heap.IsTuple ax a4->Kp hB s.heap->Sm sB s->s.heap.DictOf (bk Z.prog Z.w) L ag->lJ Z.W hB j ag a8->a8.length<=lim->
   adR (adB Z.prog Z.w) A (.builtin "dict.update.loop" ⟨[.ref L,.ref B,.int i tk,.none],[]⟩) R s:=by
 have W:=acZ (prog:=Z.prog) (w:=Z.w) (A:=A.in1) z B ax ce a4;intro l
 induction l with
 |nil=>
  intro i a8 cl ag s tk ch k N cc a7 ca M mS bu hL a0;obtain rfl:=Wn ch;cases Wn k;have J:a4.size<=i:=by exact av Xd<|List.drop_eq_nil_iff.mp N.dZ
  refine ad8 eV<|aa (Yk cD _) ?_;clear N;obtain rfl:=ZG cc J;refine adw<|W.done s _ _ ⟨a7,ca⟩ λG bi al=>adw<|ady ?_;have a6:∀b o,b≠B->s.heap.get? b=some o->G.get? b=some o:=λb o Q e=>al b o (λq=>Q<|Wj.mp q) e;exact ady<|hR _ ag (λb o e=>a6 b o (λq=>by rw[q,p] at e;exact no e) (M b o e)) mS (j4 bu λo=>a6 L o cb) hL a0
 |cons x l I=>
  intro i a8 cl ag s tk ch k N cc a7 ca M mS bu hL a0;refine bK (qv ch) λa b r f bn aw=>?_;clear ch;subst f;subst aw;refine ak (mw k) λac k=>?_;obtain⟨a3,am⟩:=ac;have bl:i<a4.size:=by
   have h:=N.length;rw[YR,Xd] at h;exact aci<|h▸X9 _
  refine ad8 eV<|aa (Yk cD _)<|adw<|W.item i s _ _ bl ⟨a7,ca⟩ λv G bi c bm al=>?_;have a6:∀b o,b≠B->s.heap.get? b=some o->G.get? b=some o:=λb o Q e=>al b o (λq=>Q<|Wj.mp q) e;have a9:Kp hB G:=λb o e=>a6 b o (λq=>by rw[q,p] at e;exact no e) (M b o e);rw[Ea c] at N;clear c;refine aq (L2.t7 N) λ_ _ e u rr=>?_;cases e;refine bE (Ir u) λT nT ku vu f hT rk rv=>?_;subst f;refine adw<|adD<|adw<|wpAny_tryCatch<|VA (a9 _ _ hT)<|ae (fO rk<|Xf a3) λa2 m t=>?_;have n:=iw bu;refine adD<|wpAny_dictSet_pairs m (j4 bu λo=>a6 L o cb) (λbv a5 ar=>?_) (by exact aa hL.length<|ba a0);rw[gx n] at a5;exact ady ⟨aeu cD _,I (i+1) _ r _ _ 0 bn k rr bl (bm.1.at λo e=>ar.2 B (YK cb)▸e) (bm.2.at λo e=>ar.2 ax (YK cd)▸e)
   (λb o e=>(ar.2 b (λq=>by rw[q,g] at e;exact no e)).trans (a9 b o e)) mS a5
   (kK (λa y Y=>iV t Y) ⟨t,rv⟩ (λ_ _ h=>h) (λ_=>rv) hL) (Wh oX am)⟩
end
def dT(h:Heap)(r:Addr)(a:Int)(n:Nat):Prop:=∃b t u v,IsRange h r a b 1 t u v/\ZZ a b 1=n/\Builtin.Range.small a b 1=true/\n<=lim
section
variable{c:Program}{w:World}{A:adC}{E:Value->adx->Prop}{s:adx}
def dT.ext(x:dT h r a n)(k:Kp h G):dT G r a n:=bE x λb t u v h1 Q T y=>⟨b,t,u,v,k _ _ h1,Q,T,y⟩
def tW(y:A.handled=none)(k:dT s.heap r a n)
  (q:∀(f:adx)(I:Addr)(St:Nat->Heap->Prop),aeS c w A I [I] [I] n (λi v=>∃t,v=.int (a+i) t) St->St 0 f.heap->s.heap.get? I=none->I=s.heap.objs.size->
   Kp s.heap f.heap->(∃h,f={s with heap:=h})->Q (.ref I) f):adA (adB c w) A (adK<|.ref r) Q E s:=by
 refine bE k λb t u v m x Y d=>agk m Y ?_;have W:=Walks.range (prog:=c) (w:=w) y s.heap.objs.size a 1 n;have e:(λ(i:Nat) (v:Value)=>∃t,v=.int (a+i*1) t)=λi v=>∃t,v=.int (a+i) t:=by
  funext i v;rw[aaP]
 rw[e] at W;refine q _ s.heap.objs.size _ W ?_ (bX _) rfl (Kp.push _ _) ⟨_,rfl⟩;refine aa x ?_;simpa using WA _ rfl
def nv(y:A.handled=none)(k:dT s.heap r a n)
  (L:∀(f:adx)(o:Array Value),Kp s.heap f.heap->Sm s f->aeg (λi v=>∃t,v=.int (a+i) t) o n->Q o.toList f):adA (adB c w) A (collect (.ref r)) Q E s:=by
 refine bE (id k) λb t u v h x Y d=>fB ⟨_,h,rfl⟩ rfl rfl (λj M Q E p=>?_) (λj M g K E z=>?_) (ba d) L
 ·exact wpAny_hint_range (M _ _ h) x (by unfold lim at d;exact cy d rfl) (p _ _)
 ·refine tW y (k.ext M) λJ I St W st G N B e=>?_
  obtain⟨l,rfl⟩:=e;refine z _ I [I] [I] St W st (λb T=>by exact aa (Wj.mp T) G) (λT=>?_) B ⟨_,_,rfl⟩;have:=Wj.mp T;clear W G T;subst this;exact agR N<|Xi g
def jy(hh:A.handled=none)(hr:dT s.heap r a n)
  (h:∀(s':adx)(acc:Array Value),Kp s.heap s'.heap->Sm s s'->aeg (λi v=>∃t,v=.int (a+i) t) acc n->Q₁ (.ref s'.heap.objs.size) {s' with heap:=s'.heap.push {cls:=.type "tuple",data:=.seq acc}}):
  adR (adB c w) A (.call (.builtin "tuple.__new__") ⟨[.type "tuple",.ref r],[]⟩) (wants Q₁ E) s:=by
 have hn:=bE hr λ_ _ _ _ _ _ _ h4=>h4;refine aeI<|adw<|aej (F.newCall_tuple_1 _)<|ady ⟨aeu acL _,ad8 F.entry_tuple_new ?_⟩;refine aa (Yk acL _) ?_;have hsub:=sub_tuple_self;have hinit:=init_tuple_lookup;have hmh:=madeHere_tuple;have hTI:s.TypeIs (.ref r) "range":=bE hr λ_ _ _ _ h1 _ _ _=>⟨_,h1,rfl⟩
 wp_walk using wpAny_typeOf hTI,nv (A:=A.in1) hh hr
 intro s' acc hm ms hacc;show adA _ _ (YF acc.toList.toArray>>=λv=>ret v) _ _ _;refine adw<|adT ?_ (by show acc.toList.toArray.size<=sizeLine;simp only[abL];exact aa hacc.1<|ba hn);refine ady ?_;have e:acc.toList.toArray=acc:=rfl;exact aa e<|h s' acc hm ms hacc
def jO(y:A.handled=none)(k:dT s.heap r a n)
  (p:∀(T:adx)(o:Array Value),Kp s.heap T.heap->Sm s T->aeg (λi v=>∃t,v=.int (a+i) t) o n->Q (.ref T.heap.objs.size) {T with heap:=T.heap.push {cls:=.type "tuple",data:=.seq o}}):
  adA (adB c w) A (call (.type "tuple") [.ref r]) Q E s:=by
 refine agl (Q₁:=λG j=>j.TypeIs G "tuple"/\Q G j) F.called_tuple (F.typeCall_tuple_1 _) F.entry_object_init
  (jy (A:=A.in1) y k λT o h ms L=>⟨⟨_,WA _ rfl,rfl⟩,p T o h ms L⟩) λG j l=>?_
 exact⟨l.1,F.args_object_init_2 G _,object_init_meets F.called_tuple.init.lookup F.called_tuple.made rfl c w A.in1 _ j ⟨l.1,rfl,l.2⟩⟩
end
section
variable{Z:Wd}{A:adC}{E:Value->adx->Prop}{s:adx}
def E9:∀{n:Nat}{a:Int}{g:List Value},g.length=n->(∀(i:Nat) v,g[i]?=some v->∃t,v=.int (a+i) t)->bL W h o g (aU a n):=by
 intro n
 induction n with
 |zero=>intro a g e _;obtain rfl:=XM.mp e;exact .nil
 |succ n I=>
  intro a g e h;obtain _|⟨v,g⟩:=g
  ·exact YG e
  ·refine .cons (by refine af (h 0 v rfl) λt e=>?_;rw[e,Int.natCast_zero,XI];exact .int _ _) (I (Yb e) λi w x=>?_)
   exact af (h (i+1) w x) λt e=>⟨t,by rw[e,Int.natCast_succ,Xc,XJ 1 (i:Int)]⟩
def qB(x:aeg (λi v=>∃t,v=.int (a+i) t) o n):bL W h r o.toList (aU a n):=
 E9 (Xd.trans x.1) λi v Y=>x.2 i v<|XU▸Y
def ei(n:Nat):∀a:Int,(aU a n).length=n:=by
 induction n with
 |zero=>exact λ_=>rfl
 |succ n i=>exact λa=>agN Y6<|i _
def zu(h:AY v=some i):v=.d (.int i):=by
 obtain x|_:=v
 ·exact agN V.d (bj (show x.fU=some i from by cases x<;>exact h))
 ·exact no h
def iL(r:VR Z.W s.heap P u v)(h:AY v=some i):∃t,u=.int i t:=(zu h▸r).dd.cW
def sD(x:IsRange h r a b 1 t u v)(G:a.natAbs<=500000)(Q:b.natAbs<=500000):dT h r a (b - a).toNat:=by
 have T:ZZ a b 1=((b - a).toNat:Int):=by rw[rangeSize_one];exact M6.symm
 exact⟨b,t,u,v,x,T,small_one (Dw G).1 (Dw G).2 (Dw Q).1 (Dw Q).2,OK G Q⟩
def tR(r:j3 Z.W s.heap P Y v)(e:iA v=some l)
  (q:∀z (i:adx) a n,Kp s.heap i.heap->Sm s i->dT i.heap z a n->l=aU a n->Q (.ref z) i):adA (adB Z.prog Z.w) A (call (.type "range") Y) Q E s:=by
 obtain _|⟨x,v⟩:=v
 ·exact no e
 obtain _|⟨y,v⟩:=v
 ·refine cB e λa G e=>?_
  obtain⟨T,e⟩:=fs e;refine aq r.bZ λ_ _ f c k=>?_;clear r;subst f;obtain rfl:=k.dZ;refine af (iL c G) λt g=>?_;obtain rfl:=g;refine call_range_1<|q _ {s with heap:=_,toks:=_} 0 (a - 0).toNat (Kp.push _ _) ⟨rfl,rfl⟩ (sD (acJ ..) (ab rfl) T) ?_;rw[abH];exact(Wn e).symm
 obtain _|_:=v
 ·refine cB e λa G e=>cB e λb T e=>?_
  obtain⟨⟨h,u⟩,e⟩:=fs e;refine aq r.bZ λ_ _ f c k=>?_;clear r;subst f;obtain⟨_,_,rfl,d,k⟩:=k.bZ;obtain rfl:=k.dZ;obtain⟨t,rfl⟩:=iL c G;obtain⟨o,rfl⟩:=iL d T;exact call_range_2<|q _ {s with heap:=_,toks:=_} a (b - a).toNat (Kp.push _ _) ⟨rfl,rfl⟩ (sD (acJ ..) h u) (Wn e).symm
 ·exact no e
end
def Gv(Z:Wd)(A:adC)(t:Sem Value)(s:adx)(P:aF)(Q:V->UT->Prop):Prop:=
 ∀(K:Value->adx->Prop)(E:Value->adx->Prop),(∀u v T p Y,Gd Z T p Y->Step [] s.heap P T.heap p->VR Z.W T.heap p u v->Q v Y->K u T)->adA (adB Z.prog Z.w) A t K E s
def DM(h:ok o k):∃a,o=some a/\k a:=by
 obtain _|a:=o
 ·exact h.elim
 ·exact⟨a,rfl,h⟩
def ed{L:Type}{o:Option L}{k:L->Prop}{G:Prop}(h:ok o k)(q:∀a,o=some a->k a->G):G:=ae (DM h) q
def lx(h:rO b k):b=true/\k:=by
 obtain _|_:=b
 ·exact h.elim
 ·exact⟨rfl,h⟩
def jC{b:Bool}{k G:Prop}(h:rO b k)(q:b=true->k->G):G:=q (lx h).1 (lx h).2
section
variable{Z:Wd}{A:adC}{E:Value->adx->Prop}{s:adx}{P:aF}{b:UT}{u v:Value}{Q:V->UT->Prop}
def Good.kp{g:Array adQ}(G:Gt Z s.heap o g P b)(k:Kp s.heap h):Gt Z h o g P b/\Step [] s.heap P h P:=⟨G.ext k,Step.ext k⟩
def Kp.stays(k:Kp h G):bq h l G l:=λa o I f _=>⟨k a o f,I⟩
noncomputable def JB:Nat->Value
 |0=> .builtin "len"|1=> .type "tuple"|2=> .type "list"|3=> .type "dict"|4=> .builtin "sorted"|6=> .builtin "sum"|7=> .builtin "min"|8=> .builtin "max"|9=> .builtin "abs"|10=> .type "int"|_=> .builtin "all"
def fD(k:Kp h G)(e:G.objs.size<=a):h.get? a=none:=by
 rcases q:h.get? a with _|o
 ·rfl
 ·exact agR (WU<|k _ _ q) (Zu.mpr e)
def yV(G:Gd Z s P b)(r:XR Z s.heap (own P) u x)(e:jU x=some (k,l))(M:k<=1)(q:Q (.d (.tup l)) b):Gv Z A (call (.type "tuple") [u]) s P Q:=by
 intro K E T;refine aG (je r e<|Xi<|XA M) λa g f h t Y=>?_;clear r;subst f;clear e M;obtain⟨rfl,h,j⟩|⟨rfl,h⟩:=h
 ·exact call_tuple_same h.i (T _ _ s P b G (Step.refl ..) (.d<|.tup h j t Y) q)
 ·refine call_tuple_list h.i (λI w=>?_) (ba t)
  have B:Kp s.heap (I.push {cls:=.type "tuple",data:=.seq g.toArray}):=Kp.trans w<|Kp.push _ _;exact T _ (.d<|.tup l) {s with heap:=_} P b (Good.kp G B).1 (Good.kp G B).2 (.d<|.tup ⟨0,WA _ rfl⟩ (G.fresh<|fD w<|WC _) t<|bL.stays B.stays Y) q
def ES(G:Gd Z s P b)(r:XR Z s.heap (own P) u x)(e:jU x=some (0,l))(q:Q (.d (.lst l)) b):Gv Z A (call (.type "list") [u]) s P Q:=by
 intro K E T;refine aG (je r e<|by decide) λa g f h t Y=>?_;clear r;subst f;obtain⟨_,⟨n,h⟩,_⟩|⟨o,_⟩:=h
 ·exact call_list_seq a (.inr rfl) h rfl rfl (λI c w m=>T _ (.d<|.lst l) {s with heap:=_} P b (Good.kp G w).1 (Good.kp G w).2 (.d<|.lst ⟨c,m⟩ (cA G) t<|bL.stays (Kp.stays w) Y) q) (ba t)
 ·cases o
def wX{Q:Value->adx->Prop}(y:A.handled=none)(h:s.heap.get? a=some {cls:=.type "tuple",data:=.seq g.toArray n})
  (Y:bL Z.W s.heap r g l) (G:fK l=some e) (x:dE 1 [] e=some am)
  (q:∀(T:adx) ap,Kp s.heap T.heap->Sm s T->T.heap.DictOf (bk Z.prog Z.w) s.heap.objs.size ap->lJ Z.W s.heap r ap am->am.length<=lim->Q (.ref s.heap.objs.size) T):adA (adB Z.prog Z.w) A (call (.type "dict") [.ref a]) Q E s:=by
 refine agl (Q₁:=λI i=>I=.ref s.heap.objs.size/\i={s with heap:=s.heap.push {cls:=.type "dict",data:=.dict #[]}}) F.kt_called_dict (F.kt_typeCall_dict_1 _) F.entry_dict_init (kt_code_dict_new _ ⟨rfl,rfl⟩) ?_;rintro I i ⟨rfl,rfl⟩;have U:(s.heap.push {cls:=.type "dict",data:=.dict #[]}).DictOf (bk Z.prog Z.w) s.heap.objs.size []:=aaQ s.heap;refine⟨U.typeIs,F.args_dict_init_2 _ _,?_⟩;refine adw<|adw<|wpAny_notOrdered_dict U.typeIs<|ady ?_;have J:(s.heap.push {cls:=.type "dict",data:=.dict #[]}).get? a=some {cls:=.type "tuple",data:=.seq g.toArray n}:=Kp.push _ _ _ _ h;refine adw<|wpAny_typeOf ⟨_,J,rfl⟩<|aa (agO rfl)<|adw<|Ff J y λp al k=>aa (agO rfl)<|adw<|adZ ?_;have ac:=k _ _ J;have M:=k _ _<|WA _ rfl;have c:=WU M;have z:p.IsTuple a g.toArray:=⟨_,ac,rfl,n,rfl⟩;refine adw<|afy z ?_;have ag:=Kp.trans (Kp.push _ _) k;exact ady ⟨aeu cD _,ub (A:=A.in1) y (Xi c) (YZ<|WU h) (Xi<|WU ac) (bX _) (fD ag<|WC _)
  (λT ap t m j d N=>⟨rfl,q T ap t m j d N⟩) l 0 [] e [] _ 0 G x Y (Wz _) ⟨_,WA _ rfl,rfl,rfl⟩ (z.push _) (Kp.trans ag<|Kp.push _ _) ⟨rfl,rfl⟩ (j4 U λo f=>Kp.push _ _ _ _<|k _ _ f) .nil (Wz _)⟩
def pS(G:Gd Z s P b)(y:A.handled=none)(r:XR Z s.heap (own P) u x)(e:jU x=some (0,l))(I:fK l=some i)(w:dE 1 [] i=some al)
  (q:Q (.loc b.length) (b++[.dict 1 al])):Gv Z A (call (.type "dict") [u]) s P Q:=by
 intro K E U;refine aG (je r e<|by decide) λa g f h t c=>?_;clear r;subst f;obtain⟨_,⟨n,h⟩,_⟩|⟨B,_⟩:=h
 ·refine wX y h c I w λT L k m ac N ag=>?_
  have M:s.heap.get? s.heap.objs.size=none:=bX _;exact aC (G.new (p:=⟨s.heap.objs.size,s.heap.objs.size⟩) (o:=.dict 1 al) (h':=T.heap) k M M λS=>⟨rfl,ag,.inl ⟨WC _,L,ac,N.mono λ_ _ z=>⟨z.1,z.2.stays S⟩⟩⟩) λd j Y=>U _ _ T _ _ (d.sm m) j (.loc Y) q
 ·cases B
end
def jH:∀{l:List D}{n:List Int},cP l=some n->l=n.map D.int:=by
 intro z
 induction z with
 |nil=>
  intro _ e;exact Wn e▸rfl
 |cons d l I=>
  intro _ e;refine cB e λi T e=>fZ e λr h E=>?_;clear e;subst E;refine aa (bj T)<|aa (I h) ?_;rfl
def U9:∀{N:List Int}{g:List Value},bL W h o g (N.map D.int)->ad4 g N:=by
 intro z
 induction z with
 |nil=>
  intro _ r;exact r.dZ▸ .nil
 |cons n N i=>
  intro _ r;refine aq r.bZ λv g e Q k=>?_;clear r;subst e;refine af Q.cW λt e=>?_;subst e;exact .cons _ _<|i k
def qE(x:ad4 v N):bL W h ow v (N.map D.int):=by
 induction x with
 |nil=>exact .nil
 |cons n t _ i=>exact .cons (.int _ _) i
def L2.of_get:∀{as:List c}{bs:List Y},as.length=bs.length->(∀(i:Nat) a b,as[i]?=some a->bs[i]?=some b->R a b)->L2 R as bs:=by
 intro as
 induction as with
 |nil=>intro bs e _;obtain rfl:=XM.mp e.symm;exact .nil
 |cons a as I=>
  intro bs e h;obtain _|⟨b,bs⟩:=bs
  ·exact YG e
  ·exact .cons (h 0 _ _ rfl rfl) (I (Yb e) λi a b h1 h2=>h (i+1) a b h1 h2)
section
variable{Z:Wd}{A:adC}{E:Value->adx->Prop}{s:adx}{P:aF}{c:UT}{u v:Value}{Q:V->UT->Prop}
def xX{m:List ((Str ⊕ Int)×Value)}{e:List (D×D)}{n:List Int}(p:lJ Z.W h j m e)(l:e.map (·.1)=n.map D.int){o:Array Value}(G:aeg (λi v=>∃k x,m[i]?=some (k,x)/\nW k v) o m.length):bL Z.W h [] o.toList (n.map D.int):=by
 refine av l<|L2.of_get (by rw[Xd,Wm,G.1];exact p.length) λi v d a b=>cF (G.2 i v<|XU▸a) λL x g B=>aj (p.get' g) λw M I _=>?_;have z:w.1=d:=by rw[Xh,M] at b;exact Wn b
 refine av z ?_;rcases I with⟨N,Y,f⟩|⟨N,Y,f⟩<;>refine aa Y ?_<;>rw[show L=_ from f] at B
 ·clear a;obtain _|_|_|_|_|_|⟨y,t⟩|_|_|_|_:=v
  iterate 6 cases B
  ·exact aa (agQ.mp B)<|.str rfl
  all_goals cases B
 ·clear a;obtain _|_|_|_|⟨y,t⟩|_|_|_|_|_|_:=v
  iterate 4 cases B
  ·exact aa (agQ.mp B)<|.int _ _
  all_goals cases B
def oU(y:A.handled=none)(r:XR Z s.heap ap u x)(e:jU x=some (k,N.map D.int))(I:N.length<64)
  (K:List Value->adx->Prop) (z:∀g (ac:adx),Kp s.heap ac.heap->Sm s ac->ad4 g N->K g ac):adA (adB Z.prog Z.w) A (collect u) K E s:=by
 obtain _|_|_|_|l|l|⟨J,i⟩|_:=x;iterate 4 exact no e
 ·cases Wn e
  refine az r λa g f ag t Y _=>?_;clear r;subst f;refine af ag λn h=>?_;exact afI a (T:="tuple") (items:=g.toArray) (.inr rfl) h rfl rfl (λG L=>z _ {s with heap:=_} L ⟨rfl,rfl⟩ (U9 Y)) (ba t)
 ·cases Wn e
  refine aG r λa g f ag t Y=>?_;clear r;subst f;refine af ag λn h=>?_;exact afI a (T:="list") (items:=g.toArray) (.inl rfl) h rfl rfl (λG L=>z _ {s with heap:=_} L ⟨rfl,rfl⟩ (U9 Y)) (ba t)
 ·refine ak (fs e) λM e=>aj r λd f R j=>?_;clear r;subst f
  have m:=(Yr<|Wn e).2;obtain⟨_,p,b,hL⟩|⟨t,_⟩:=R
  ·have am:p.length=N.length:=by rw[hL.length,<-Wm,m,Wm]
   exact o5 (knd:=bk Z.prog Z.w) y j b (by exact aa am<|ba (Wh (Yz I)<|ab rfl)) λU o k3 m3 al=>z _ U k3 m3<|U9<|xX hL m al
  ·rw[M] at t;cases t
 exact no e
def qW{vs out:List Value}(r:Kp h G):Kp h (aei (G.push (adE "list" vs.toArray 0)) G.objs.size vs out.toArray):=λb o T=>by
 have g:=WU<|r _ _ T;exact aa (afD (Xi g) (by rw[size_push'];exact WM g))<|Wx _ (r _ _ T)
def qG{l:List D}(G:Gd Z s P c)(N:kI s.heap a J.toArray)(M:J.length<=lim)(B:bL Z.W s.heap (own P) J l)(g:l.length<=4)(h:m6 l)(q:∀ac,ac.Perm l->Q (.d (.lst ac)) c):Gv Z A (call (.builtin "sorted") [.ref a]) s P Q:=by
 intro K E U;refine af N λn N=>aa6 kind_sorted age agf (agg _)<|adw (m:=checkCount "sorted" 1 1 _)<|ady<|adw<|afI a (T:="list") (items:=J.toArray) (.inl rfl) N rfl rfl (λI w=>?_) (ba M);refine adw<|aeH ?_<|ba M;have y:(I.push<|adE "list" J.toArray 0).get? I.objs.size=some (adE "list" J.toArray 0):=WA _ rfl;refine adw<|adD (adL afA (s:={s with heap:=I.push (adE "list" J.toArray 0)}) ⟨_,y,rfl⟩ afB
  (nU (Z:=Z) (h₁:=s.heap) (ow:=own P) (l:=l) y B (λv k z=>z.elim λb z=>z.elim λt z=>z.elim λi z=>z.elim λr z=>z.elim λp z=>z.elim λm z=>⟨b,t,i,r,p,m,z.1,Kp.push _ _ _ _<|w _ _ z.2⟩) g h λout ac r Y o f=>?_) (afC _))
 refine⟨_,rfl,ady ⟨_,rfl,?_⟩⟩;refine af (sortedHeap_at (out:=out.toArray) y) λe j=>?_;have x:=qW (vs:=J) (out:=out) w;exact U _ (.d<|.lst ac) {s with heap:=_,toks:=_} P c (Good.kp G x).1 (Good.kp G x).2 (.d<|.lst ⟨e,j⟩ (G.fresh<|fD w<|WC _) (by exact aa f M) (bL.stays x.stays o)) (q ac Y)
def w8{v:V}(G:Gd Z s P c)(y:A.handled=none)(r:VR Z.W s.heap P u v)(e:LA Z.T 4 [v] c Q):Gv Z A (call (.builtin "sorted") [u]) s P Q:=ed e λz o e=>by
 obtain⟨k,l⟩:=z;have o:=o;have r:=br G r;revert e;rcases t:cP l with _|ns
 ·intro e
  refine jC e λb q=>ak (an b) λb U=>ak (an b) λM j=>?_;clear e b;obtain rfl:=WY M;refine aG (je r o<|by decide) λa g f I h6 h7=>?_;clear r;subst f;obtain⟨p,_⟩|⟨_,I⟩:=I
  ·cases p
  ·exact qG G I h6 h7 (Wi j) U q
 ·intro e K E x
  refine jC e λb q=>?_;have b:=Wi b;rw[jH t] at o;exact lX (ns:=ns) (λK E w=>oU (A:=A.in1) y r o b K λg J k m h=>w g ns J k m h<|YT _) b λY la L n N m3 ac i B=>x _ _ Y P c ((Good.kp G N).1.sm m3) (Good.kp G N).2 (.d<|.lst ⟨n,i⟩ (G.fresh ac) (by refine aa (Zn B)<|aa ((sortI_perm ns).length_eq) ?_;exact Wh (Yz b)<|ab rfl) (qE B)) q
end
section
variable{Z:Wd}{A:adC}{E:Value->adx->Prop}{s:adx}{P:aF}{c:UT}{u v:Value}{Q:V->UT->Prop}
def Gv.cX(G:Gd Z s P c)(q:Q (.d d) c)(h:∀(K:Value->adx->Prop)(E:Value->adx->Prop),(∀u (T:adx),Kp s.heap T.heap->Sm s T->DR Z.W T.heap (own P) u d->K u T)->adA (adB Z.prog Z.w) A t K E s):Gv Z A t s P Q:=
 λK E U=>h K E λu T k m r=>U u _ T P c ((Good.kp G k).1.sm m) (Good.kp G k).2 (.d r) q
def GD(h:one l=some a):l=[a]:=by
 obtain _|⟨_,l⟩:=l
 ·exact no h
 ·cases l with|nil=>exact Wn h▸rfl|cons=>exact no h
def g7{g:List V}{v:V}(r:j3 Z.W s.heap P J g)(h:one g=some v):∃u,J=[u]/\VR Z.W s.heap P u v:=by
 obtain rfl:=GD h;refine aq r.bZ λu _ e T k=>?_;clear r;subst e;obtain rfl:=k.dZ;exact⟨u,rfl,T⟩
@[elab_as_elim] def NP{G:Nat->Prop}(b:Nat)(B:G 0)(o:G 1)(Y:G 2)(L:G 3)(U:G 4)(z:G 5)(I:G 6)(r:G 7)(d:G 8)(e:G 9)(a:G 10)(g:G 11)(T:G 12)(t:G 13)(w:G 14)(q:∀n,G (n+15)):G b:=by
 obtain _|b:=b
 ·exact B
 ·obtain _|b:=b
  ·exact o
  ·obtain _|b:=b
   ·exact Y
   ·obtain _|b:=b
    ·exact L
    ·obtain _|b:=b
     ·exact U
     ·obtain _|b:=b
      ·exact z
      ·obtain _|b:=b
       ·exact I
       ·obtain _|b:=b
        ·exact r
        ·obtain _|b:=b
         ·exact d
         ·obtain _|b:=b
          ·exact e
          ·cases b with
           |zero=>exact a
           |succ b=>
            cases b with
            |zero=>exact g
            |succ b=>
             cases b with
             |zero=>exact T
             |succ b=>
              cases b with
              |zero=>exact t
              |succ b=>
               cases b with
               |zero=>exact w
               |succ b=>
                exact q b
def CA(T:b≠4/\b≠5)(G:Gd Z s P c)(z:A.handled=none)(J:XR Z s.heap (own P) u x)(e:jU x=some (k,l))(y:oY b k l c=some r)(q:Q r.1 r.2):
  Gv Z A (call (JB b) [u]) s P Q:=by
 have sq:k<=1->∃a g,u=.ref a/\aJ s.heap k a g/\g.length<=lim/\bL Z.W s.heap (own P) g l:=λM=>yS J e<|Xi<|XA M;revert T y;refine NP b (λh y=>?_) (λh y=>?_) (λh y=>?_) (λh y=>?_) (λh y=>?_) (λh y=>?_) (λh y=>?_) (λh y=>?_) (λh y=>?_) (λh y=>?_) (λh y=>?_) (λh y=>?_) (λh y=>?_) (λh y=>?_) (λh y=>?_) λ_ _ y=>?_
 ·exact no y
 ·refine ak (fs y) λM y=>?_;obtain rfl:=Wn y;exact yV G J e M q
 ·refine ak (fs y) λM y=>?_;obtain rfl:=Wn y;exact ES G J (M▸e) q
 ·refine ak (fs y) λM y=>cB y λi n y=>fZ y λI w f=>?_;clear y;subst f
  exact pS G z J (M▸e) n w q
 ·exact agR rfl h.1
 ·exact agR rfl h.2
 ·refine ak (fs y) λM y=>fZ y λN n f=>?_;clear y;subst f
  refine aG (sq<|Xf M) λa g f w _ Y=>?_;clear J sq;subst f;exact Gv.cX G q λK E B=>BK z w Y n λU t k m=>B _ U k m<|.int _ _
 ·refine ak (fs y) λM y=>fZ y λm n f=>?_;clear y;subst f
  refine cB n λN o n=>aG (sq M) λa g f w _ Y=>?_;clear J sq;subst f;exact Gv.cX G q λK E B=>y5 z w Y o n λU t k m=>B _ U k m<|.int _ _
 ·refine ak (fs y) λM y=>fZ y λm n f=>?_;clear y;subst f
  refine cB n λN o n=>aG (sq M) λa g f w _ Y=>?_;clear J sq;subst f;exact Gv.cX G q λK E B=>AN z w Y o n λU t k m=>B _ U k m<|.int _ _
 iterate 5 exact no y
 ·refine ak (fs y) λM y=>fZ y λm n f=>?_;clear y;subst f
  refine aG (sq<|Xf M) λa g f w _ Y=>?_;clear J sq;subst f;exact Gv.cX G q λK E B=>zj z w Y n λU k m=>B _ U k m<|.bool _
 ·exact no y
def iT(U:b≠4/\b≠5)(G:Gd Z s P c)(y:A.handled=none)(B:j3 Z.W s.heap P a g)(e:Eg Z.T b g c=some r)(q:Q r.1 r.2):Gv Z A (call (JB b) a) s P Q:=cB e λv Y e=>cB e λk h e=>ae (g7 B Y) λu f d=>by
 clear B;subst f;exact CA U G y (br G d) h e q
def F7(B:j3 Z.W s.heap P o g)(e:OM Z.T b g c f=some r):(∃i p t n,o=[.int i t,.int p n]/\r=(.d (.int (f i p)),c))\/Eg Z.T b g c=some r:=by
 match g,e with
 |[x,y],e=>
  refine cB e λi Y e=>fZ e λp l e=>aq B.bZ λ_ _ h a k=>?_;clear B;subst h;obtain⟨_,_,rfl,m,k⟩:=k.bZ;obtain rfl:=k.dZ;obtain⟨t,rfl⟩:=iL a Y;obtain⟨n,rfl⟩:=iL m l;exact .inl ⟨i,p,t,n,rfl,e.symm⟩
 |[],e=>exact .inr e
 |[_],e=>exact .inr e
 |_::_::_::_,e=>exact .inr e
def VX(i:Int):(if i<0 then -i else i)=(i.natAbs:Int):=Kj.symm
@[elab_as_elim] def Pu{G:Nat->Prop}(b:Nat)(z:G 0)(o:G 1)(Y:G 2)(L:G 3)(U:G 4)(q:∀n,G (n+5)):G b:=by
 obtain _|b:=b
 ·exact z
 ·obtain _|b:=b
  ·exact o
  ·obtain _|b:=b
   ·exact Y
   ·obtain _|b:=b
    ·exact L
    ·obtain _|b:=b
     ·exact U
     ·exact q b
def Fx{g:List V}(U:B≠5)(G:Gd Z s P c)(y:A.handled=none)(r:j3 Z.W s.heap P J g)(e:LA Z.T B g c Q):Gv Z A (call (JB B) J) s P Q:=by
 by_cases l:B=4
 ·clear U;subst l
  have L:=e;refine ed L λa m _=>cB m λv Y _=>?_;clear L m;obtain rfl:=GD Y;refine ae (g7 r Y) λu f p=>?_;clear r;subst f;exact w8 G y p e
 have e:ok (ER Z.T B g c) λr=>Q r.1 r.2:=by
  revert l e;exact Pu B (λe _=>e) (λe _=>e) (λe _=>e) (λe _=>e) (λ_ h=>agR rfl h) λ_ e _=>e
 refine ed e λN e q=>?_;revert U l e;refine GX B (λag l e=>?_) (λag l e=>?_) (λag l e=>?_) (λag l e=>?_) (λag l e=>?_) (λag l e=>?_) (λag l e=>?_) (λag l e=>?_) (λag l e=>?_) (λag l e=>?_) (λag l e=>?_) λ_ ag l e=>?_
 ·refine cB e λv Y e=>fZ e λi m f=>?_;clear e;subst f
  refine ae (g7 r Y) λu f p=>?_;clear r;subst f;exact Gv.cX G q λK E ac=>AE (br G p) m λw t x=>ac w _ (Kp.refl _) ⟨rfl,rfl⟩ x
 iterate 6 exact iT ⟨l,ag⟩ G y r e q
 ·obtain⟨i,j,t,M,rfl,rfl⟩|e:=F7 r e
  ·refine Gv.cX G q λK E ac=>min_two_ints y λI z k=>?_
   by_cases h:j<i
   ·exact aa (agO h)<|ac _ {s with heap:=I,toks:=z} k ⟨rfl,rfl⟩ (by exact aa (agO h)<|.int _ _)
   ·exact aa (agP h)<|ac _ {s with heap:=I,toks:=z} k ⟨rfl,rfl⟩ (by exact aa (agP h)<|.int _ _)
  ·exact iT ⟨l,ag⟩ G y r e q
 ·obtain⟨i,j,t,M,rfl,rfl⟩|e:=F7 r e
  ·refine Gv.cX G q λK E ac=>max_two_ints y λI z k=>?_
   by_cases h:i<j
   ·exact aa (agO h)<|ac _ {s with heap:=I,toks:=z} k ⟨rfl,rfl⟩ (by exact aa (agO h)<|.int _ _)
   ·exact aa (agP h)<|ac _ {s with heap:=I,toks:=z} k ⟨rfl,rfl⟩ (by exact aa (agP h)<|.int _ _)
  ·exact iT ⟨l,ag⟩ G y r e q
 ·refine cB e λv Y e=>fZ e λi m f=>?_;clear e;subst f
  refine ae (g7 r Y) λu f p=>?_;clear r;subst f;obtain⟨t,rfl⟩:=iL p m;refine Gv.cX G q λK E ac=>call_abs_int λu z=>?_;rw[VX];exact ac _ {s with toks:=z} (Kp.refl _) ⟨rfl,rfl⟩ (.int _ _)
 ·refine cB e λv Y e=>cB e λd o e=>fZ e λi m f=>?_;clear e;subst f
  refine ae (g7 r Y) λu f p=>?_;clear r;subst f;clear Y;obtain rfl:=aL o;obtain _|B|j|_|_|_|_|_:=d
  ·exact no m
  ·clear e;obtain rfl:=Wn m
   obtain rfl:=p.dd.eZ;exact Gv.cX G q λK E ac=>call_int_bool<|ac _ {s with toks:=s.toks+1} (Kp.refl _) ⟨rfl,rfl⟩ (.int _ _)
  ·obtain rfl:=Wn m
   obtain⟨t,rfl⟩:=p.dd.cW;exact Gv.cX G q λK E ac=>call_int_int<|ac _ s (Kp.refl _) ⟨rfl,rfl⟩<|.int _ _
  all_goals exact no m
 ·exact iT ⟨l,ag⟩ G y r e q
end
noncomputable def N9(t m:Nat):Option String:=match t with
 |1=>(match m with|0=>some "list.append"|1=>some "list.extend"|2=>some "list.pop"|3=>some "list.sort"|4=>some "list.count"|_=>none)
 |3=>(match m with|5=>some "dict.get"|6=>some "dict.update"|_=>none)
 |_=>none
section
variable{Z:Wd}{A:adC}{E:Value->adx->Prop}{s:adx}{P:aF}{c:UT}{u v:Value}{Q:V->UT->Prop}
def VU{v:V}(G:Gd Z s P c)(r:VR Z.W s.heap P u v)(h:Fd Z.T c v=1):∃a x n,u=.ref a/\s.heap.get? a=some {cls:=.type "list",data:=.seq x n}:=by
 have r:=br G r;have h:GW (fe Z.T c v)=1:=h;revert h r;obtain _|_|_|_|_|_|_|_:=fe Z.T c v;iterate 5 exact λ_ e=>nomatch e
 ·intro ⟨a,g,e,⟨n,h⟩,_⟩ _;exact⟨a,_,n,e,h⟩
 all_goals exact λ_ e=>nomatch e
def ot(R:dY Z.W Z.prog Z.w h r a k e):∃o,h.get? a=some o/\o.ExactDict:=by
 rcases R with⟨_,_,⟨o,_,_,f,g,_⟩,_⟩|⟨_,_,⟨o,_,_,f,g,_⟩,_⟩<;>exact⟨o,f,g⟩
def VT{v:V}(G:Gd Z s P c)(r:VR Z.W s.heap P u v)(h:Fd Z.T c v=3):∃a o,u=.ref a/\s.heap.get? a=some o/\o.ExactDict:=by
 have r:=br G r;have h:GW (fe Z.T c v)=3:=h;revert h r;obtain _|_|_|_|_|_|_|_:=fe Z.T c v;iterate 6 exact λ_ e=>nomatch e
 ·intro ⟨a,e,R,_⟩ _;obtain⟨o,h⟩:=ot R;exact⟨a,o,e,h⟩
 exact λ_ e=>nomatch e
@[elab_as_elim] def Gg{G:Nat->Nat->String->Prop}{m:Nat}{id:String}(h:N9 B m=some id)(a:G 1 0 "list.append")(o:G 1 1 "list.extend")(Y:G 1 2 "list.pop")(L:G 1 3 "list.sort")(U:G 1 4 "list.count")(z:G 3 5 "dict.get")(I:G 3 6 "dict.update"):G B m id:=by
 obtain _|B:=B
 ·exact no h
 ·obtain _|B:=B
  ·obtain _|m:=m
   ·exact Wn h▸a
   ·obtain _|m:=m
    ·exact Wn h▸o
    ·obtain _|m:=m
     ·exact Wn h▸Y
     ·obtain _|m:=m
      ·exact Wn h▸L
      ·obtain _|_:=m
       ·exact Wn h▸U
       ·exact no h
  ·obtain _|B:=B
   ·exact no h
   ·obtain _|_:=B
    ·obtain _|m:=m
     ·exact no h
     ·obtain _|m:=m
      ·exact no h
      ·obtain _|m:=m
       ·exact no h
       ·obtain _|m:=m
        ·exact no h
        ·obtain _|m:=m
         ·exact no h
         ·cases m with
          |zero=>exact Wn h▸z
          |succ m=>
           cases m with
           |zero=>exact Wn h▸I
           |succ=>exact no h
    ·exact no h
def Hs(h:zN T m):∃id,N9 T m=some id:=by
 match T,h with
 |1,h=>
  match m,h with
  |0,_=>exact⟨_,rfl⟩
  |1,_=>exact⟨_,rfl⟩
  |2,_=>exact⟨_,rfl⟩
  |3,_=>exact⟨_,rfl⟩
  |4,_=>exact⟨_,rfl⟩
  |m+5,h=>exact agR (Wi h)<|Ze<|Xz 4 m
 |3,h=>
  have n:=Wi (an h).1;have t:=Wi (an h).2;have:m=5\/m=6:=(tE<|XA t).imp_left λh=>ZG (YI h) n;clear h n t;obtain rfl|rfl:=this;iterate 2 exact⟨_,rfl⟩
def sF{N:Str}{id:String}{v:V}{K:Value×List Value->adx->Prop}(G:Gd Z s P c)(r:VR Z.W s.heap P u v)(o:Fd Z.T c v=1)(I:Slot "list" N id)(U:aea (.builtin id)=pure (.type "method_descriptor"))(q:K (.builtin id,[u]) s):adA (adB Z.prog Z.w) A (afc u N p) K E s:=jn (VU G r o) λa x n e f=>by
 clear r;subst e;exact agm ⟨_,f,rfl⟩ F.plainAttrs_list I U (λb h=>Value.ref.inj h▸⟨_,f,rfl⟩) q
def Hm{n:Str}{id:String}{v:V}{K:Value×List Value->adx->Prop}(G:Gd Z s P c)(r:VR Z.W s.heap P u v)(p:Fd Z.T c v=3)(I:Slot "dict" n id)(N:aea (.builtin id)=pure (.type "method_descriptor"))(q:K (.builtin id,[u]) s):adA (adB Z.prog Z.w) A (afc u n t) K E s:=aq (VT G r p) λa o e f g=>by
 clear r;subst e;exact agm ⟨_,f,g.1⟩ F.plainAttrs_dict I N (λb h=>Value.ref.inj h▸⟨_,f,g.2.1⟩) q
def z6{m:Nat}{id:String}{v:V}{K:Value×List Value->adx->Prop}(G:Gd Z s P c)(r:VR Z.W s.heap P u v)(h:Fd Z.T c v=B)(U:N9 B m=some id)
  (q:K (.builtin id,[u]) s):adA (adB Z.prog Z.w) A (afc u (Bx m) p) K E s:=by
 revert h q;refine Gg U (λh q=>?_) (λh q=>?_) (λh q=>?_) (λh q=>?_) (λh q=>?_) (λh q=>?_) (λh q=>?_)
 ·exact sF G r h F.slot_list_append (by refine aa (show aea (.builtin "list.append")=aew "list.append" from rfl) (aa aex ?_);kernel_rfl) q
 ·exact sF G r h F.slot_list_extend (by refine aa (show aea (.builtin "list.extend")=aew "list.extend" from rfl) (aa aex ?_);kernel_rfl) q
 ·exact sF G r h F.slot_list_pop (by refine aa (show aea (.builtin "list.pop")=aew "list.pop" from rfl) (aa aex ?_);kernel_rfl) q
 ·exact sF G r h F.slot_list_sort (by refine aa (show aea (.builtin "list.sort")=aew "list.sort" from rfl) (aa aex ?_);kernel_rfl) q
 ·exact sF G r h F.slot_list_count (by refine aa (show aea (.builtin "list.count")=aew "list.count" from rfl) (aa aex ?_);kernel_rfl) q
 ·exact Hm G r h F.slot_dict_get (by refine aa (show aea (.builtin "dict.get")=aew "dict.get" from rfl) (aa aex ?_);kernel_rfl) q
 ·exact Hm G r h F.slot_dict_update (by refine aa (show aea (.builtin "dict.update")=aew "dict.update" from rfl) (aa aex ?_);kernel_rfl) q
end
section
variable{Z:Wd}{A:adC}{E:Value->adx->Prop}{s:adx}{P:aF}{g:UT}{u v:Value}{Q:V->UT->Prop}
def wd(r:j3 Z.W s.heap P a i):∀{d:List D},rz i=some d->bL Z.W s.heap (own P) a d:=by
 induction r with
 |nil=>intro d e;obtain rfl:=Wn e;exact .nil
 |cons T r I=>
  intro d e;refine cB e λx j e=>fZ e λY h f=>?_;clear e;subst f;obtain rfl:=aL j;exact .cons T.dd<|I h
def Vh(G:Gd Z s P g)(Y:P[n]?=some p)(L:g[n]?=some (.list l))(f:I.get? p.a=some {cls:=.type "list",data:=.seq t.toArray m})
  (e:Yw p.a s.heap I) (h:t.length<=lim) (r:bL Z.W s.heap (own P) t o):Gt Z I s.os s.gens P (g.set n<|.list o)/\Step [] s.heap P I P:=by
 have M:=(G.obj n p _ Y L).1;exact G.set Y p.a (.inl rfl) e ⟨_,f⟩ λS=>⟨M,t,⟨m,f⟩,h,bL.stays S r⟩
def o6{vs':List Value}{f:Array Value->Array Value}{h:Heap}(j:h.get? L=some {cls:=.type "list",data:=.seq J.toArray B})(e:f J.toArray=vs'.toArray):
  ∃b,(h.update L<|Obj.mapSeq f).get? L=some {cls:=.type "list",data:=.seq vs'.toArray b}:=by
 have:=get?_update_seq j f;rw[e] at this;exact⟨_,this⟩
def fy{v:V}{t:Nat×List D}(r:VR Z.W s.heap P u v)(h:dB g v=some t):∃p,P[t.1]?=some p/\u=.ref p.a/\g[t.1]?=some (.list t.2)/\v=.loc t.1:=by
 obtain _|n:=v
 ·exact no h
 ·have h:(match g[n]? with|some (.list l)=>some (n,l)|_=>none)=some t:=h
  refine ae r.ll λp Y e=>?_;clear r;subst e;revert h;rcases q:g[n]? with _|o
  ·exact λh=>no h
  ·obtain l|_|_|_:=o
   ·exact λh=>Wn h▸⟨p,Y,rfl,q,rfl⟩
   all_goals exact λh=>no h
def qR{v:V}{t:Nat×Nat×List (D×D)}(r:VR Z.W s.heap P u v)(h:hZ g v=some t):∃p,P[t.1]?=some p/\u=.ref p.a/\g[t.1]?=some (.dict t.2.1 t.2.2):=by
 obtain _|n:=v
 ·exact no h
 ·have h:(match g[n]? with|some (.dict k i)=>some (n,k,i)|_=>none)=some t:=h
  refine ae r.ll λp Y e=>?_;clear r;subst e;revert h;rcases q:g[n]? with _|o
  ·exact λh=>no h
  ·obtain _|⟨k,l⟩|_|_:=o
   ·exact λh=>no h
   ·exact λh=>Wn h▸⟨p,Y,rfl,q⟩
   all_goals exact λh=>no h
section
variable{n:Nat}{p:Pl}{l:List D}(G:Gd Z s P g)(e:P[n]?=some p)(c:g[n]?=some (.list l))
include G e c
def Vu(i:DR Z.W s.heap (own P) u x)(J:l.length<lim)(q:Q (.d .none) (g.set n (.list (l++[x])))):Gv Z A (call (.builtin "list.append") [.ref p.a,u]) s P Q:=dF (G.obj n p _ e c) λ_ h z o L=>af z λk f=>by
 intro K E T;refine agn ⟨k,f⟩ (λI Y U=>?_) (ba o);refine af Y λm r=>?_;rw[List.push_toArray] at r;refine ak (Vh G e c r U (by refine aa Wv<|aa L.length ?_;exact J) (L.append<|.cons i .nil)) λb j=>?_;exact T _ _ {s with heap:=I} P _ b j (.d .none) q
def rM{x:D}{h:List D}(rx:DR Z.W s.heap (own P) u x)(o:x.ju=some h)(J:l.length+h.length<=lim)(q:Q (.d .none) (g.set n (.list (l++h)))):Gv Z A (call (.builtin "list.extend") [.ref p.a,u]) s P Q:=dF (G.obj n p _ e c) λ_ i z L N=>af z λk t=>by
 intro K E T;have U:∀{M:List Value},bL Z.W s.heap (own P) M h->i.length+M.length<=lim/\K .none {s with heap:=s.heap.update p.a (Obj.mapSeq λx=>x++M.toArray)}:=λ{M} w=>by
  have J:i.length+M.length<=lim:=by refine aa N.length<|aa w.length ?_;exact J
  exact af (o6 (f:=λx=>x++M.toArray) t (aap ..)) λY ac=>ak (Vh G e c ac (YQ ..) (by exact aa Wv J) (N.append w)) λy j=>⟨J,T _ _ {s with heap:=_} P _ y j (.d .none) q⟩
 obtain rfl|rfl:=gP o
 ·refine az rx.eD λb M r I _ _ w=>?_;clear rx;subst r;refine af I λB m=>?_
  exact ak (U w) λJ f=>aeD aa7 ⟨_,t,rfl⟩ aa1 (aaV _ _) (PySem.AutoSeq1.list_extend_list_tuple_0 p.a i.toArray k b M.toArray B (by simp [ZU,sizeLine];intro _;unfold lim at J;exact cy J rfl) (ba L) (by refine aa WN<|aa WN ?_;exact Y2<|ba J)) ⟨t,m,f⟩
 ·refine az rx.eX λb M r I _ _ w=>?_;clear rx;subst r;refine af I λB m=>?_
  exact ak (U w) λJ f=>aeD aa7 ⟨_,t,rfl⟩ aa1 (aaV _ _) (PySem.AutoSeq1.list_extend_list_list_0 p.a i.toArray k b M.toArray B (by simp [ZU,sizeLine];intro _;unfold lim at J;exact cy J rfl) (ba L) (by refine aa WN<|aa WN ?_;exact Y2<|ba J)) ⟨t,m,f⟩
omit e c G in
def sZ(h:List Value):h.toArray.eraseIdxIfInBounds (h.toArray.size - 1)=h.dropLast.toArray:=by
 obtain _|⟨v,h⟩:=h
 ·rfl
 ·apply acg.mp
  simp only[WN,Array.eraseIdxIfInBounds,WZ,Nat.add_one_sub_one,acS,dite_true,Array.toList_eraseIdx];exact List.eraseIdx_length_sub_one
def Ab{x:D}(m:l.getLast?=some x)(q:Q (.d x) (g.set n (.list l.dropLast))):Gv Z A (call (.builtin "list.pop") [.ref p.a]) s P Q:=dF (G.obj n p _ e c) λ_ i z w I=>af z λk o=>by
 have B:=I.length;intro K E T;rw[List.getLast?_eq_getElem?] at m;refine ae (I.get m) λy b N=>af (o6 (f:=λh=>h.eraseIdxIfInBounds<|i.toArray.size - 1) (vs':=i.dropLast) o (sZ i)) λM J=>?_;have t:bL Z.W s.heap (own P) i.dropLast l.dropLast:=by
  refine aa abG<|aa abG<|aa B ?_;exact I.take _
 refine ak (Vh G e c J (YQ ..) (by exact aa List.length_dropLast<|Bh w) t) λr j=>aeD PySem.F.slot_list_pop ⟨_,o,rfl⟩ PySem.F.entry_list_pop (PySem.F.args_list_pop_1 _) (PySem.MeetsSeq.list_pop_last p.a i.toArray k y (by refine aa YB<|aa WN<|aa B ?_;exact b) (ba w)) ⟨o,?_⟩;exact T _ _ {s with heap:=_} P _ r j (.d<|N.step j) q
end
end
section
variable{Z:Wd}{A:adC}{E:Value->adx->Prop}{s:adx}{P:aF}{B:UT}{u v:Value}{Q:V->UT->Prop}
def C9(R:dY Z.W Z.prog Z.w h o a k e)(M:k<=1):∃b,h.DictOf (bk Z.prog Z.w) a b/\lJ Z.W h o b e:=by
 obtain⟨_,h⟩|⟨h,_⟩:=R
 ·exact h
 ·rw[h] at M;exact agR M<|by decide
section
variable{a:Addr}{c:List (D×D)}{k:Nat}{x y:D}{e:List Addr}{Q:Value->adx->Prop}(f:(a==adX)=false)(R:dY Z.W Z.prog Z.w s.heap e a k c)(b:k<=1)(g:DR Z.W s.heap e u x)(i:kd x<=1)
include f R b g i
def sE(r:DR Z.W s.heap e v y)(q:∀w t,DR Z.W s.heap e w ((aO x c).getD y)->Q w {s with toks:=t}):adA (adB Z.prog Z.w) A (call (.builtin "dict.get") [.ref a,u,v]) Q E s:=by
 refine ae (C9 R b) λl T n=>ae (fO g i) λL m z=>afJ abn T.typeIs abk (PySem.F.args_dict_get_3 _ _ _) (meets_dict_get_default (bk Z.prog Z.w) a m f v) ⟨_,T.mapOf,q _ _ ?_⟩;have h:=gM n z;revert h;obtain _|d:=aO x c
 ·intro h;exact aa h r
 ·intro ⟨w,Y,j⟩;exact aa Y j
def VK(q:∀w t,DR Z.W s.heap e w ((aO x c).getD .none)->Q w {s with toks:=t}):adA (adB Z.prog Z.w) A (call (.builtin "dict.get") [.ref a,u]) Q E s:=by
 refine ae (C9 R b) λl T n=>ae (fO g i) λL m z=>afJ abn T.typeIs abk (PySem.F.args_dict_get_2 _ _) (meets_dict_get (bk Z.prog Z.w) a m f) ⟨_,T.mapOf,q _ _ ?_⟩;have h:=gM n z;revert h;obtain _|d:=aO x c
 ·intro h;exact aa h .none
 ·intro ⟨w,Y,j⟩;exact aa Y j
end
def m8(m:lJ Z.W h o c l):∀{es G:List (D×D)}{kvs:List ((Str ⊕ Int)×Value)},(kvs.map (·.1)).Nodup->lJ Z.W h o kvs es->es.length<=lim->
   dE T es l=some G->lJ Z.W h o (merged kvs c) G/\G.length<=lim:=by
 induction m with
 |nil=>intro es G kvs n t J e;obtain rfl:=Wn e;exact⟨t,J⟩
 |@cons N b c bs Y d i=>
  intro es G kvs n t J e;refine ak (mw e) λz e=>?_;obtain⟨_,g⟩:=z;rw[show merged kvs (N::c)=merged (stored kvs N.1 N.2) c from rfl,gx n];exact i (xT (k:=N.1) (new:=(N.1,N.2)) (f:=λa=>(a.1,N.2)) rfl (λ_=>rfl) n)
   (kK (λa y I=>iV Y.1 I) ⟨Y.1,Y.2⟩ (λ_ _ h=>h) (λ_=>Y.2) t) (Wh oX g) e
def qM(G:Gd Z s P B)(h:P[n]?=some p)(r:P[a5]?=some q)(L:B[n]?=some (.dict Y i))(a3:B[a5]?=some (.dict a4 ag))(a0:n≠a5)(M:Y<=1)(ac:a4<=1)
  (e:dE Y i ag=some N) (ap:Q (.d .none) (B.set n (.dict Y N))):Gv Z A (call (.builtin "dict.update") [.ref p.a,.ref q.a]) s P Q:=by
 intro K E U;refine aC (G.obj n p _ h L) λal l R=>aC (G.obj a5 q _ r a3) λ_ ax y=>ae (C9 R M) λb T c=>ae (C9 y ac) λx a2 aw=>?_;have m:=iw T;refine ak (m8 aw m c l e) λam ar=>afJ PySem.F.slot_dict_update T.typeIs PySem.F.entry_dict_update (PySem.F.args_dict_update_2 _ _) (meets_dict_update (bk Z.prog Z.w) p.a q.a (G.apart n a5 p q h r a0).1<|G.AJ r) ⟨b,x,T,a2,?_,λI t _ f=>?_⟩
 ·refine aa c.length (aa aw.length<|aa adJ ?_);unfold lim at l ax;exact zC l ax rfl
 ·exact ak (G.set (o:=.dict Y N) h p.a (.inl rfl) f (j1 t) λS=>⟨al,ar,.inl ⟨M,_,t,am.mono λ_ _ z=>⟨z.1,z.2.stays S⟩⟩⟩) λg k=>U _ _ {s with heap:=I} P _ g k (.d .none) ap
def tV(G:Gd Z s P B)(Y:P[n]?=some p)(L:B[n]?=some (.list l))(i:l.length<=4)(T:m6 l)(q:∀l',l'.Perm l->Q (.d .none) (B.set n (.list l'))):
  Gv Z A (call (.builtin "list.sort") [.ref p.a]) s P Q:=by
 intro K E q';refine dF (G.obj n p _ Y L) λaw g ac al rl=>af ac λk f=>?_;have am:=g9 Y;refine adL afA ⟨_,f,rfl⟩ afB (nU f rl (λ_ _ x=>x) i T λout l' N ap M ar=>⟨_,rfl,?_⟩) (afC _);refine af (sortedHeap_at (out:=out.toArray) f) λe z=>?_;have a0:∀b o,b≠p.a->s.heap.get? b=some o->(aei s.heap p.a g out.toArray).get? b=some o:=λb o T e=>by
  exact aa (afD T<|WU e) e
 have S0:bq s.heap (own P) (aei s.heap p.a g out.toArray) (own P):=λa o I ag _=>⟨a0 a o (λq=>I<|q▸am) ag,I⟩;have w:Gt Z (aei s.heap p.a g out.toArray) s.os s.gens P (B.set n<|.list l'):=by
  refine⟨λc J e=>a0 c J (λq=>by rw[q,G.off p.a am] at e;cases e) (G.base c J e),by simp [G.len],λm q' J y ag=>?_,G.apart,G.off,λc t=>⟨(G.gY c t).1,af ((G.gY c t).2) λo e=>⟨o,a0 c o (λq=>(G.gY c t).1<|q▸j8 Y) e⟩⟩,G.os,G.gs⟩;by_cases ax:n=m
  ·subst ax
   rw[Y] at y;cases y;have:n<B.length:=by exact av G.len<|aF.lt Y
   rw[abr this] at ag;cases ag;exact⟨aw,out,⟨e,z⟩,by exact aa ar<|al,bL.stays S0 M⟩
  ·rw[abP ax] at ag
   have r:=G.obj m q' J y ag;exact cM r.live λac o2 U=>af ac λo1 l1=>aV (G.apart n m p q' Y y ax) λa1 a2 a3 a4=>r.stays (aa (a0 _ _ (YK a1) l1)<|aa l1 rfl) (aa (a0 _ _ (YK a2) U)<|aa U rfl) S0 λ_ _ e=>e
 have j:Step [] s.heap P (aei s.heap p.a g out.toArray) P:=⟨⟨[],(aF.append_nil P).symm⟩,λc J h _ e=>a0 c J (λq=>h<|q▸j8 Y) e,λc J e=>by
  by_cases t:c=p.a
  ·clear e;subst t;exact⟨_,z⟩
  ·exact⟨J,a0 c J t e⟩,λ_ T=> .inl T,S0⟩
 exact q' _ (.d .none) {s with heap:=_,toks:=N} P _ w j (.d .none) (q l' ap)
end
section
variable{Z:Wd}{A:adC}{E:Value->adx->Prop}{s:adx}{P:aF}{c:UT}{u v:Value}{Q:V->UT->Prop}
def yj(r:j3 Z.W s.heap P i g)(h:VE g=some a):(∃u,i=[u]/\DR Z.W s.heap (own P) u a.1/\a.2=.none)\/∃u v,i=[u,v]/\DR Z.W s.heap (own P) u a.1/\DR Z.W s.heap (own P) v a.2:=by
 obtain _|⟨x,g⟩:=g
 ·exact no h
 obtain _|⟨y,g⟩:=g
 ·refine fZ h λd Y e=>?_;clear h;subst e
  refine aq r.bZ λu _ e T k=>?_;clear r;subst e;obtain rfl:=k.dZ;exact .inl ⟨u,rfl,(aL Y▸T).dd,rfl⟩
 obtain _|_:=g
 ·refine cB h λd Y h=>fZ h λm f e=>?_;clear h;subst e
  refine aq r.bZ λu _ e T k=>?_;clear r;subst e;obtain⟨v,_,rfl,b,k⟩:=k.bZ;obtain rfl:=k.dZ;exact .inr ⟨u,v,rfl,(aL Y▸T).dd,(aL f▸b).dd⟩
 ·exact no h
def H6(G:Gd Z s P c)(N:XR Z s.heap (own P) u x)(M:j3 Z.W s.heap P l g)
  (e:Bs x g c=some r) (q:Q r.1 r.2):Gv Z A (call (.builtin "dict.get") (u::l)) s P Q:=by
 obtain _|_|_|_|_|_|⟨k,i⟩|_:=x;iterate 6 exact no e
 ·refine cB e λa I e=>ak (fs e) λJ e=>?_;obtain⟨h,y⟩:=J
  obtain rfl:=Wn e;refine aj N λb f R j=>?_;clear N;subst f;obtain⟨w,rfl,T,Y⟩|⟨w,B,rfl,T,d⟩:=yj M I
  ·exact Gv.cX G q λK E L=>VK j R h T y λw t z=>L w {s with toks:=t} (Kp.refl _) ⟨rfl,rfl⟩ (Y▸z)
  ·exact Gv.cX G q λK E L=>sE j R h T y d λw t z=>L w {s with toks:=t} (Kp.refl _) ⟨rfl,rfl⟩ z
 exact no e
def yZ(G:Gd Z s P c)(B:XR Z s.heap (own P) u x)(L:j3 Z.W s.heap P k g)
  (e:y4 x g c=some r) (q:Q r.1 r.2):Gv Z A (call (.builtin "list.count") (u::k)) s P Q:=by
 obtain _|_|_|_|_|l|_|_:=x;iterate 5 exact no e
 ·refine cB e λa I e=>cB e λi T e=>fZ e λn m f=>?_;clear e;subst f
  refine aG B λb J f h _ w=>?_;clear B;subst f;refine ae (g7 L I) λj d Y=>?_;obtain rfl:=d;clear L;refine af (iL Y T) λt d=>?_;obtain rfl:=d;rw[jH m] at w;exact Gv.cX G q λK E y=>count_list_ints h.i (U9 w)<|y _ {s with toks:=s.toks+1} (Kp.refl _) ⟨rfl,rfl⟩ (.int _ _)
 all_goals exact no e
def DX{m:Nat}{id:String}{g:List V}{v:V}(G:Gd Z s P c)(r:VR Z.W s.heap P u v)(N:j3 Z.W s.heap P J g)(cH:N9 B m=some id)(e:Rq Z.T m v g c Q):
  Gv Z A (call (.builtin id) (u::J)) s P Q:=by
 revert e;refine Gg cH (λe=>?_) (λe=>?_) (λe=>?_) (λe=>?_) (λe=>?_) (λe=>?_) (λe=>?_)
 ·refine ed e λaw e q=>cB e λy h e=>cB e λa I e=>cB e λx i e=>ak (fs e) λax e=>?_
  obtain rfl:=Wn e;refine aK (fy r h) λp Y j L _=>?_;clear r;subst j;refine ae (g7 N I) λw j d=>?_;clear N;subst j;exact Vu G Y L (aL i▸d).dd ax q
 ·refine ed e λaw e q=>cB e λy h e=>cB e λa I e=>cB e λx i e=>cB e λf ap e=>ak (fs e) λax e=>?_
  obtain rfl:=Wn e;refine aK (fy r h) λp Y j L _=>?_;clear r;subst j;refine ae (g7 N I) λw j d=>?_;clear N;subst j;exact rM G Y L (aL i▸d).dd ap ax q
 ·refine ed e λaw e q=>cB e λy h e=>aK (fy r h) λp Y j L _=>?_;clear r;subst j
  match g,e with
  |[],e=>
   refine ae (ms e) λx i j=>?_;clear e;subst j;obtain rfl:=N.dZ;exact Ab G Y L i q
 ·refine ed e λy h e=>jC e λt q=>ak (an t) λt b=>aK (fy r h) λp Y j L _=>?_;clear r;subst j
  clear e;cases XN.mp (an t).1;obtain rfl:=N.dZ;exact tV G Y L (Wi (an t).2) b q
 ·exact ed e λaw e q=>yZ G (br G r) N e q
 ·exact ed e λaw e q=>H6 G (br G r) N e q
 ·refine ed e λaw e q=>cB e λy h e=>cB e λa I e=>cB e λo t e=>ak (fs e) λz e=>?_;obtain⟨n,M,al⟩:=z
  refine fZ e λk b j=>?_;clear e;subst j;refine aj (qR r h) λp Y j L=>?_;clear r;subst j;refine ae (g7 N I) λw ag d=>?_;obtain rfl:=ag;clear N;refine aj (qR d t) λp' am ac ar=>?_;obtain rfl:=ac;exact qM G Y am L ar n M al b q
end
structure Wk extends Wd where
 fa:Nat->Addr
 cls:∀c,s9 K (W.cl c)
 fld:∀c,∀a∈W.fld,ad1 K (.ref (W.cl c)) (W.nm a)=some none
 Aw:W.fld.length<=1000
 mth:∀c m f,T.mt c m=some f->ad1 K (.ref (W.cl c)) (N.an m)=some (some (.ref (fa f)))/\ae3 K (.ref (fa f))=some (.type "function")
 mfl:∀c m f,T.mt c m=some f->∀x∈W.fld,N.an m≠W.nm x
 ini:∀c f,T.mt c 0=some f->N.an 0="__init__"
section
variable{Y:Wk}{A:adC}{E:Value->adx->Prop}{s:adx}{P:aF}{g:UT}{u v:Value}{Q:V->UT->Prop}
def xh{h:Heap}{m:Str->Option Value}(r:h.Ns L m):∃o,h.get? L=some o/\(∃i n,o.data=.dict i n)/\∀N,lookIn N o=some (m N):=by
 refine aY r λo i B f b M T=>⟨o,f,⟨i,B,b⟩,λN=>?_⟩;unfold lookIn;refine aa b ?_;dsimp only;have p:nsFind i N=(i.toList.find? (·.key.isStr N)).map (·.val):=by
  clear b M T;obtain⟨l⟩:=i;simp only[nsFind,findBy,List.find?_toArray]
 refine av (T N)<|aa p ?_;cases c:i.toList.find? (·.key.isStr N) with
 |some e=>rfl
 |none=>
  have d:i.toList.any (·.refKey)=false:=by
   rw[ZY];intro e j;refine d9 (M e<|by simpa using j) λn t w=>?_;simp [ads,w]
  refine aa d ?_
  rfl
def kZ{fs:List (Nat×V)}{n:Nat}(G:Gd Y.toWd s P g)(b:P[n]?=some p)(M:g[n]?=some (.inst B fs)):
  ∃t m,InstAt s.heap p.a (YY (Y.W.cl B) p.d) (Y.W.cl B) (some t)/\s.heap.get? p.d=some t/\s.heap.Ns1 p.d m/\(∀N,lookIn N t=some (m N))/\
   (∀x v,UY fs x=some v->∃u,m (Y.W.nm x)=some u/\VR Y.W s.heap P u v)/\∀y u,m y=some u->∃x∈Y.W.fld,y=Y.W.nm x:=ae (G.place M) λI T r=>dF r λf m o L e=>by
 obtain rfl:=Wn<|b.symm.trans T;exact aj (xh o.ns) λt k _ h=>⟨t,m,⟨f,rfl,rfl,k⟩,k,o,h,L,e⟩
def gT(c:Nat):hasDictIn Y.K (Y.W.cl c)/\ad1 Y.K (.ref (Y.W.cl c)) "__getattribute__"=some (some (.builtin "object.__getattribute__"))/\ad1 Y.K (.ref (Y.W.cl c)) "__getattr__"=some none/\
  ad1 Y.K (.ref (Y.W.cl c)) "__setattr__"=some (some (.builtin "object.__setattr__"))/\plainOver Y.K (Y.W.cl c)/\makesIn Y.K (Y.W.cl c):=by
 have h:=Y.cls c;unfold s9 at h;simp only[W7,agQ] at h;refine ak h λz f=>?_;obtain⟨⟨⟨⟨a,b⟩,c⟩,d⟩,e⟩:=z;exact⟨a,b,c,d,e,f⟩
def VR.handed(r:VR Y.W h P u x):handedIn u:=by
 obtain r|_:=r
 ·cases r<;>rfl
 ·rfl
def Bj(h:tr o=some p):o=some (.inst p.1 p.2):=by
 obtain _|o:=o
 ·exact no h
 ·obtain _|_|_|_:=o
  iterate 2 exact no h
  ·exact Wn h▸rfl
  exact no h
def o7{v:V}{p:Nat×List (Nat×V)}(h:Cf g v=some p):∃n,v=.loc n/\g[n]?=some (.inst p.1 p.2):=by
 obtain _|n:=v
 ·exact no h
 ·exact⟨n,rfl,Bj h⟩
def sY{o:V}{x:V}{j:Bool}(G:Gd Y.toWd s P g)(L:B∈Y.W.fld)(r:VR Y.W s.heap P u o)(e:B8 g o B=some x)
  (q:∀w t,VR Y.W s.heap P w x->U w {s with toks:=t}):adA (adB Y.prog Y.w) A (getAttr u (Y.W.nm B) j) U E s:=cB e λT h i=>ae (o7 h) λn f N=>by
 clear e h;subst f;refine ae r.ll λp b f=>?_;clear r;subst f;exact eP (kZ G b N) λac m I k l J M _=>ae (M B x i) λw y d=>aC (gT T.1) λc z _=>get_value (G.X) I z (findObj_own c (Y.fld T.1 B L) rfl<|by rw[J,y]) d.handed (q w _ d)
def sy{m f n:Nat}{fs:List (Nat×V)}{K:Value×List Value->adx->Prop}(G:Gd Y.toWd s P g)(r:VR Y.W s.heap P u (.loc n))(M:g[n]?=some (.inst B fs))(U:Y.T.mt B m=some f)
  (q:K (.ref (Y.fa f),[u]) s):adA (adB Y.prog Y.w) A (afc u (Y.N.an m) t) K E s:=by
 cases r with
 |@loc _ p a=>
  refine eP (kZ G a M) λz ag I l y J L b=>aV (gT B) λd o k _=>ak (Y.mth B m f U) λj i=>method_fn (G.X) I o k j i ?_ q;unfold shadowIn;dsimp only;rw[J];rcases ac:ag (Y.N.an m) with _|w
  ·rfl
  ·exact ae (b _ _ ac) λx h e=>agR e<|Y.mfl B m f U x h
def wR{K:Unit->adx->Prop}(G:Gd Y.toWd s P g)(ha:B∈Y.W.fld)(r:VR Y.W s.heap P u o)(rv:VR Y.W s.heap P v x)(e:Kx g o B x=some σ')
  (q:∀(s':adx),Gd Y.toWd s' P σ'->Step [] s.heap P s'.heap P->K () s'):adA (adB Y.prog Y.w) A (setAttr u (Y.W.nm B) v) K E s:=by
 obtain _|n:=o
 ·exact no e
 ·refine ae (ms e) λz₁ h1 e₂=>?_;obtain⟨c,fs⟩:=z₁;clear e;subst e₂
  have hσ:g[n]?=some (.inst c fs):=Bj h1;refine ae r.ll λp hp e2_=>?_;obtain rfl:=e2_;refine eP (kZ G hp hσ) λod m I hod hns hl hf hy=>dQ (gT (Y:=Y) c) λc1 c2 c3 c4 c5 c6=>set_plain (G.X) I c4 ?_;have ht:takerIn Y.K (Y.W.cl c) (Y.W.nm B)=some none:=by unfold takerIn;refine aa (Y.fld c B ha) ?_;rfl
  refine osa_open (G.X) I c5 ht λb=>ae (any_some c1) λcd hc hd'=>adw<|ady<|adw<|adw<|wpAny_loadPart I.at_<|adw<|looks_clsIn (G.X) hc _ _ _ _ (λ_ _ e=>e) (aa hd'<|ady<|adw<|ady<|adw<|wpAny_nsSet1 hns λh' hn' hs'=>?_);refine aY hn' λo2 es2 ep2 ho2 hd2 _ _=>?_;have hy':∀y w,(if y=Y.W.nm B then some v else m y)=some w->∃x∈Y.W.fld,y=Y.W.nm x:=λy w hw=>by
   by_cases hya:y=Y.W.nm B
   ·exact⟨B,ha,hya⟩
   ·rw[agP hya] at hw;exact hy y w hw
  refine adw<|wpAny_lookBehind ho2 (by
   have hc:=hn'.count (λy hyy=>by
    obtain⟨w,hw⟩:=Option.ne_none_iff_exists'.mp hyy;exact ae (hy' y w hw) λx hx e=>YH.mpr ⟨x,hx,e.symm⟩)
   refine bK hc λo3 es3 ep3 ho3 hd3 hc=>?_;rw[ho2] at ho3;cases ho3;exact aa hd3<|pastItsLine_dict (by rw[Wm] at hc;have:=Y.Aw;exact aa adJ<|Wh hc (cy this rfl))) ?_
  refine ady ?_;obtain⟨G',S'⟩:=G.set (o:=.inst c<|put fs B x) hp p.d (.inr rfl) hs' ⟨_,ho2⟩ λS=>by
   have hne:p.a≠p.d:=by
    intro e;have h1:=I.at_;have h2:=hod;rw[e,h2] at h1;refine bK hns λo3 es3 ep3 ho3 hd3 _=>?_;rw[ho3] at h2;clear ho3;cases h2;cases h1;cases hd3
   refine⟨(hs'.2 p.a hne).trans I.at_,_,hn',λy w hw=>?_,λy w hw=>?_⟩
   ·rw[dG] at hw
    by_cases hya:y=B
    ·subst hya
     rw[agO rfl] at hw;cases hw;refine⟨v,agO rfl,?_⟩;exact rv.stays S
    ·rw[agP hya] at hw
     refine ae (hf y w hw) λw' h3 h4=>⟨w',by exact aa (agP λe=>hya<|Y.W.jD _ _ e) h3,?_⟩;exact h4.stays S
   ·exact hy' y w hw
  exact q {s with heap:=h',toks:=_} G' S'
end
def lL{L Y:Type}{f g:L->Option Y}:∀{l:List L},(∀x∈l,f x=g x)->l.filterMap f=l.filterMap g:=by
 intro z
 induction z with
 |nil=>
  intro _;exact rfl
 |cons x l i=>
  intro h;exact aa YO<|aa YO<|aa (h x Wr)<|aa (i λy a=>h y<|Wu _ a) rfl
def xu{n m:Str}{u:Value}{l:List (Str×Value)}(h:m≠n):Zv m ((n,u)::l)=Zv m l:=Xg.trans<|aa (agV.mpr h) rfl
def tB{N:List Str}:∀{a:List Value},N.Nodup->N.length=a.length->N.filterMap (λn=>((N.zip a).lookup n).map (n,·))=N.zip a:=by
 induction N with
 |nil=>exact λ_ _=>rfl
 |cons n N i=>
  intro a o h;cases a with
  |nil=>exact nomatch h
  |cons u a=>
   have o:=WO.mp o;refine aa ZN<|aa YO<|aa (abD (k:=n)) ?_;exact agN ((n,u)::·)<|(lL λm Q=>agN (W4 (m,·))<|xu (m:=m) (n:=n) λe=>o.1<|e▸Q).trans (i o.2<|Yb h)
def Vy{N:List Str}:∀{a:List Value}{n:Str},N.length=a.length->n∈N->((N.zip a).lookup n).isNone=false:=by
 induction N with
 |nil=>exact λ_ h=>nomatch h
 |cons m N i=>
  intro a n h o;cases a with
  |nil=>exact nomatch h
  |cons u a=>
   refine aa ZN<|aa Xg ?_;cases d:n==m with
   |true=>rfl
   |false=>exact i (Yb h)<|(Wo.mp o).resolve_left λe=>Ws<|(agQ.mpr e).symm.trans d
def FU{L Y t:Type}{l:List L}{s:Y}{f:L->Y->Sem (ForInStep Y)}{k:Y->Sem t}(h:l=[]):(forIn l s f>>=k)=k s:=by subst h;rfl
def Dq(t:adV){a:List Arg}{kd:List (Option adz)}{d:List adz}(g:¬J.length>(a.map (·.arg)).length)(Q:ade (λn=>(((a.map (·.arg)).zip J).lookup n).isNone) (a.map (·.arg))=[])
  (s:(a.map (·.arg)).filterMap (λn=>(((a.map (·.arg)).zip J).lookup n).map (n,·))=(a.map (·.arg)).zip J):
  afd {t with params:=⟨[],a,none,[],kd,none,d⟩,defaults:=.none} ⟨J,[]⟩=pure ((a.map (·.arg)).zip J):=by
 unfold afd;refine(agP λe=>g<|agS (WE.mp e).1).trans ((agP λe=>?_).trans ?_)
 ·refine Ws (e.symm.trans<|agN (λl=> !List.isEmpty l) (aab.mpr λn h=>aab.mp Q n<|List.mem_of_mem_take h))
 ·refine Eq.trans (FU ?_) ?_
  ·exact(agN (List.zip _) abh).trans List.zip_nil_right
  ·exact agN (pure (f:=Sem)) ((agN (acG _)<|WI _).trans s)
def Ic{a:Arguments}{x:List Arg}{v:Option Arg}{y:List Arg}{w:Option Arg}(h:a.posonlyargs=x)(t:a.vararg=v)(Y:a.kwonlyargs=y)(d:a.kwarg=w):a=⟨x,a.args,v,y,a.kw_defaults,w,a.defaults⟩:=by
 subst h t Y d;cases a;rfl
def Jk{f:adV}{p:Arguments}{v:Value}(h:f.params=p)(I:f.defaults=v):f={f with params:=p,defaults:=v}:=by
 subst h I;rfl
def sU{s:adV}(h:s.params.posonlyargs=[])(t:s.params.vararg=none)(Y:s.params.kwonlyargs=[])(d:s.params.kwarg=none)(I:s.defaults=.none)
  (a:(s.params.args.map (·.arg)).length=J.length) (m:(s.params.args.map (·.arg)).Nodup):afd s ⟨J,[]⟩=pure ((s.params.args.map (·.arg)).zip J):=
 (agN (λf=>afd f ⟨J,[]⟩) (Jk (Ic h t Y d) I)).trans (Dq s (a▸YM _) (aab.mpr λn g=>by exact aa (Vy a g) X1) (tB m a))
def Step.drop{h i G:Heap}{P c p:aF}{U:List Addr}(S:Step j h P i c)(s:Step U i c G p)(L:∀b∈U,b∈j\/h.get? b=none):Step j h P G p:=by
 refine af S.pre λR Q=>af s.pre λr T=>⟨⟨R++r,by rw[T,Q,aF.append_assoc]⟩,λb o h1 h2 e=>?_,λb o e=>?_,λb hb=>?_,S.stays.trans s.stays⟩
 ·refine s.dH b o (λq=>?_) (λq=>?_) (S.dH b o h1 h2 e)
  ·obtain q|q:=S.gX b q
   ·exact h1 q
   ·rw[e] at q;cases q
  ·obtain q|q:=L b q
   ·exact h2 q
   ·rw[e] at q;cases q
 ·exact af (S.live b o e) λy E=>s.live b y E
 ·obtain q|q:=s.gX b hb
  ·exact S.gX b q
  ·refine .inr ?_
   rcases e:h.get? b with _|o
   ·rfl
   ·refine af (S.live b o e) λy E=>?_
    rw[E] at q;cases q
def Laid(n:Nat)(N:List (Str×NameKind))(a L:List (Str×Addr))(C:Addr->Prop):Prop:=
  (∀s c,L.lookup s=some c->a.lookup s=some c\/(n<=c/\C c/\(s,NameKind.cell)∈N))/\
  (∀s,(s,NameKind.cell)∈N->∃c,L.lookup s=some c/\n<=c)/\
  (∀s c,a.lookup s=some c->(s,NameKind.cell)∉N->L.lookup s=some c)/\
  (∀s T c,L.lookup s=some c->L.lookup T=some c->n<=c->s=T)
def s8:∀(N:List (Str×NameKind))(h:Heap)(a:List (Str×Addr)),(∀s c,a.lookup s=some c->c<h.objs.size)->
  Laid h.objs.size N a (aeJ h.objs.size N a) λc=>(aeK h N).IsCell c none:=by
 intro z
 induction z with
 |nil=>
  intro h a Q;exact⟨λs c e=> .inl e,λs f=>(nomatch f),λs c e _=>e,λs T c e E n=>agR (Q s c e)<|Zu.mpr n⟩
 |cons pp r i=>
  obtain⟨J,x⟩:=pp;intro h a Q;by_cases M:x=.cell
  ·subst M
   show Laid h.objs.size ((J,.cell)::r) a (aeJ (h.objs.size+1) r<|(J,h.objs.size)::a) λc=>(aeK (h.push {cls:=.type "cell",data:=.cell none}) r).IsCell c none;have b:(h.push {cls:=.type "cell",data:=.cell none}).objs.size=h.objs.size+1:=Yt ..;refine aV (i (h.push {cls:=.type "cell",data:=.cell none}) ((J,h.objs.size)::a) (λs c e=>by
    rw[b];rw[Xg] at e;cases v:s==J with
    |true=>rw[v] at e;cases e;exact WK _
    |false=>rw[v] at e;exact WM<|Q s c e)) λI A G y=>?_
   rw[b] at I A G y;have j:∀s c,((J,h.objs.size)::a).lookup s=some c->(s=J/\c=h.objs.size)\/a.lookup s=some c:=λs c e=>by
    rw[Xg] at e;rcases v:s==J with _|_
    ·rw[v] at e;exact .inr e
    ·rw[v] at e;cases e;exact .inl ⟨agQ.mp v,rfl⟩
   refine⟨λs c e=>?_,λs f=>?_,λs c e o=>?_,λs T c e E n=>?_⟩
   ·obtain q|⟨p,Y,L⟩:=I s c e
    ·clear I A G y e;obtain⟨rfl,rfl⟩|q:=j s c q
     ·exact .inr ⟨WC _,⟨_,afK _ _ _ _<|WA _ rfl,rfl⟩,Wr⟩
     ·exact .inl q
    ·exact .inr ⟨Yo p,Y,Wu _ L⟩
   ·by_cases k:(s,NameKind.cell)∈r
    ·exact ae (A s k) λc m u=>⟨c,m,Yo u⟩
    ·have B:s=J:=by
      obtain e|e:=Wo.mp f
      ·clear f k;cases e;rfl
      ·exact agR e k
     clear I A y j f;subst B;exact⟨_,G s h.objs.size abD k,WC _⟩
   ·have g:(s==J)=false:=agV.mpr λq=>o<|q▸Wr
    exact G s c (by rw[Xg,g];exact e) λq=>o<|Wu _ q
   ·obtain q|q:=abz h.objs.size c
    ·exact y s T c e E q
    ·have:c=h.objs.size:=ZG q n
     clear n q;subst this;have one:∀t,(aeJ (h.objs.size+1) r<|(J,h.objs.size)::a).lookup t=some h.objs.size->t=J:=λt d=>by
      obtain U|⟨U,_⟩:=I t _ d
      ·obtain⟨e,_⟩|U:=j t _ U
       ·exact e
       ·exact agR (Q t _ U) (YM _)
      ·exact agR U (Nat.not_succ_le_self _)
     exact aa (one s e)<|aa (one T E) rfl
  ·have w:=agV.mpr M
   have E1:aeJ h.objs.size ((J,x)::r) a=aeJ h.objs.size r a:=agP λe=>M<|agQ.mp e;have l:aeK h ((J,x)::r)=aeK h r:=agP λe=>M<|agQ.mp e;refine aa E1<|aa l<|aV (i h a Q) λI A G y=>⟨λs c e=>?_,λs f=>?_,λs c e o=>G s c e λq=>o<|Wu _ q,y⟩
   ·obtain q|⟨p,Y,L⟩:=I s c e
    ·exact .inl q
    ·exact .inr ⟨p,Y,Wu _ L⟩
   ·obtain e|e:=Wo.mp f
    ·clear f w E1 l;cases e;exact agR rfl M
    ·exact A s e
def iP(ρ:Ev):List Nat->List V->Ev
 |x::xs,v::vs=>iP (put ρ x v) xs vs
 |_,_=>ρ
section
variable{Z:Wd}{A:adC}{E:Value->adx->Prop}{s:adx}{P:aF}{d:UT}{a:Env}{b:List (Str×NameKind)}{c:List Addr}
def rU(f:Str×Value->PUnit->Sem (ForInStep PUnit))(M:∀n v u,f (n,v) u=(do afw a n v;pure (.yield ⟨⟩))):∀{g:List Nat}{ac:List Value}{h:List V}{z:Ev}{s:adx}{Q:PUnit->adx->Prop},
  Gd Z s P d->En Z s.heap P c b a z->(∀x∈g,b.lookup (Z.W.nm x)=some .local\/b.lookup (Z.W.nm x)=some .cell)->j3 Z.W s.heap P ac h->g.length=h.length->
  (∀T,Gd Z T P d->Step c s.heap P T.heap P->En Z T.heap P c b a (iP z g h)->Q ⟨⟩ T)->adA (adB Z.prog Z.w) A (forIn ((g.map Z.W.nm).zip ac) ⟨⟩ f) Q E s:=by
 intro g
 induction g with
 |nil=>
  intro ac h z s Q G N _ r J q;obtain rfl:=XM.mp J.symm;exact ady<|q s G (Step.refl ..) N
 |cons x g I=>
  intro ac h z s Q G N i r J q;obtain _|@⟨u,v,ac,h,Y,l⟩:=r
  ·exact nomatch J
  ·rw[X3,ZN,ZE,M]
   exact adw<|adw<|eF G N (i x Wr) Y λT k j o=>ady<|I k o (λy e=>i y<|Wu _ e) (l.step j) (Yb J) λB m p t=>q B m (j.trans p) t
end
section
variable{Z:Wd}{A:adC}{E:Value->adx->Prop}{s:adx}{P:aF}{f:UT}{a:Env}{g:List (Str×NameKind)}{d:List Addr}{ρ:Ev}
structure Co (W:U3) (h:Heap) (P:aF) (names:List (Str×NameKind)) (cl:List (Str×Addr)) (ρ:Ev):Prop where
 xN:∀x,names.lookup x=some .free->∃c,cl.lookup x=some c
 ok:∀x c,cl.lookup x=some c->(∃v,h.IsCell c v)/\c∉own P
 apart:∀x y c,cl.lookup x=some c->cl.lookup y=some c->x=y
 val:∀x v,UY ρ x=some v->names.lookup (W.nm x)=some .free->∃c u,cl.lookup (W.nm x)=some c/\h.IsCell c (some u)/\VR W h P u v
 loc:∀x v,UY ρ x=some v->names.lookup (W.nm x)≠some .local/\names.lookup (W.nm x)≠some .cell
def mem_lookup{n:List (Str×NameKind)}(m:(n.map (·.1)).Nodup):(x,k)∈n↔n.lookup x=some k:=by
 induction n with
 |nil=>simp
 |cons p r i=>
  obtain⟨y,j⟩:=p;refine ak (WO.mp m) λh t=>?_;rw[Xg,Wo];clear m;rcases u:x==y with _|_
  ·rw[<-i t]
   constructor
   ·rintro (e|e)
    ·cases e;simp at u
    ·exact e
   ·exact .inr
  ·have:=agQ.mp u
   subst this;constructor
   ·rintro (e|e)
    ·cases e;rfl
    ·exact agR (YH.mpr ⟨_,e,rfl⟩) h
   ·intro e;cases e;exact .inl rfl
def wj{ac:List (Str×NameKind)}{cl:List (Str×Addr)}{xs:List Nat}{us:List Value}{vs:List V}{bu:Str}{a7:Option Addr}{code:Value}{bm:Option Env}{Q:Env->adx->Prop}
  (G:Gd Z s P f) (cb:al.names=ac) (M:al.kind=.function) (bi:(ac.map (·.1)).Nodup) (a3:Co Z.W s.heap P ac cl ρ) (i:∀x∈xs,ac.lookup (Z.W.nm x)=some .local\/ac.lookup (Z.W.nm x)=some .cell)
  (ca:∀e,bm=some e->e.builtins=adW) (r:j3 Z.W s.heap P us vs) (J:xs.length=vs.length)
  (q:∀(a:Env)(cp:adx)(d:List Addr),Gd Z cp P f->Step [] s.heap P cp.heap P->En Z cp.heap P d ac a (iP ρ xs vs)->(∀b∈d,s.heap.get? b=none)->a.scope=al->
   (bm=none->a=newEnv al a.locals adH a.cells bu a7 code none adW)->(∀e,bm=some e->a.code=e.code/\a.frame=e.frame/\a.qual=bu/\a.func=a7)->(∀x c,cl.lookup x=some c->(x,NameKind.cell)∉ac->a.cells.lookup x=some c)->Q a cp):
  adA (adB Z.prog Z.w) A (newFunctionEnv al adH cl ((xs.map Z.W.nm).zip us) bu a7 code bm adW) Q E s:=by
 subst cb;refine adw<|wpAny_alloc ?_;refine adw<|wpAny_layCells _ (λax ar aw=>by cases ci:ar==NameKind.cell<;>simp [ci]) _ _ _ _ ?_;generalize hob:({cls:=.type<|if bm.isSome then "dict" else "frame",data:=.dict #[]}:Obj)=ob;have cd:ob.data=.dict #[]:=by rw[<-hob]
 have am:∀x c,cl.lookup x=some c->c<(s.heap.push ob).objs.size:=λx c e=>by
  refine ak (a3.ok x c e) λag _=>?_;obtain⟨v,o,l,_⟩:=ag;rw[Yt];exact WM<|WU l
 refine aV (s8 al.names (s.heap.push ob) cl am) λi1 i2 i3 i4=>?_;generalize bn:aeJ (s.heap.push ob).objs.size al.names cl=cs at*;have a0:(s.heap.push ob).objs.size=s.heap.objs.size+1:=Yt ..;have k0:Kp s.heap (aeK (s.heap.push ob) al.names):=λb o e=>afK _ _ b o<|Wx _ e;generalize hh1:aeK (s.heap.push ob) al.names=a4 at*;have hL:a4.get? s.heap.objs.size=some ob:=by rw[<-hh1];exact afK _ _ _ _<|WA _ (by rw[<-hob];rfl)
 have ch:=G.ext k0;have bv:Step [] s.heap P a4 P:=Step.ext k0;have ce:∀b,s.heap.objs.size<=b->b∉own P:=λb T z=>by
  exact af (G.live z) λo l=>agR (WU l)<|Zu.mpr T
 have cc:∀b,s.heap.objs.size<=b->s.heap.get? b=none:=λb T=>by
  rcases e:s.heap.get? b with _|o
  ·rfl
  ·exact agR (WU e) (Zu.mpr T)
 have co:∀b,s.heap.objs.size<=b->Z.h₀.get? b=none:=λb T=>by
  rcases e:Z.h₀.get? b with _|o
  ·rfl
  ·exact agR (WU<|G.base b o e) (Zu.mpr T)
 let d:List Addr:=s.heap.objs.size::(al.names.filter (·.2==.cell)).filterMap λx=>cs.lookup x.1
 have a5:∀b∈d,s.heap.objs.size<=b/\((b=s.heap.objs.size)\/a4.IsCell b none):=λb T=>by
  obtain rfl|T:=Wo.mp T
  ·exact⟨WC _,.inl rfl⟩
  ·refine ae (ab1.mp T) λag p e=>?_;obtain⟨n,k⟩:=ag
   refine ak (Xl.mp p) λcn be=>?_;have a8:k=.cell:=by simpa using be
   clear p be;subst a8;refine ae (i2 n cn) λc h t=>?_;rw[h] at e;cases e;obtain q|⟨_,q,_⟩:=i1 n b h
   ·exact agR (am n b q) (Zu.mpr t)
   ·rw[a0] at t
    exact⟨Yo t,.inr q⟩
 have bl:∀a:Env,a.scope=al->a.locals=s.heap.objs.size->a.globals=adH->a.cells=cs->a.builtins=adW->En Z a4 P d al.names a ρ:=λa L N e3 e4 e5=>by
  have a9:∀x,a.kindOf x=al.names.lookup x:=λx=>by unfold acf;exact aa L rfl
  refine⟨by exact aa L<|M,e3,e5,λx e=>(a9 x).trans e,λx e=>⟨(a9 x).trans e,?_⟩,λx e=>⟨.inr<|(a9 x).trans e,?_⟩,λx e=>(a9 x).trans e,?_,?_,?_,?_,?_,?_⟩
  ·have z:=(mem_lookup bi).mpr e
   refine ae (i2 x z) λc h t=>⟨c,by exact aa e4<|h,Wu _<|ab1.mpr ⟨(x,.cell),Xl.mpr ⟨z,rfl⟩,h⟩⟩
  ·refine af (a3.xN x e) λc h=>?_
   have z:(x,NameKind.cell)∉al.names:=λz=>by rw[(mem_lookup bi).mp z] at e;cases e
   exact⟨c,by exact aa e4<|i3 x c h z⟩
  ·exact⟨λ_=>none,by exact aa N<|⟨ob,#[],0,hL,cd,λ_ he=>by simp at he,λ_=>rfl⟩,λx v h t=>agR t (a3.loc x v h).1⟩
  ·intro x v h t
   obtain t|t:=t
   ·exact agR t (a3.loc x v h).2
   ·refine aq (a3.val x v h t) λc u Y B h5=>?_
    have z:(Z.W.nm x,NameKind.cell)∉al.names:=λz=>by rw[(mem_lookup bi).mp z] at t;cases t
    exact⟨c,u,by exact aa e4<|i3 _ c Y z,B.keeps k0,h5.step bv⟩
  ·intro x c m
   rw[e4] at m;obtain q|⟨q1,q2,_⟩:=i1 x c m
   ·refine ak (a3.ok x c q) λag t=>?_;obtain⟨v,h⟩:=ag
    exact⟨⟨v,h.keeps k0⟩,t⟩
   ·rw[a0] at q1
    exact⟨⟨_,q2⟩,ce c<|Yo q1⟩
  ·intro x y c i I
   rw[e4] at i I;by_cases m:(s.heap.push ob).objs.size<=c
   ·exact i4 x y c i I m
   ·obtain qx|⟨q1,_⟩:=i1 x c i
    ·obtain qy|⟨q1,_⟩:=i1 y c I
     ·exact a3.apart x y c qx qy
     ·exact agR q1 m
    ·exact agR q1 m
  ·exact aa N Wr
  ·intro b T
   refine ak (a5 b T) λh t=>⟨ce b h,co b h,?_,?_⟩
   ·clear T h;obtain rfl|⟨o,l,_⟩:=t
    ·exact⟨_,hL⟩
    ·exact⟨o,l⟩
   ·intro o xs n l hd
    clear T h;obtain rfl|⟨o',a2,a6⟩:=t
    ·rw[hL] at l;cases l;rw[cd] at hd;cases hd
    ·rw[a2] at l;clear a2;cases l;rw[a6] at hd;cases hd
 have ap:∀a:Env,a.scope=al->a.locals=s.heap.objs.size->a.globals=adH->a.cells=cs->a.builtins=adW->
   (∀cp:adx,Gd Z cp P f->Step [] s.heap P cp.heap P->En Z cp.heap P d al.names a (iP ρ xs vs)->Q a cp)->
   adA (adB Z.prog Z.w) A (do (forIn ((xs.map Z.W.nm).zip us) ac8 λx r=>do afw a x.1 x.2;pure (ForInStep.yield ac8));pure a) Q E {s with heap:=a4}:=λa L N e3 e4 e5 k=>by
  refine adw<|rU _ (λ_ _ _=>rfl) ch (bl a L N e3 e4 e5) i (r.step bv) J λcp G' j N'=>ady<|k cp G' (bv.drop j λb T=> .inr<|cc b (a5 b T).1) N'
 clear hob;obtain _|e:=bm
 ·exact ap _ rfl rfl rfl rfl rfl λcp G' j N'=>q _ cp d G' j N' (λb T=>cc b (a5 b T).1) rfl (λ_=>rfl) (λe he=>by cases he) λx c e z=>i3 x c e z
 ·exact ap _ rfl rfl rfl rfl (ca e rfl) λcp G' j N'=>q _ cp d G' j N' (λb T=>cc b (a5 b T).1) rfl (λhe=>by cases he) (λe' he=>by cases he;exact⟨rfl,rfl,rfl,rfl⟩) λx c e z=>i3 x c e z
end
structure jd (A:adC) (d:Nat):Prop where
 handled:A.handled=none
 depth:A.depth+3*d+1<ago
 units:A.units+30*d+40<cLine
structure bU (A:adC) (d:Nat):Prop where
 handled:A.handled=none
 depth:A.depth+3*d+3<ago
 units:A.units+30*d+60<cLine
def jd.deeper(r:jd A (d+1)):bU (A.deeper e) d:=
 ⟨r.handled,MZ r.depth rfl,MZ r.units rfl⟩
def bU.call(r:bU A d):jd A d:=⟨r.handled,by have:=r.depth;exact fg<|l6 (Y0 (PySem.Around.depth A+3*d) 1<|1+1)<|Yz this,by have:=r.units;exact fg<|l6 (Y0 (PySem.Around.units A+30*d) 40<|19+1)<|Yz this⟩
def bU.u(r:bU A d):A.units+30<cLine:=OL r.units rfl
def jd.le(r:jd A d)(h:e<=d):jd A e:=⟨r.handled,Ny r.depth h,Ny r.units h⟩
def Gw(Z:Wd){L a:Type}(A:adC)(R:Heap->aF->L->a->Prop)(t:Sem L)(s:adx)(P:aF)(Q:a->UT->Prop):Prop:=
 ∀(K:L->adx->Prop)(E:Value->adx->Prop),(∀u v T p Y,Gd Z T p Y->Step [] s.heap P T.heap p->R T.heap p u v->Q v Y->K u T)->adA (adB Z.prog Z.w) A t K E s
abbrev RB:Heap->aF->Bool->Bool->Prop:=λ_ _ a b=>a=b
abbrev Ry(Z:Wd):Heap->aF->List Value->List V->Prop:=λh P a b=>j3 Z.W h P a b
abbrev RV(Z:Wd):Heap->aF->Value->V->Prop:=λh P a b=>VR Z.W h P a b
section
variable{Z:Wd}{A:adC}{e d i j:Type}{R:Heap->aF->e->d->Prop}{g:Heap->aF->i->j->Prop}{s:adx}{P:aF}{c:UT}
def Gv.w(h:Gv Z A t s P Q):Gw Z A (RV Z) t s P Q:=h
def Gw.v(h:Gw Z A (RV Z) t s P Q):Gv Z A t s P Q:=h
def Gw.bind(h:Gw Z A R t s P Q)
  (k:∀u v T p Y,Gd Z T p Y->Step [] s.heap P T.heap p->R T.heap p u v->Q v Y->Gw Z A g (f u) T p o):Gw Z A g (t>>=f) s P o:=
 λK E q=>adw<|h _ E λu v T p Y G S r q1=>k u v T p Y G S r q1 K E λn I B a m b l w U=>q n I B a m b (S.trans l) w U
def Gw.pure(G:Gd Z s P c)(r:R s.heap P a b)(q:Q b c):Gw Z A R (pure a) s P Q:=
 λ_ _ k=>ady<|k a b s P c G (Step.refl ..) r q
def Gw.skip(h:∀(Q:Unit->adx->Prop)(E:Value->adx->Prop),Q () s->adA (adB Z.prog Z.w) A t Q E s)(k:Gw Z A R (f ()) s P Q):Gw Z A R (t>>=f) s P Q:=
 λK E q=>adw<|h _ E<|k K E q
def Gw.aS(k:Gw Z A R (f ()) s P Q):Gw Z A R (standAt p>>=f) s P Q:=Gw.skip (λ_ _ h=>adG h) k
def Gw.holding(k:Gw Z A R t s P Q):Gw Z A R (holding vs t) s P Q:=λK E q=>adD<|k K E q
def Gw.operate{R:Heap->aF->Value->d->Prop}{Q:d->UT->Prop}(k:Gw Z A R t s P Q):Gw Z A R (operate vs t) s P Q:=λK E q=>wpAny_operate'<|k K E q
def Gw.cX(G:Gd Z s P c)(q:Q b c)
  (h:∀(K:e->adx->Prop)(E:Value->adx->Prop),(∀u T,Kp s.heap T.heap->Sm s T->R T.heap P u b->K u T)->adA (adB Z.prog Z.w) A t K E s):Gw Z A R t s P Q:=
 λK E U=>h K E λu T k m r=>U u b T P c ((G.ext k).sm m) (Step.ext k) r q
end
def iU(h:vw o f):∃a,f a:=by
 obtain _|a:=o
 ·cases h
 ·exact⟨a,h⟩
def nc{L:Type}{o:Option L}{f:L->Bool}{G:Prop}(h:vw o f)(q:∀a,f a->G):G:=(iU h).elim q
def Nr(h:cK c d x):KR c.st d x:=by
 obtain _|a|a|i|_|_|_|_:=d
 ·exact af (iU h) λb _=>b.2▸ .none
 ·exact af (iU h) λb h=>b.2▸(agQ.mp h)▸ .bool _
 ·exact af (iU h) λb h=>b.2▸(agQ.mp h)▸ .int _
 ·exact af (iU h) λb h=>b.2▸(agQ.mp h)▸ .str _
 iterate 4 cases h
def Q7{k:List (Str×NameKind)}{s:Str}:lq k s=k.lookup s:=by
 induction k with
 |nil=>rfl
 |cons p k i=>
  show(match Y5 s p.1 with|true=>some p.2|false=>lq k s)=match s==p.1 with|true=>some p.2|false=>k.lookup s
  rw[i,show(s==p.1)=Y5 s p.1 from XK.mpr (agQ.trans Fast.sEq_iff.symm)]
def Ju{k:List (Str×NameKind)}{s:Str}{n:NameKind}(h:(lq k s==some n)):k.lookup s=some n:=Q7.symm.trans<|agQ.mp h
def OE:∀{l:List Str},Oh l->l.Nodup:=by
 intro l
 induction l with
 |nil=>exact λ_=> .nil
 |cons a l i=>
  intro h;have h:=WE.mp h;exact WO.mpr ⟨λe=>Ws<|(show false=true from by rw[WR.mpr ⟨a,e,Fast.sEq_iff.mpr rfl⟩] at h;exact h.1),i h.2⟩
def N8:∀{f:List (Option adz)},Hb c (k::l) f->∃i m p G,k=.k (.str i)/\f=some (.Constant (.str (c.st i)) m p)::G/\Hb c l G=true
 |x::f,h=>by
  refine nc h λi h=>?_;have h:=WE.mp h;obtain _|x:=x
  ·exact Ws h.1
  ·exact nc (show vw (xK x) (λa=>vw (B6 a.1) λs=>s.1==c.st i.1)=true from h.1) λa n=>nc n λs n=>d9 a.2 λm p e=>⟨i.1,m,p,f,i.2,aa e<|aa s.2<|aa (agQ.mp n) rfl,h.2⟩
def ew(h:(a&&b)):a=true/\b=true:=WE.mp h
def kC(h:(!b)):b=false:=by cases b with|false=>rfl|true=>cases h
def kB(h:(a&&b&&c)):a=true/\b=true/\c=true:=⟨(ew (ew h).1).1,(ew (ew h).1).2,(ew h).2⟩
def yw(h:(a&&b&&c&&d)):a=true/\b=true/\c=true/\d=true:=⟨(ew (kB h).1).1,(ew (kB h).1).2,(kB h).2⟩
def Om(h:(a&&b&&c&&d&&e)):a=true/\b=true/\c=true/\d=true/\e=true:=⟨(ew (yw h).1).1,(ew (yw h).1).2,(yw h).2⟩
def I5(h:(a&&b&&c&&d&&e&&f)):a=true/\b=true/\c=true/\d=true/\e=true/\f=true:=⟨(ew (Om h).1).1,(ew (Om h).1).2,(Om h).2⟩
section
variable{c:Nm}{k:Ks}{x:adz}
def dU{L:Type}{P:L->Prop}{o:Option {a:L // P a}}{f:{a:L // P a}->Bool}{G:Prop}(h:vw o f)(q:∀a w,f ⟨a,w⟩->G):G:=by
 obtain _|a:=o
 ·exact Ws h
 ·exact q a.1 a.2 h
section
variable{a b d e f g:Bool}{G:Prop}
def gA(h:(a&&b))(q:a=true->b=true->G):G:=q (ew h).1 (ew h).2
def gi(h:(a&&b&&d))(q:a=true->b=true->d=true->G):G:=gA h λh Y=>gA h λm t=>q m t Y
def yv(h:(a&&b&&d&&e))(q:a=true->b=true->d=true->e=true->G):G:=gA h λh i=>gi h λm t Y=>q m t Y i
def xg(h:(a&&b&&d&&e&&f))(q:a=true->b=true->d=true->e=true->f=true->G):G:=gA h λh I=>yv h λm t Y i=>q m t Y i I
def HR(h:(a&&b&&d&&e&&f&&g))(q:a=true->b=true->d=true->e=true->f=true->g=true->G):G:=gA h λh J=>xg h λm t Y i I=>q m t Y i I J
end
@[elab_as_elim] def QV(h:cE c k (.k d) x)(q:∀a m p,KR c.st d a->M (.Constant a m p)):M x:=
 dU h λ_ w h=>w.elim λm w=>w.elim λp e=>e▸q _ m p (Nr h)
@[elab_as_elim] def IG(h:cE c k (.bin B l r) x)(q:∀a b p,cE c k l a->cE c k r b->M (.BinOp a (VC B) b p)):M x:=
 dU h λ_ w h=>yv h λ_ t Y d=>w.elim λp e=>e▸(agS t)▸q _ _ p Y d
@[elab_as_elim] def Bb(h:cE c k (.neg e) x)(q:∀a p,cE c k e a->M (.UnaryOp .USub a p)):M x:=
 dU h λ_ w h=>gA h λm t=>w.elim λp e=>e▸(agS m)▸q _ p t
@[elab_as_elim] def zI(h:cE c k (.not e) x)(q:∀a p,cE c k e a->M (.UnaryOp .Not a p)):M x:=
 dU h λ_ w h=>gA h λm t=>w.elim λp e=>e▸(agS m)▸q _ p t
@[elab_as_elim] def Hd{a:Bool}{E:List PE}(h:cE c k (.bo a E) x)(q:∀o f p,a=qQ o->eQ c k E f->M (.BoolOp o f p)):M x:=
 dU h λ_ w h=>gA h λm t=>w.elim λp e=>e▸q _ _ p (agQ.mp m) t
@[elab_as_elim] def BR{o:List Nat}{r:List PE}(h:cE c k (.cmp l o r) x)(q:∀a os bs p,cE c k l a->jZ o os->eQ c k r bs->lastMarks os bs=false->o.length=r.length->M (.Compare a os bs p)):M x:=
 dU h λ_ w h=>xg h λm t Y d I=>w.elim λp e=>e▸q _ _ _ p m t Y (kC d) (agQ.mp I)
@[elab_as_elim] def CI(h:cE c k (.DG r t f) x)(q:∀a b d p,cE c k r a->cE c k t b->cE c k f d->M (.IfExp a b d p)):M x:=
 dU h λ_ w h=>gi h λm u Y=>w.elim λp e=>e▸q _ _ _ p m u Y
@[elab_as_elim] def I9{E:List PE}(h:cE c k (.tup E) x)(q:∀f m p,eQ c k E f->M (.Tuple f m p)):M x:=
 dU h λ_ w h=>w.elim λm w=>w.elim λp e=>e▸q _ m p h
@[elab_as_elim] def Ln{m:Bool}{E:List PE}(h:cE c k (.ls m E) x)(q:∀f p,eQ c k E f->M (.List f p)):M x:=
 dU h λ_ w h=>w.elim λp e=>e▸q _ p h
@[elab_as_elim] def Ht{l v:List PE}(h:cE c k (.kj B l v) x)(Q:∀p,l=[]->v=[]->W2 B 2->M (.Dict [] [] p))
  (q:∀a b p,a≠[]->B=0->Hb c l a->eQ c k v b->b.length=a.length->W2 a.length 15->M (.Dict a b p)):M x:=
 dU h λa w h=>w.elim λp e=>e▸by
  clear e;obtain⟨a,b⟩:=a;obtain _|⟨y,a⟩:=a
  ·exact yv h λm t Y d=>by exact aa (XN.mp m)<|Q p (XN.mp t) (XN.mp Y) d
  ·exact xg h λm t Y d I=>q _ _ p (Z8 _ _) (WY m) t Y (WY d) I
@[elab_as_elim] def Gq{f:List Nat}{E:List PG}(h:cE c k (.lc f a E) x)(q:∀y g s p,md c k f s->(E.flatMap Gu).Nodup->W2 E.length 8->E≠[]->cG c k s.names E g->cE c s.names a y->M (.ListComp y g s p)):M x:=
 dU h λ_ w h=>HR h λm t Y d I J=>w.elim λp e=>e▸q _ _ _ p m (agS t) Y (λq=>Ws<|(agN (λl:List PG=> !l.isEmpty) q).symm.trans d) I J
@[elab_as_elim] def Ia(h:cE c k (.sub a b) x)(q:∀y z p,i9 z->cE c k a y->cE c k b z->M (.Subscript y z p)):M x:=
 dU h λ_ w h=>gi h λm t Y=>w.elim λp e=>e▸q _ _ p m t Y
@[elab_as_elim] def MD{lo T:Option PE}(h:cE c k (.sl a lo T) x)(q:∀y l u r p,cE c k a y->cO c k lo l->cO c k T u->M (.Subscript y (.Slice l u none r) p)):M x:=
 dU h λ_ w h=>w.elim λp e=>dU h λ_ w h=>w.elim λr E=>gi h λm t Y=>e▸E▸q _ _ _ r p m t Y
@[elab_as_elim] def LU(h:cE c k (.at a B) x)(q:∀y p,c.fld.contains B->i0 y->cE c k a y->M (.Attribute y (c.nm B) p)):M x:=
 dU h λ_ e h=>yv h λm t Y d=>e▸Fast.sEq_iff.mp m▸q _ _ t Y d
@[elab_as_elim] def DB{E:List PE}(h:cE c k (.call B E) x)(q:∀g i p,c.ig B->aM k g (c.fn B)->eQ c k E i->M (.Call g i [] p)):M x:=
 dU h λ_ e h=>gi h λm t Y=>e▸q _ _ _ m t Y
@[elab_as_elim] def Im{E:List PE}(h:cE c k (.new B E) x)(q:∀g f p,aM k g (c.cn B)->eQ c k E f->M (.Call g f [] p)):M x:=
 dU h λ_ e h=>gA h λm t=>e▸q _ _ _ m t
@[elab_as_elim] def Lm{E:List PE}(h:cE c k (.bi B E) x)(Q:∀g y v r p,B=5->aM k g "sorted"->aM k y "set"->eQ c k E v->M (.Call g [.Call y v [] r] [] p))
  (q:∀g f p,B≠5->By B->aM k g (Nx B)->eQ c k E f->M (.Call g f [] p)):M x:=
 dU h λ_ e h=>e▸by
  revert h;rcases s:WV B 5 with _|_
  ·exact λh=>gi h λm t Y=>q _ _ _ (abx s) m t Y
  ·exact λh=>gA h λm h=>dU h λz I h=>dU (show vw (ef z) _=true from h) λ_ u h=>gA h λY d=>I▸u▸Q _ _ _ _ _ (WY s) m Y d
def lU(h:(match b with|1=>p|2=>q|_=>false)=true):(b=1/\p=true)\/(b=2/\q=true):=
 match b,h with
 |1,h=> .inl ⟨rfl,h⟩
 |2,h=> .inr ⟨rfl,h⟩
@[elab_as_elim] def Je{E:List PE}(h:cE c k (.kW B E) x)(q:∀g y s r p,((B=1/\aM k g "tuple")\/(B=2/\aM k g "list"))->aM k y "range"->eQ c k E s->M (.Call g [.Call y s [] r] [] p)):M x:=
 dU h λ_ e h=>dU h λz I h=>dU (show vw (ef z) _=true from h) λ_ u h=>gi h λm t Y=>e▸I▸u▸q _ _ _ _ _ (lU m) t Y
@[elab_as_elim] def IY(h:cE c k (.Hv a B) x)(q:∀g y t p,aM k g "isinstance"->W2 B 4->aM k t (eI B)->U0 y->cE c k a y->M (.Call g [y,t] [] p)):M x:=
 dU h λ_ e h=>dU h λ_ E h=>xg h λm u Y d I=>e▸E▸q _ _ _ _ m u Y d I
@[elab_as_elim] def KC{E:List PE}(h:cE c k (.me a B E) x)(q:∀y A f p,i0 y->cE c k a y->eQ c k E f->(A.endLine==p.line)->aad f.length 30->M (.Call (.Attribute y (KX c B) A) f [] p)):M x:=
 dU h λ_ e h=>dU h λ_ I h=>HR h λn t Y d J L=>e▸I▸Fast.sEq_iff.mp n▸q _ _ _ _ t Y d J L
@[elab_as_elim] def K3(h:cE c k (.fs a) x)(q:∀m p r t y,cE c k a y->M (.JoinedStr [.Constant (.str ("#":Str)) m p,.FormattedValue y (-1) none r] t)):M x:=
 dU h λf w h=>w.elim λt e=>dU (show vw (Ee f) _=true from h) λl E h=>dU (show vw (xK l.1) _=true from h) λd w h=>w.elim λm w=>w.elim λp A=>dU (show vw (B6 d) _=true from h) λu o h=>dU (show vw (Ro l.2) _=true from h) λv w h=>w.elim λr g=>gi h λn z Y=>by
  refine aa e<|aa E<|aa A<|aa o<|aa g<|aa (show u=_ from agQ.mp n) (aa (show v.2=_ from agQ.mp z) ?_);exact q m p r t _ Y
@[elab_as_elim] def BW{E:List PE}(h:cI c k (.kW E) x)(q:∀g f p,aM k g "range"->eQ c k E f->M (.Call g f [] p)):M x:=
 dU h λ_ e h=>gA h λm t=>e▸q _ _ _ m t
@[elab_as_elim] def zX(h:cI c k (.zip a b) x)(q:∀g y z p,aM k g "zip"->U0 y->U0 z->cE c k a y->cE c k b z->M (.Call g [y,z] [] p)):M x:=
 dU h λ_ e h=>dU h λ_ E h=>xg h λm t Y d I=>e▸E▸q _ _ _ _ m t Y d I
@[elab_as_elim] def vt(h:cI c k (.enum a) x)(q:∀g y p,aM k g "enumerate"->U0 y->cE c k a y->M (.Call g [y] [] p)):M x:=
 dU h λ_ e h=>dU h λ_ E h=>gi h λm t Y=>e▸E▸q _ _ _ m t Y
end
@[elab_as_elim] def xb(h:cT c k (.n B) x)(q:∀p,(k.lookup (c.nm B)=some .local\/k.lookup (c.nm B)=some .cell)->M (.Name (c.nm B) p)):M x:=
 dU h λ_ e h=>gA h λm t=>e▸Fast.sEq_iff.mp m▸q _ ((XF.mp t).imp Ju Ju)
@[elab_as_elim] def zq{T:List PT}(h:cT c k (.t T) x)(q:∀f m p,FT c k T f->M (.Tuple f m p)):M x:=
 dU h λ_ w h=>w.elim λm w=>w.elim λp e=>e▸q _ m p h
def Q5:∀{f:List adz},FT c k (t::T) f->∃x G,f=x::G/\cT c k t x/\FT c k T G=true
 |_::_,h=>⟨_,_,rfl,ew h⟩
def vW:∀{x:List adz},FT c k [] x->x=[]
 |[],_=>rfl
def Oj:∀{f:List adz},eQ c k (t::T) f->∃x G,f=x::G/\U0 x/\cE c k t x/\eQ c k T G=true
 |_::_,h=>⟨_,_,rfl,kB h⟩
def kS:∀{x:List adz},eQ c k [] x->x=[]
 |[],_=>rfl
@[elab_as_elim] def Cs(h:cL c k (.at e B) x)(q:∀y p,c.fld.contains B->cE c k e y->M (.Attribute y (c.nm B) p)):M x:=
 dU h λ_ e h=>gi h λm t Y=>e▸Fast.sEq_iff.mp m▸q _ _ t Y
@[elab_as_elim] def ti(h:cL c k (.sub a b) x)(q:∀y z p,i9 z->cE c k a y->cE c k b z->M (.Subscript y z p)):M x:=
 dU h λ_ w h=>gi h λm t Y=>w.elim λp e=>e▸q _ _ p m t Y
def v8:∀{t:PT},cT c k t x->U0 x=true
 |.n _,h=>xb h λ_ _=>rfl
 |.t _,h=>zq h λ_ _ _ _=>rfl
def ur:∀{t:PL},cL c k t x->U0 x=true
 |.t _,h=>v8 h
 |.at ..,h=>Cs h λ_ _ _ _=>rfl
 |.sub ..,h=>ti h λ_ _ _ _ _ _=>rfl
def Qw:∀{f:List adz},FG c k (t::T) f->∃x G,f=x::G/\cL c k t x/\FG c k T G=true
 |_::_,h=>⟨_,_,rfl,ew h⟩
def pF:∀{x:List adz},FG c k [] x->x=[]
 |[],_=>rfl
section
variable{c:Nm}{k:Ks}{x:Stmt}
def RR(h:(!a||b)):a=false\/b=true:=by
 obtain _|_:=a
 ·exact .inl rfl
 ·exact .inr h
@[elab_as_elim] def IE{G:Stmt->Prop}(h:cS c k (.asg t e) x)(q:∀y v p,cL c k t y->cE c k e v->(!isDisplay v|| !pE y)->(lr v=false\/(∃f a g,e=.lc f a g)/\∃i,t=.t (.n i))->G (.Assign [y] v p)):G x:=
 dU h λ_ w h=>yv h λm u Y d=>w.elim λp e=>e▸q _ _ p m u Y ((RR d).imp id λh=>dU h λ_ E h=>dU h λ_ z _=>⟨⟨_,_,_,E⟩,_,z⟩)
@[elab_as_elim] def Iz{G:Stmt->Prop}(h:cS c k (.par T E) x)(q:∀f a b y A v p,FG c k T f->eQ c k E y->(y.all (aeP 8)|| !y.all (constantsAlone 8))->W2 E.length 30->WV T.length E.length->G (.Assign [.Tuple f a b] (.Tuple y A v) p)):G x:=
 dU h λ_ w h=>w.elim λp e=>dU h λ_ w h=>w.elim λa w=>w.elim λb I=>dU h λ_ w h=>w.elim λA w=>w.elim λv u=>xg h λm t Y d J=>e▸I▸u▸q _ a b _ A v p m t Y d J
@[elab_as_elim] def Ni{G:Stmt->Prop}(h:cS c k (.ex e) x)(q:∀v p,cE c k e v->lr v=false->G (.Expr v p)):G x:=
 dU h λ_ w h=>gA h λm t=>w.elim λp e=>e▸q _ p m (kC t)
@[elab_as_elim] def H9{G:Stmt->Prop}(h:cS c k (.iff r t f) x)(q:∀a b d p,cE c k r a->sO c k t b->sO c k f d->G (.If a b d p)):G x:=
 dU h λ_ w h=>gi h λm u Y=>w.elim λp e=>e▸q _ _ _ p m u Y
@[elab_as_elim] def Jv{G:Stmt->Prop}(h:cS c k (.for t i b) x)(q:∀y z a p,cT c k t y->cI c k i z->jF i t->sO c k b a->G (.For y z a [] p)):G x:=
 dU h λ_ w h=>yv h λm u Y d=>w.elim λp e=>e▸q _ _ _ p m u Y d
@[elab_as_elim] def IB{G:Stmt->Prop}(h:cS c k (.Gk r b) x)(q:∀a d p,cE c k r a->sO c k b d->G (.While a d [] p)):G x:=
 dU h λ_ w h=>gA h λm t=>w.elim λp e=>e▸q _ _ p m t
@[elab_as_elim] def HA{G:Stmt->Prop}(h:cS c k (.ret e) x)(q:∀v p,cE c k e v->G (.Return (some v) p))(Q:∀p,e=.k .none->G (.Return none p)):G x:=
 dU h λa w h=>w.elim λp e=>e▸by
  obtain _|v:=a
  ·exact dU h λ_ E _=>Q p E
  ·exact q v p h
@[elab_as_elim] def HU{G:Stmt->Prop}(h:cS c k (.try b) x)(q:∀d e E p,sO c k b d->G (.Try d (e::E) [] [] p)):G x:=
 dU h λ_ w h=>w.elim λa w=>w.elim λE w=>w.elim λp e=>e▸q _ a E p h
end
def og:∀p∈mO,aeR p.1=some p.2/\p.1≠"__name__":=by
 have:(mO.all λp=>aeR p.1==some p.2&& !(p.1==("__name__":Str)))=true:=by decide+kernel
 intro p h;have:=Wt.mp this p h;simp only[W7,agQ,aaB] at this;exact⟨this.1,by simpa using this.2⟩
structure Wq extends Wk where
 c:Nm
 tT:W.nm=c.nm
 cst:W.st=c.st
 QH:W.fld=c.fld
 QY:N.gn=c.gn
 Rz:N.an=c.an
 bl:∀p∈mO,mg p.1=none
 dot:∀i,c.nm i≠(".0":Str)
 gf:∀f,c.ig f->mg (c.fn f)=some (.ref (fa f))/\aee K (.ref (fa f))
 gc:∀n f,T.mt n 0=some f->mg (c.cn n)=some (.ref (W.cl n))/\aee K (.ref (W.cl n))
 kf:∀n m f,T.mt n m=some f->aee K (.ref (fa f))
def TF(Y:Wq)(d:Nat):Cl:=λf vs σ Q=>
 ∀(A:adC)(s:adx)(P:aF)(us:List Value)(R:aeF->adx->Prop),jd A d->Gd Y.toWd s P σ->j3 Y.W s.heap P us vs->
  (∀v x T p a,Gd Y.toWd T p a->Step [] s.heap P T.heap p->VR Y.W T.heap p v x->Q x a->R (.ok<|.ret v) T)->adR (adB Y.prog Y.w) A (.call (.ref<|Y.fa f) ⟨us,[]⟩) R s
def dc(Y:Wq)(C:Cl)(d:Nat)(e:PE):Prop:=∀{x:adz}{k:Ks}{env:Env}{fr:List Addr}{ρ:Ev}{A:adC}{s:adx}{P:aF}{σ:UT}{Q:V->UT->Prop},
 cE Y.c k e x=true->bU A d->Gd Y.toWd s P σ->En Y.toWd s.heap P fr k env ρ->vE Y.T C e ρ σ Q->Gv Y.toWd A (eval x env) s P Q
def nh(Y:Wq)(C:Cl)(d:Nat)(e:PE):Prop:=∀{x:adz}{k:Ks}{env:Env}{fr:List Addr}{ρ:Ev}{A:adC}{s:adx}{P:aF}{σ:UT}{Q:Bool->UT->Prop},
 cE Y.c k e x=true->bU A d->Gd Y.toWd s P σ->En Y.toWd s.heap P fr k env ρ->vE Y.T C e ρ σ (λv σ=>ok (BD v) λb=>Q b σ)->Gw Y.toWd A RB (aey x env<|eval x env) s P Q
def hW(Y:Wq)(C:Cl)(d:Nat)(es:List PE):Prop:=∀{xs:List adz}{k:Ks}{env:Env}{fr:List Addr}{ρ:Ev}{A:adC}{s:adx}{P:aF}{σ:UT}{Q:List V->UT->Prop},
 eQ Y.c k es xs=true->bU A d->Gd Y.toWd s P σ->En Y.toWd s.heap P fr k env ρ->nj Y.T C es ρ σ Q->
  ∀pos,Gw Y.toWd A (Ry Y.toWd) (spliced<|adS pos<|adM xs env) s P Q
def lT(h:BD v=some b):v=.d (.bool b):=by
 obtain x|_:=v
 ·exact agN V.d (lD (show x.oM=some b from by cases x<;>exact h))
 ·exact no h
def VR.bool(r:VR W h P u (.d (.bool b))):u=.bool b:=r.dd.eZ
section
variable{Y:Wq}{C:Cl}{d:Nat}{A:adC}{s:adx}{P:aF}{i:UT}{k:Ks}{g:Env}{n:List Addr}{j:Ev}
def nL{x:adz}{id:Str}(h:p9 x id):∃p,x=.Name id p:=nc h λa h=>⟨_,Fast.sEq_iff.mp h▸a.2⟩
def bY{x:adz}{id:Str}(h:aM k x id):∃p,x=.Name id p/\k.lookup id=some .globalImplicit/\(id==("__debug__":Str))=false:=aC (kB h) λm t a=>by
 obtain⟨p,e⟩:=nL m;exact⟨p,e,Ju t,kC a⟩
def ic{x:adz}{id:Str}{v:Value}{E:Value->adx->Prop}(G:Gd Y.toWd s P i)(N:En Y.toWd s.heap P n k g j)(h:aM k x id)(T:(id,v)∈mO)
  (q:U v s):adA (adB Y.prog Y.w) A (eval x g) U E s:=aj (bY h) λp e t a=>by
 clear h;subst e;obtain⟨f,I⟩:=og _ T;exact Cp G N t a (Y.bl _ T) f I q
def nh.of(y:dc Y C d e)(l:∀g m,aey x g m=(do let v<-m;standAt x.pos;holding [v] (truthy v)))
  (o:cE Y.c k e x) (R:bU A d) (G:Gd Y.toWd s P i) (N:En Y.toWd s.heap P n k g j) (h:vE Y.T C e j i (λv i=>ok (BD v) λb=>Q b i)):Gw Y.toWd A RB (aey x g (eval x g)) s P Q:=by
 rw[l];refine Gw.bind (y o R G N h).w λu v U p a f S r q=>ed q λb h1 h2=>?_;clear q;obtain rfl:=lT h1;obtain rfl:=r.bool;refine Gw.aS<|Gw.holding λK E t=>aet<|t b b U p a f (Step.refl ..) rfl h2
def ze:hW Y C d []:=by
 intro x k g n j A s P i Q m R G N h;obtain rfl:=kS m;exact λ_=>Gw.pure G .nil h
def cV(h:U0 x):adM (x::f) g=(false,eval x g)::adM f g:=by
 cases x<;>first|rfl|cases h
def gq:∀{l:List PE}{f:List adz},eQ c k l f->(adM f g).any (·.1)=false:=by
 intro z
 induction z with
 |nil=>
  intro _ h;exact kS h▸rfl
 |cons e l I=>
  intro _ h;refine aG (Oj h) λx f E m _ t=>?_;clear h;subst E;refine aa (cV m)<|aa W5<|aa (I t) ?_;rfl
def cY:(adS p l).any (·.1)=l.any (·.1):=by
 delta adS;refine aa ZI ?_
 rfl
def wI(L:dc Y C d e)(am:hW Y C d w):hW Y C d (e::w):=by
 intro f k g n j A s P i Q y R G N h B;refine aG (Oj y) λx f p m t a=>?_;clear y;subst p;refine aa (cV m) ?_;intro K E q;exact aeb<|L t R G N h _ E λu v T I c b S r z=>am a R b (N.step S) z B _ E λU l ac al ag M o r' J=>q _ _ ac al ag M (S.trans o) (.cons (r.step o) r') J
def cv(c:e.any (·.1)=false)
  (h:adA l A (spliced e) (λv T=>Q ⟨v,[]⟩ T) E s):adA l A (evalArgs f true e []) Q E s:=by
 obtain _|⟨a,e⟩:=e
 ·show adA l A (spliced []>>=_) Q E s
  refine adw<|aeE h (λv T G=>?_) λ_ _ x=>x;exact adw<|ady<|adD<|adw<|ady<|ady G
 ·obtain⟨b,t⟩:=a
  rw[W5] at c;obtain _|_:=b
  ·exact evalArgs_plain h
  ·simp at c
def gU(b:N.any (·.1)=false)
  (M:aee Y.K f\/(∀a,f≠ .ref a)) (h:Gw Y.toWd A (Ry Y.toWd) (spliced N) s P Q1)
  (q:∀ac l T p c,Gd Y.toWd T p c->Step [] s.heap P T.heap p->j3 Y.W T.heap p ac l->Q1 l c->Gv Y.toWd A (call f (first++ac)) T p Q):Gv Y.toWd A (afe t f first N []) s P Q:=by
 intro K E w;refine aek (by refine aa b ?_;rfl) (λh X=>?_) (cv b<|h _ E λac l T p c G S r o=>⟨G.X,q ac l T p c G S r o _ E λu v B I z x m y e=>w u v B I z x (S.trans m) y e⟩);obtain M|M:=M
 ·exact keeps_K M h X
 ·refine⟨.machine,.inr<|.inl rfl,Zh ?_⟩
  clear q;cases f<;>first|rfl|exact agR rfl (M _)
end
section
variable{Y:Wq}{C:Cl}{d:Nat}
def A6:dc Y C d .hole:=λ_ _ _ _ h=>h.elim
def zy:nh Y C d .hole:=λ_ _ _ _ h=>h.elim
def zd.gv(h:zd Z A [] t s P v λu h P=>VR Z.W h P u x)(q:Q x v):Gv Z A t s P Q:=
 λK E U=>h K E λu T p G S r=>U u x T p v G S r q
def GG(x:D):dc Y C d (.k x):=by
 intro y k e f L A s P t Q m R G N h;exact QV m λc T p I=>zd.gv (sV G<|Y.cst▸I) h
def NG(n:Nat):dc Y C d (.v n):=by
 intro y k a f L A s P t Q o R G N h;have o:=(ew o);refine af (nL o.1) λp e=>?_;subst e;refine ed h λv m w=>?_;have l:=Q7 (k:=k)▸o.2;rw[<-Y.tT] at l ⊢;intro K E q;rcases M:k.lookup (Y.W.nm n) with _|T
 ·rw[M] at l;cases l
 ·rw[M] at l
  refine xM N m M ?_ λu r=>q u v s P t G (Step.refl ..) r w;clear M;cases T with
  |«local»=>exact .inl rfl
  |cell=>exact .inr<|.inl rfl
  |free=>exact .inr<|.inr rfl
  |_=>cases l
def NH(n:Nat):dc Y C d (.g n):=by
 intro y k b f L A s P t Q m R G N h;refine aj (bY<|m) λp e u a=>?_;clear m;subst e;refine ed h λx i I=>ae (Y.gt n x i) λv J z=>?_;rw[Y.QY] at J;intro K E q;exact jR G N u a J<|q v (.d x) s P t G (Step.refl ..) (.d<|G.top z) I
def nE.gv(G:Gd Z s P v)(h:nE Z A t s λu h=>DR Z.W h (own P) u x)(q:Q (.d x) v):Gv Z A t s P Q:=
 λK E U=>h K E λu T M m r=>U u (.d x) T P v ((G.ext M).sm m) (Step.ext M) (.d r) q
def yn(e:Ag x (.lst l)=some y):∃xs,x=.lst xs/\xs.length+l.length<=lim/\y=.lst (xs++l):=by
 obtain _|_|_|_|_|_|_|xs:=x;iterate 7 exact no e
 ·exact⟨xs,rfl,(fs e).1,(Wn (fs e).2).symm⟩
def wY(G:Gd Z s P t)(r:VR Z.W s.heap P u a)(I:VR Z.W s.heap P v b)(e:yi o a b t=some x)(q:Q (.d x) t):
  Gv Z A (aer (VC o) u v) s P Q:=cB e λy j e=>by
 have r:=(aL j▸r).dd;clear j;obtain b|n:=b
 ·exact nE.gv G (zh (cA G) r I.dd e) q
 ·refine cB e λz N e=>GF (fs e) λe=>aK (fy I N) λp c E L _=>?_;clear I;subst E
  refine aj (yn e) λf E J B=>?_;subst E;clear e;subst B;refine az r.eX λa U M l _ _ k=>?_;obtain rfl:=M;exact aj (jr G L c) λg h w i=>nE.gv G (vn (cA G) l k h i J) q
def Eb(J:dc Y C d l)(I:dc Y C d r):dc Y C d (.bin o l r):=by
 intro y k E f L A s P t Q m R G N h;refine IG m λa b B c g=>?_;rw[arm_eval_BinOp];refine(Gw.bind (J c R G N h).w λu v T p n i S U z=>?_).v;exact Gw.bind (Gw.holding (I g R i (N.step S) z).w) λu' v' ag am al ac j r2 M=>ed M λx e q=>Gw.aS<|Gw.operate (wY ac (U.step j) r2 e q).w
def D5(j:dc Y C d e):dc Y C d (.neg e):=by
 intro y k b o L A s P x Q m R G N h;refine Bb m λa n I=>?_;rw[agp];refine(Gw.bind (j I R G N h).w λu v T p c g S r z=>?_).v;refine ed z λi e q=>af (iL r e) λt f=>?_;clear r;subst f;exact Gw.aS<|Gw.holding<|Gw.cX g q λK E B=>PySem.P.neg_int<|B _ {T with toks:=T.toks+1} (Kp.refl _) ⟨rfl,rfl⟩ (.d<|.int _ _)
def DY(i:nh Y C d e):nh Y C d (.not e):=by
 intro y k E f L A s P t Q m R G N h;refine zI m λa n I=>?_;rw[arm_isTrue_UnaryOp];refine Gw.bind (i I R G N h) λu v T p b g S r o=>?_;subst r;exact Gw.pure g rfl o
end
section
variable{Y:Wq}{C:Cl}{d:Nat}
def FY(j:dc Y C d e):dc Y C d (.not e):=by
 intro y k c f L A s P t Q m R G N h;refine zI m λa n I=>?_;rw[agp];refine(Gw.bind (j I R G N h).w λu v T p i g S r o=>?_).v;refine ed o λb e q=>?_;clear o;cases lT e;obtain rfl:=r.bool;exact Gw.aS<|Gw.holding<|Gw.cX g q λK E x=>adw<|aet<|ady<|x _ T (Kp.refl _) ⟨rfl,rfl⟩<|.d<|.bool _
def Dy(B:nh Y C d q)(o:dc Y C d t)(M:dc Y C d f):dc Y C d (.DG q t f):=by
 intro y k E p L A s P x Q m R G N h;refine CI m λa b e n U i J=>?_;rw[arm_eval_IfExp];refine(Gw.bind (B U R G N h) λu b T I c g S r z=>?_).v;cases r;obtain _|_:=u
 ·exact(M J R g (N.step S) z).w
 ·exact(o i R g (N.step S) z).w
def FL(x:nh Y C d q)(o:nh Y C d t)(M:nh Y C d f):nh Y C d (.DG q t f):=by
 intro y k E p L A s P v Q m R G N h;refine CI m λa b e n U i J=>?_;rw[arm_isTrue_IfExp];refine Gw.bind (x U R G N h) λu b T I c g S r w=>?_;subst r;obtain _|_:=u
 ·exact M J R g (N.step S) w
 ·exact o i R g (N.step S) w
def N7(Y:Wq)(C:Cl)(d:Nat)(es:List PE):Prop:=∀{a:Bool}{op:ae1}{pos:Pos}{xs:List adz}{k:Ks}{env:Env}{fr:List Addr}{ρ:Ev}{A:adC}{s:adx}{P:aF}{σ:UT}{Q:V->UT->Prop},
 a=qQ op->eQ Y.c k es xs=true->bU A d->Gd Y.toWd s P σ->En Y.toWd s.heap P fr k env ρ->vB Y.T C a es ρ σ Q->Gv Y.toWd A (boolOp pos op<|afL xs env) s P Q
def zG(Y:Wq)(C:Cl)(d:Nat)(es:List PE):Prop:=∀{a:Bool}{op:ae1}{xs:List adz}{k:Ks}{env:Env}{fr:List Addr}{ρ:Ev}{A:adC}{s:adx}{P:aF}{σ:UT}{Q:Bool->UT->Prop},
 a=qQ op->eQ Y.c k es xs->bU A d->Gd Y.toWd s P σ->En Y.toWd s.heap P fr k env ρ->vB Y.T C a es ρ σ (λv σ=>ok (BD v) λb=>Q b σ)->Gw Y.toWd A RB (allTrue op xs env) s P Q
def yX:zG Y C d []:=λ_ _ _ _ _ h=>h.elim
def Cr(he:dc Y C d e)(ap:N7 Y C d i):N7 Y C d (e::i):=by
 intro a op U f k c o L A s P y Q J n R G N h;obtain _|⟨x,f⟩:=f
 ·exact Ws n
 ·refine gi n λ_ m z=>?_
  clear n;obtain _|⟨B,i⟩:=i
  ·obtain _|_:=f
   ·exact he m R G N h
   ·exact Ws z
  ·obtain _|⟨x2,f⟩:=f
   ·exact Ws z
   ·subst J
    have I:=h;refine(Gw.bind (he m R G N I).w λu v T p l g S r M=>?_).v;refine ed M λb e q=>?_;clear M;obtain rfl:=lT e;obtain rfl:=r.bool;refine Gw.aS<|Gw.bind (R:=RB) (Q:=λt y=>t=b/\y=l) (Gw.holding λK E q'=>aet<|q' b b T p l g (Step.refl ..) rfl ⟨rfl,rfl⟩) λt t' ag am al ac j r2 q2=>?_;subst r2;obtain⟨rfl,rfl⟩:=q2;cases op<;>cases t
    ·exact Gw.pure ac (.d<|.bool _) q
    iterate 2 exact(ap rfl z R ac ((N.step S).step j) q).w
    ·exact Gw.pure ac (.d<|.bool _) q
def xI(j:nh Y C d e)(l:zG Y C d E):zG Y C d (e::E):=by
 intro a U f k c o L A s P t Q J n R G N h;obtain _|⟨x,f⟩:=f
 ·exact Ws n
 ·refine gi n λ_ m v=>?_
  subst J;rw[arm_allTrue_cons];clear n;obtain _|⟨w,E⟩:=E
  ·obtain _|_:=f
   ·refine Gw.bind (j m R G N h) λu b T p i g S r y=>?_
    subst r;clear h;cases U<;>cases u<;>exact Gw.pure g rfl y
   ·exact Ws v
  ·have I:=h
   refine Gw.bind (j m R G N I) λu b T p i g S r y=>?_;subst r;clear h I;cases U<;>cases u
   ·exact Gw.pure g rfl y
   iterate 2 exact l rfl v R g (N.step S) y
   ·exact Gw.pure g rfl y
def IL(h:N7 Y C d e):dc Y C d (.bo a e):=by
 intro y k E f L A s P t Q m R G N b;refine Hd m λo x p T c=>?_;rw[arm_eval_BoolOp];exact h T c R G N b
def Hr(h:zG Y C d e):nh Y C d (.bo a e):=by
 intro y k E f L A s P t Q m R G N b;refine Hd m λo x p T c=>?_;rw[arm_isTrue_BoolOp];exact h T c R G N b
def JU(Y:Wq)(C:Cl)(d:Nat)(r:List PE):Prop:=∀{o:List Nat}{os:List aeN}{pos:Pos}{xs:List adz}{k:Ks}{env:Env}{fr:List Addr}{ρ:Ev}{A:adC}{s:adx}{P:aF}{σ:UT}{u:Value}{a:V},
 jZ o os->eQ Y.c k r xs=true->o.length=r.length->bU A d->Gd Y.toWd s P σ->En Y.toWd s.heap P fr k env ρ->VR Y.W s.heap P u a->
  (∀{Q:V->UT->Prop},vC Y.T C o r a ρ σ (λb σ=>Q (.d<|.bool b) σ)->Gv Y.toWd A (compareChain pos u os<|afL xs env) s P Q)/\
  (∀{Q:Bool->UT->Prop},vC Y.T C o r a ρ σ Q->Gw Y.toWd A RB (testChain pos u os<|afL xs env) s P Q)
def Ep:JU Y C d []:=by
 intro v os p x k e o L A s P t u a f m J R G N r;clear f;obtain _|_:=v
 ·constructor<;>intro Q h<;>exact h.elim
 ·exact YG J
def j7{s:List Nat}{os:List aeN}(h:jZ (B::s) os):∃i,os=vT B::i/\jZ s i:=by
 obtain _|⟨p,M⟩:=os
 ·exact Ws h
 ·exact gi h λ_ m t=>⟨M,aa (agQ.mp m) rfl,t⟩
def za(he:dc Y C d e)(a2:JU Y C d i):JU Y C d (e::i):=by
 intro ap os ag f k p B L A s P y u a l n J R G N r;obtain _|⟨x,f⟩:=f
 ·exact Ws n
 refine gi n λ_ m z=>?_;clear n;obtain _|⟨o,ap⟩:=ap
 ·exact YG J
 refine ae (j7 l) λos g ar=>?_;clear l;subst g;have aw:=Yb J;obtain _|⟨M,i⟩:=i
 ·obtain _|_:=f
  rotate_left
  ·exact Ws z
  obtain _|_:=ap
  ·obtain _|_:=os
   rotate_left
   ·exact Ws ar
   constructor
   ·intro Q h
    refine(Gw.bind (Gw.holding (he m R G N h).w) λv b U P' ac G' S r1 q1=>?_).v;exact ed q1 λc I q=>Gw.aS<|Gw.operate<|Gw.cX G' q λK E hK=>lI G' R.u (r.step S) r1 I λt=>hK _ {U with toks:=t} (Kp.refl _) ⟨rfl,rfl⟩ (.d<|.bool _)
   ·intro Q h
    refine Gw.bind (Gw.holding (he m R G N h).w) λv b U P' ac G' S r1 q1=>ed q1 λc I q=>Gw.aS<|Gw.bind (R:=RV Y.toWd) (Q:=λv y=>v=.d (.bool c)/\Q c y) (Gw.operate<|Gw.cX G' ⟨rfl,q⟩ λK E hK=>lI G' R.u (r.step S) r1 I λt=>hK _ {U with toks:=t} (Kp.refl _) ⟨rfl,rfl⟩ (.d<|.bool _)) λv' b' am a0 ax al j r2 q2=>?_;obtain⟨rfl,q2⟩:=q2;obtain rfl:=r2.bool;exact Gw.holding λK E q'=>aet<|q' c c am a0 ax al (Step.refl ..) rfl q2
  ·exact YG aw
 ·obtain _|⟨x2,f⟩:=f
  ·exact Ws z
  obtain _|⟨o2,ap⟩:=ap
  ·exact YG aw
  refine ae (j7 ar) λos g a3=>?_;subst g;have go:∀{v:Value}{b:V}{c:Bool}{U:adx}{P':aF}{ac:UT}(E:Value->adx->Prop)(K:Value->adx->Prop),Gd Y.toWd U P' ac->Step [] s.heap P U.heap P'->VR Y.W U.heap P' v b->nk Y.T ac o a b=some c->
    (∀t,K (.bool c) {U with toks:=t})->adA (adB Y.prog Y.w) A (aes (vT o) u v) K E U:=λE K G' S r1 I hK=>lI G' R.u (r.step S) r1 I hK
  constructor
  ·intro Q h
   refine(Gw.bind (Gw.holding (he m R G N h).w) λv b U P' ac G' S r1 q1=>?_).v;refine ed q1 λc I q=>Gw.aS λK E q'=>adw<|adD<|go _ _ G' S r1 I λt=>adw<|aff<|adw<|adD<|aet ?_;clear I;obtain _|_:=c
   ·exact ady (q' _ (.d<|.bool false) {U with toks:=t} P' ac G' (Step.refl ..) (.d<|.bool _) q)
   ·exact(a2 (s:={U with toks:=t}) ar z aw R G' (N.step S) r1).1 q K E q'
  ·intro Q h
   refine Gw.bind (Gw.holding (he m R G N h).w) λv b U P' ac G' S r1 q1=>ed q1 λc I q=>Gw.aS λK E q'=>adw<|adD<|go _ _ G' S r1 I λt=>adw<|aff<|adw<|adD<|aet ?_;clear I;obtain _|_:=c
   ·exact ady (q' _ false {U with toks:=t} P' ac G' (Step.refl ..) rfl q)
   ·exact(a2 (s:={U with toks:=t}) ar z aw R G' (N.step S) r1).2 q K E q'
def DQ(J:dc Y C d l)(B:JU Y C d ac):dc Y C d (.cmp l E ac):=by
 intro y k e f L A s P t Q n R G N h;refine BR n λa os bs z m x b g I=>?_;rw[arm_eval_Compare,agq _ _ _ g];refine(Gw.bind (J m R G N h).w λu v T p i c S r o=>?_).v;exact((B x b I R c (N.step S) r).1 o).w
def FQ(J:dc Y C d l)(B:JU Y C d ac):nh Y C d (.cmp l E ac):=by
 intro y k e f L A s P t Q n R G N h;refine BR n λa os bs z m x b g I=>?_;rw[arm_isTrue_Compare,agq _ _ _ g];exact Gw.bind (J m R G N h).w λu v T p i c S r o=>(B x b I R c (N.step S) r).2 o
end
section
variable{Y:Wq}{C:Cl}{d:Nat}
def D4(i:hW Y C d e):dc Y C d (.tup e):=by
 intro y k a f L A s P t Q m R G N h;refine I9 m λx l n M=>?_;rw[agr];refine(Gw.aS<|Gw.bind (i M R G N h n) λU g T p c b S r q=>?_).v;refine ed q λj I q=>jC q λu q=>?_;have z:=wd r I;have J:U.length<=lim:=by exact aa z.length<|XD.mp u
 exact Gw.cX b q λK E w=>aeT (w _ {T with heap:=_} (Kp.push _ _) ⟨rfl,rfl⟩ (.d<|iH (cA b) J z)) (ba J)
def HX(l:hW Y C d e):dc Y C d (.ls m e):=by
 intro y k b f L A s P t Q n R G N h;refine Ln n λx w h9=>?_;rw[arm_eval_List];refine(Gw.aS<|Gw.bind (l h9 R G N h w) λU g T M i c S r q=>?_).v;refine ed q λz I q=>jC q λu q=>?_;have rd:=wd r I;have J:U.length<=lim:=by exact aa rd.length<|XD.mp u
 clear n h;obtain _|_:=m
 ·exact Gw.cX c q λK E B=>aeH (B _ {T with heap:=_} (Kp.push _ _) ⟨rfl,rfl⟩ (.d<|kM (cA c) J rd)) (ba J)
 ·intro K E q'
  refine aeH ?_<|ba J;have ac:=bX T.heap;exact aC (c.new (p:=⟨T.heap.objs.size,T.heap.objs.size⟩) (o:=.list z) (h':=T.heap.push {cls:=.type "list",data:=.seq U.toArray}) (Kp.push _ _) ac ac
   λS=>⟨rfl,U,⟨0,WA _ rfl⟩,J,rd.stays S⟩) λG2 j a=>q' _ _ {T with heap:=_} _ _ G2 j (.loc a) q
def wB{T id:String}{Q:Value->adx->Prop}(I:s.TypeIs o T)
  (J:aeG (.type T) "__getitem__"=pure (some (.builtin id))) (h:adA (adB p w) A (adY o i) Q U s) (e:∃t,afM slice false o i=operate t (adY o i)):
  adA (adB p w) A (ags value slice o i) Q U s:=by
 refine af e λt e=>adw<|aa (getitemInPython_of_ne I.not_modules)<|adw<|ad7 I J ?_;have f:adA (adB p w) A (afM slice false o i) (λr a=>adA (adB p w) A (letTemporaryGo value o r>>=λ_=>pure r) Q U a) U s:=by
  exact aa e (wpAny_operating<|aeE h (λr a G=>adw<|agt<|ady G) λ_ _ x=>x)
 first
  |exact ady (adw f)
  |exact adw (ady<|adw f)
  |exact adw f
def qO(h:i9 slice)(o i:Value):∃s,afM slice false o i=operate s (adY o i):=by
 cases slice<;>first|exact⟨_,rfl⟩|cases h
def BX{Z:Wd}{s:adx}{u:Value}{o:X}{i y:D}(r:XR Z s.heap j u o)(e:lF Z.T o i=some y):
  ∃T id,s.TypeIs u T/\aeG (.type T) "__getitem__"=pure (some (.builtin id)):=by
 obtain _|_|_|_|_|_|_|_:=o;iterate 3 exact no e
 ·refine af r λt E=>?_;clear r;subst E;exact⟨"str",_,rfl,acB.lookup⟩
 ·refine aq r λa v E z _=>?_;clear r;subst E;exact af z λn h=>⟨"tuple",_,⟨_,h,rfl⟩,ace.lookup⟩
 ·refine aq r λa v E z _=>?_;clear r;subst E;exact af z λn h=>⟨"list",_,⟨_,h,rfl⟩,agu⟩
 ·refine aj r λa E R _=>?_;clear r;subst E;exact ae (ot R) λo h w=>⟨"dict",_,⟨o,h,w.1⟩,F.slot_dict_getitem.lookup⟩
 exact no e
def FD(he:dc Y C d e)(hi:dc Y C d i):dc Y C d (.sub e i):=by
 intro y k f p L A s P z Q n R G N h;refine Ia n λa b ag m B c=>?_;show Gv _ _ (eval a f>>=λo=>holding [o] (eval b f)>>=λi=>standAt ag>>=λ_=>ags a b o i) _ _ _;refine(Gw.bind (he B R G N h).w λu v U l ac r S r1 q1=>?_).v;refine Gw.bind (Gw.holding (hi c R r (N.step S) q1).w) λu' v' am ar ap al j r2 q2=>ed q2 λx M q=>?_;clear q2;obtain rfl:=aL M;refine ed q λy g q=>?_;have r1:=br al<|r1.step j;exact cF (BX r1 g) λT id hT J=>Gw.aS<|Gw.cX al q λK E hK=>wB hT J (As R.u r1 r2.dd g λw t I=>hK _ {am with toks:=t} (Kp.refl _) ⟨rfl,rfl⟩ (.d I)) (qO m _ _)
def js(h:i0 a):attributeBase a attr env t=t:=by
 obtain _|_|_|_|_|_|_|_|_|_|_|_|_|_|_|_|⟨g,x,k,p⟩|_|_|_|_|_|_|_|_|_|_:=a;iterate 16 rfl
 ·obtain _|_|_|_|_|_|_|_|_|_|_|_|_|_|_|_|_|_|_|_|_|_|_|⟨id,q⟩|_|_|_:=g
  iterate 23 rfl
  ·obtain _|_:=x
   ·obtain _|_:=k
    ·have h:Y5 id ("super":Str)=false:=kC h
     have h:(id==("super":Str))=false:=agV.mpr λe=>Ws<|(Fast.sEq_iff.mpr e).symm.trans h;show(if (!(id==("super":Str))||attr=="__class__"||env.kindOf "super" !=some .globalImplicit||env.kindOf "__class__" !=some .free)=true then t else _)=t;exact aa h<|agO rfl
    ·rfl
   ·rfl
  all_goals rfl
 all_goals rfl
def Jw(he:dc Y C d e):dc Y C d (.at e f):=by
 intro y k c o L A s P z Q m R G N h;refine LU m λa n B b g=>?_;rw[arm_eval_Attribute,js b];refine(Gw.bind (he g R G N h).w λu v T p l i S r U=>?_).v;refine ed U λx M q=>?_;have J:f∈Y.W.fld:=by refine aa Y.QH ?_;simpa using B
 exact av Y.tT<|Gw.aS<|Gw.bind (Gw.holding λK E hK=>sY i J r M λw t I=>hK w x {T with toks:=t} p l i (Step.refl ..) I q) λu' v' ag am al ac j r2 q2=>Gw.skip (λQ E hq=>agt hq) (Gw.pure ac r2 q2)
end
def ij(v:Value)(o:Option D):Prop:=match o with
 |none=>v=.none
 |some d=>∀i,d.fU=some i->∃t,v=.int i t
def ij.at(p:ij v o)(e:sj n df o=some k):∃a,aez v a/\(k:Int)=(match a with
  |none=>((df.toNat:Nat):Int)
  |some i=>let i:=if i<0 then i+n else i;max 0 (min i (n:Int))):=by
 obtain _|d:=o
 ·obtain rfl:=Wn e;exact⟨none,p▸ .none,rfl⟩
 ·refine fZ e λi h E=>?_;clear e;subst E
  refine af (p i h) λt E=>?_;clear p;subst E;exact⟨some i,.int i t,Xe (Int.le_max_left ..)⟩
def BB{lo h:Option D}{b:Nat}(p:ij k lo)(U:ij m h)(E:sj J.length 0 lo=some B)(y:sj J.length J.length h=some b):
  ∃i d,aez k i/\aez m d/\slicePick J.toArray i d none=((J.take b).drop B).toArray:=by
 refine ae (p.at E) λi A l=>ae (U.at y) λd n c=>⟨i,d,A,n,?_⟩;have e:sliceBounds i d none J.toArray.size=((B:Int),(b:Int),1):=by
  rw[l,c];cases i<;>cases d<;>rfl
 delta slicePick;rw[e];dsimp only;rw[sliceRange_one,pick_run];exact aa acH rfl
section
variable{Z:Wd}{A:adC}{E:Value->adx->Prop}{s:adx}{P:aF}{c:UT}{u v:Value}
def L2.cut(r:L2 R vs l)(a b:Nat):L2 R ((vs.take b).drop a) ((l.take b).drop a):=(r.take b).drop a
def sQ{n:Nat}(h:1<=B)(d:∀k,b=some k->0<=k):
  ∃lo T:Nat,Builtin.Slice.sliceAdjust (some (B:Int)) b 1 (n:Int)=((lo:Int),(T:Int))/\lo=min B n/\T=(match (generalizing:=false) b with|none=>n|some k=>min k.toNat n):=by
 refine⟨min B n,(match (generalizing:=false) b with|none=>n|some k=>min k.toNat n),?_,rfl,rfl⟩;refine acD ?_ ?_
 ·show(if (B:Int)<0 then max ((B:Int)+n) 0 else min (B:Int) n)=_
  exact aa (agP (t:=max ((B:Int)+n) 0)<|j9<|acy B) Bq
 ·obtain _|k:=b
  ·rfl
  ·show(if k<0 then max (k+n) 0 else min k n)=_
   exact aa (agP (t:=max (k+n) 0)<|j9<|d k rfl)<|NM<|d k rfl
def tq(lo T:Nat):aaT (lo:Int) (T:Int) 1=T - lo:=by
 show(if (lo:Int)<T then ((T:Int) - lo - 1) / 1+1 else 0).toNat=_;by_cases h:(lo:Int)<T
 ·rw[agO h,Int.ediv_one]
  exact LO h
 ·rw[agP h]
  exact Ls h
def EX(x:Array Value)(lo n:Nat):((Yj n).filterMap λ(k:Nat)=>x[((lo:Int)+(k:Int)*1).toNat]?)=(x.toList.drop lo).take n:=by
 have e:(λ(k:Nat)=>x[((lo:Int)+(k:Int)*1).toNat]?)=λk=>x[lo+k]?:=by
  funext k;have:((lo:Int)+(k:Int)*1).toNat=lo+k:=LF;exact aa this rfl
 refine aa e ?_;have:=pick_run x lo n;rw[List.filterMap_map] at this;exact this
def VD(p:aez v d)(h:Q d s):adA b A (aaF v) Q E s:=by
 cases p with
 |none=>exact ady h
 |int i u=>
  delta aaF;refine aa (agP X1)<|adw<|ad7 (T:="int") (afx s i u) int_index ?_;exact adw<|aej (a:=i) rfl<|ady h
def fT{j:Option Int}(p:IsTup s.heap t J.toArray)(f:s.heap.IsSliceOf I i ap .none)
  (am:aez i (some (B:Int))) (Y:aez ap j) (G:1<=B) (d:∀k,j=some k->0<=k) (r:J.length<=lim) (z:0<J.length)
  (q:U (.ref s.heap.objs.size) {s with heap:=s.heap.push {cls:=.type "tuple",data:=.seq (match (generalizing:=false) j with|none=>J.drop B|some k=>(J.take k.toNat).drop B).toArray}}):
  adA (adB Z.prog Z.w) A (adY (.ref t)<|.ref I) U E s:=aq (sQ (n:=J.length) G d) λlo T e y al=>by
 have ag:(J.drop lo).take (T - lo)=(match (generalizing:=false) j with|none=>J.drop B|some k=>(J.take k.toNat).drop B):=by
  clear Y d q e;obtain _|k:=j
  ·subst y al
   dsimp only;by_cases h:B<=J.length
   ·rw[X6 h,X7<|by simp]
   ·rw[YV<|YX h,List.drop_length,aac<|YX h];simp
  ·subst y al
   dsimp only;rw[<-acH];have o:J.take (min k.toNat J.length)=J.take k.toNat:=by
    by_cases h:k.toNat<=J.length
    ·rw[X6 h]
    ·rw[YV<|YX h,X7<|WC _,X7<|YX h]
   rw[o];by_cases h:B<=J.length
   ·rw[X6 h]
   ·exact aa (YV<|YX h) (aa (aac (by rw[YA];exact aaa (acx k)<|Ys J)) (aa (aac (by rw[YA];exact qI<|YX h)) rfl))
 refine aj (id f) λos N M b=>?_;have ac:s.TypeIs (.ref I) "slice":=⟨os,N,M⟩;have ar:sizeOk (.seq (adn (T - lo)<|J.drop lo).toArray):=by
  show(adn (T - lo)<|J.drop lo).toArray.size<=sizeLine;refine aa WN<|ba<|Wh ?_ r;refine aa YA<|aa YR ?_;exact qI<|aa9 (Ys J) lo
 rw[<-ag] at q;delta adY
 try with_reducible refine adD ?_
 first|refine adw (ady ?_)|skip
 refine adw<|agv p.typeIs rfl ?_;refine adw (ael (name:=Xw "__getitem__") p.typeIs agw
  (adL agw p.typeIs entry_tuple_getitem ?_<|args_tuple_getitem _ _))
 show adA _ _ (aaK (.ref t)>>=_) _ _ s;refine adw<|tupleItemsOf_ p<|adw<|wpAny_typeOf ac<|aa (agO rfl)<|adw (m:=Builtin.Slice.sliceApplied (.ref I)<|pure ((J.toArray.size:Nat):Int))<|adw<|adw<|adN N b (x:=i) rfl<|adw<|adN N b (x:=ap) rfl<|adw<|adN N b (x:=.none) rfl<|ady<|adw<|slicePart_none<|aa (agP<|by decide) (adw<|VD am<|adw<|VD Y<|adw<|ady<|aa WN<|aa e ?_);show adA _ _ (pure ((lo:Int),(1:Int),aaT (lo:Int) (T:Int) 1)) _ _ s;rw[tq];refine ady ?_;have l:¬((lo:Int)==0&&(1:Int)==1&&(T - lo)==J.toArray.size):=by
  have:((lo:Int)==0)=false:=by rw[agV];exact Ng G z y
  refine aa this ?_;simp
 show adA _ _ (if ((lo:Int)==0&&(1:Int)==1&&(T - lo)==J.toArray.size)=true then _ else _) _ _ s;rw[agP l,EX J.toArray lo]
 first
  |exact adw (m:=YF _) (adT (ady ⟨_,rfl,ady q⟩) ar)
  |exact adw (m:=YF _) (adT (adw<|ady<|ady ⟨_,rfl,ady q⟩) ar)
  |exact adw (adw (m:=YF _)<|adT (ady<|ady ⟨_,rfl,ady q⟩) ar)
  |exact adw (adw (m:=YF _)<|adT (ady ⟨_,rfl,ady q⟩) ar)
end
section
variable{Z:Wd}{A:adC}{E:Value->adx->Prop}{s:adx}{P:aF}{g:UT}{u v:Value}
def NL(h:Heap)(u:Value)(b:Option D×Option D):Prop:=∃a i m,u=.ref a/\h.IsSliceOf a i m .none/\ij i b.1/\ij m b.2
def AP{x:Str}:Yl none (some 7) 1 x.length=(Yj (min 7 x.length - 0)).map (λk=>0+k):=by
 have:=PySem.StrLaws.strSliceIndices_plain (Wz<|Min.min 7<|aaC x)<|aaa 7<|aaC x;rw[<-this];delta Yl;simp only[show(1:Int)>0 by decide,if_true]
 congr 1
 have h:¬((7:Int)<0):=j9<|EC (WT 0) rfl;have t:=j9<|acy<|Min.min 7<|aaC x;exact LX
def vy{x:Str}:(Yl none (some 7) 1 x.length).filterMap (x.cps[·]?)=x.cps.toList.take 7:=by
 rw[AP];have:=PySem.StrLaws.picks x.cps.toList (min 7 x.length - 0) 0<|Wh (Xf<|Yx _)<|aaa 7 x.cps.size;refine Eq.trans (agN (λf=>acG f _) (funext λi=>(XU (xs:=x.cps) (i:=i)).symm)) (this.trans ?_);by_cases h:7<=x.length
 ·rw[X6 h];rfl
 ·exact aa (YV<|YX h) (aa (X7<|by simp [aaw]) (aa (X7 (by simp [aaw] at h;simp;exact Yz h)) rfl))
def yf(e:s.heap.IsSliceOf a .none (.int 7 I) .none)(m:Z.T.my k=some c)(q:∀w b,Kp s.heap b.heap->Sm s b->DR Z.W b.heap r w (.str c)->Q w b):adA (adB Z.prog Z.w) A (adY (.str (Z.W.st k) t) (.ref a)) Q E s:=by
 have n:=Z.my k c m;refine aj e λo f G Y=>wpAny_getItem_str_slice (l:=none) (u:=some (7,I)) (st:=none) ⟨o,f,G,Y⟩ rfl ?_;delta sliceMade slicePicked;dsimp only [W4];simp only[Option.getD_none];rw[vy];refine post_val_or_str ⟨?_,λp B=>q _ {s with toks:=B} (Kp.refl _) ⟨rfl,rfl⟩ (.str ?_)⟩
 ·have:=Z.short k (.inr<|m▸rfl)
  split
  ·exact Wh this (by rw[adJ];exact Xz 1000000 15777216)
  ·show(ac0 _).size<=_
   rw[WN,YA];rw[adJ];exact cy (Zk 7<|Ys<|Array.toList<|PySem.Str.cps<|Mm.U3.st (Mm.Wd.W Z) k) rfl
 ·rw[n]
  split
  ·rename_i z
   simp only[agW,acY,agQ] at z;have J:(Z.W.st k).cps.toList.length<=7:=by
    have:=agN Ys<|vy (x:=Z.W.st k);by_cases h:(Z.W.st k).cps.toList.length<=7
    ·exact h
    ·have y:=abg (λx=>(Z.W.st k).cps[x]?) (Yl none (some 7) 1 (Z.W.st k).length)
     exfalso;have M:(Yl none (some 7) 1 (Z.W.st k).length).length=min 7 (Z.W.st k).length:=by
      rw[AP,Wm,ab8,Nat.sub_zero]
     rw[M] at z;have:(Z.W.st k).length=(Z.W.st k).cps.toList.length:=by simp [aaw]
     exact h<|Wh (Xf this.symm)<|Wh (Xf z.symm) (Zk ..)
   exact aa (X7 J) rfl
  ·rfl
def tu{lo B:Option D}(G:Gd Z s P g)(rx:DR Z.W s.heap (own P) u x)(z:NL s.heap v (lo,B))(e:fR Z.T x lo B=some y)
  (q:∀w ax,Kp s.heap ax.heap->Sm s ax->DR Z.W ax.heap (own P) w y->U w ax):adA (adB Z.prog Z.w) A (adY u v) U E s:=aY z λsa vl vu f aw pl pu=>by
 clear z;subst f;obtain _|_|_|k|_|_|l|l:=x;iterate 3 exact no e
 ·obtain _|_:=lo
  ·refine cB e λd f e=>?_;subst f
   refine cB e λj L e=>ak (fs e) λf e=>?_;subst f;refine ae (ms e) λc m al=>?_;obtain rfl:=al;obtain⟨t,rfl⟩:=rx.g6;obtain⟨t2,rfl⟩:=pu 7 L;subst pl;exact yf aw m q
  ·exact no e
 iterate 2 exact no e
 ·refine ae (bs e) λd f e=>?_;subst f
  refine cB e λi ap e=>af (pl i ap) λt am=>?_;obtain rfl:=am;refine az rx.eD λta o f ag ar ac Y=>?_;clear rx;subst f;obtain⟨n,r⟩:=ag;have J:=Y.length;have I:IsTup s.heap ta o.toArray:=⟨_,r,rfl,n,rfl⟩;have ip:1<=i->aez (.int i t) (some (i.toNat:Int)):=λh=>by exact aa (Xe<|HD h rfl)<|.int i t
  obtain _|h:=B
  ·obtain⟨p,e⟩:=fs e
   obtain rfl:=Wn e;subst pu;refine fT I aw (ip p.1) .none (GP p.1) (λ_ h=>nomatch h) ac (jq J<|ZQ p) (q _ {s with heap:=_} (Kp.push _ _) ⟨rfl,rfl⟩ (iH (cA G) ?_<|Y.drop _));exact aa YR<|Wh (aa9 _ _) ac
  ·refine cB e λj L e=>ak (fs e) λp e=>?_
   obtain rfl:=Wn e;refine af (pu j L) λt2 f=>?_;clear pu;subst f;refine fT I aw (ip p.1.1) (.int j t2) (GP p.1.1) (λk M=>Wn M▸p.1.2) ac (jq J<|ZQ p) (q _ {s with heap:=_} (Kp.push _ _) ⟨rfl,rfl⟩ (iH (cA G) ?_<|Y.cut _ _));refine aa YR<|aa YA ?_;exact Bh<|qI ac
 ·refine cB e λa ea e=>fZ e λb eb f=>?_;clear e;subst f
  refine az rx.eX λta o f r ar ac Y=>?_;clear rx;subst f;rw[<-Y.length] at ea eb;refine aq (BB pl pu ea eb) λi j N p2 e3=>wpAny_getItem_list_slice r.i aw N p2 .none (by decide) ?_ (ba ac);refine aa e3<|q _ {s with heap:=_} (Kp.push _ _) ⟨rfl,rfl⟩ (kM (cA G) ?_<|Y.cut _ _);refine aa YR<|aa YA ?_;exact Bh<|qI ac
end
section
variable{Y:Wq}{C:Cl}{d:Nat}
def ua{s:adx}{u:Value}{x y:D}{lo U:Option D}(r:DR Y.W s.heap j u x)(e:fR Y.T x lo U=some y):∃T id,s.TypeIs u T/\aeG (.type T) "__getitem__"=pure (some (.builtin id)):=by
 obtain _|_|_|_|_|_|_|_:=x;iterate 3 exact no e
 ·refine af r.g6 λt E=>?_;clear r;subst E;exact⟨"str",_,rfl,acB.lookup⟩
 iterate 2 exact no e
 ·refine aq r.eD λa v E z _=>?_;clear r;subst E;exact af z λn h=>⟨"tuple",_,⟨_,h,rfl⟩,ace.lookup⟩
 ·refine aq r.eX λa v E z _=>?_;clear r;subst E;exact af z λn h=>⟨"list",_,⟨_,h,rfl⟩,agu⟩
def KI(Y:Wq)(C:Cl)(d:Nat)(o:Option PE):Prop:=∀{x:Option adz}{k:Ks}{env:Env}{fr:List Addr}{ρ:Ev}{A:adC}{s:adx}{P:aF}{σ:UT}{Q:Option D->UT->Prop},
 cO Y.c k o x=true->bU A d->Gd Y.toWd s P σ->En Y.toWd s.heap P fr k env ρ->vO Y.T C o ρ σ Q->Gw Y.toWd A (λ_ _ u b=>ij u b) (evalPart x env) s P Q
def zD:KI Y C d none:=by
 intro x k e f L A s P t Q m R G N h;obtain _|_:=x
 ·exact Gw.pure (b:=none) G rfl h
 ·cases m
def Ap(j:dc Y C d e):KI Y C d (some e):=by
 intro x k a f L A s P t Q m R G N h;obtain _|x:=x
 ·cases m
 ·intro K E q
  refine j m R G N h K E λu v T p b g S r o=>ed o λx I o=>?_;obtain rfl:=aL I;exact q u (some x) T p b g S (λi U=>(bj U▸r.dd).cW) o
def JC{lo hi:Option PE}(he:dc Y C d e)(a0:KI Y C d lo)(a2:KI Y C d hi):dc Y C d (.sl e lo hi):=by
 intro y k f r L A s P z Q p R G N h;refine MD p λa l u ag a3 n B c=>(Gw.bind (he n R G N h).w λuo vo U P' ac G' S r1 q1=>?_).v;refine Gw.bind (R:=λh _ u b=>NL h u b) (Q:=λb z=>ok (Vf vo) λo=>ok (fR Y.T o b.1 b.2) λx=>Q (.d x) z) (Gw.holding ?_) λui bi am ar ap al j r2 q2=>?_
 ·intro K E q
  refine wpAny_Slice<|a0 B R G' (N.step S) q1 _ E λvl bl s1 P1 ax G1 S1 rl ql=>a2 c R G1 ((N.step S).step S1) ql _ E λvu bu s2 P2 aw G2 S2 ru qu=>wpAny_evalPart_none<|q _ (bl,bu) {s2 with heap:=_} P2 aw (G2.ext<|Kp.push _ _) ((S1.trans S2).trans<|Step.ext<|Kp.push _ _) ⟨_,vl,vu,rfl,Heap.IsSliceOf.new _ _ _ _,rl,ru⟩ qu
 ·refine ed q2 λx g q=>?_
  clear q1 q2;obtain rfl:=aL g;refine ed q λy i q=>?_;have rr:=(r1.step j).dd;exact cF (ua rr i) λT id hT J=>Gw.aS<|Gw.cX al q λK E hK=>wB hT J (tu al rr r2 i λw t M m I=>hK w t M m<|.d I) ⟨_,rfl⟩
def Dp(h:n<10000000000):n.log2<1920:=by
 by_cases o:n=0
 ·clear h;subst o;decide
 ·rw[adj o]
  exact Ww h<|Wh (show 10000000000<=2^34 by decide) (Nat.pow_le_pow_right (ab rfl)<|ab rfl)
def Jq(j:dc Y C d e):dc Y C d (.fs e):=by
 intro y k b o L A s P w Q n R G N h;refine K3 n λkk M l B a m=>?_;intro K E q;show adA _ _ (do
  let x<-eval (.Constant (.str ("#":Str)) kk M) b
  let some s<-asStr? x|aev "internal:joinedstr"
  if Str.empty.length+s.length>sizeLine then aev "str:memory"
  joinParts (Str.empty++s) [eval (.FormattedValue a (-1) none l) b]) _ _ _
 rw[af7];refine adw<|af8<|adw<|aej rfl ?_;dsimp only;refine aa (agP<|by decide+kernel) ?_;rw[arm_eval_FormattedValue];refine adw<|adw<|j (s:={s with toks:=s.toks+1}) m R G N h _ E λu v U p c g S r z=>ed z λi I z=>jC z λT q3=>?_;have T:=agS T;refine af (iL r I) λt f=>?_;clear r;subst f;refine adw<|adG<|adw<|adD<|ady<|wpAny_formatField_int (Dp T)<|adw<|aej rfl ?_;dsimp only;have J:(Xw<|toString i).length<=11:=by
  rw[PySem.ofString_length];exact int_text_length_le10 (X9 9) T
 have m:(Str.empty++("#":Str)).length=1:=by decide+kernel
 refine aa (agP (by rw[m,adJ];exact(Ze<|gy J rfl)))<|wpAny_mkStr ?_ ?_
 ·exact q _ (.d<|.hash i) {U with toks:=_} p c g S (.d<|.hash _ _ _) q3
 ·rw[Str.length_append,m,adJ];exact gy J rfl
end
section
variable{Y:Wq}{C:Cl}{d:Nat}
def bc{g:adz}{id:Str}(h:g=.Name id p)(x:List adz)(m:Pos)(e:Env):
  eval (.Call g x [] m) e=(do let f<-eval g e;afe m f [] (adS m (adM x e)) []):=by subst h;rfl
def mR{g:adz}{id:Str}{v:Value}{l:List PE}{x:List adz}{β:Type}{R':Heap->aF->Value->β->Prop}{Q1:List V->UT->Prop}{Q:β->UT->Prop}
  (ap:hW Y C d l) (hg:aM k g id) (U:(id,v)∈mO) (n:∀a,v≠ .ref a) (m:eQ Y.c k l x) (R:bU A d) (G:Gd Y.toWd s P t) (N:En Y.toWd s.heap P j k f aw) (h:nj Y.T C l aw t Q1)
  (q:∀w i b I z,Gd Y.toWd b I z->Step [] s.heap P b.heap I->j3 Y.W b.heap I w i->Q1 i z->Gw Y.toWd A R' (call v w) b I Q):Gw Y.toWd A R' (eval (.Call g x [] ar) f) s P Q:=aj (bY hg) λp e _ _=>by
 rw[bc e];intro K E qK;refine adw<|ic G N hg U ?_;refine aek (P:=λ_=>True) (by refine aa cY<|aa (gq m) ?_;rfl) (λh _=>?_) (cv (aa cY<|aa (gq m) rfl)<|ap m R G N h ar _ E λw i b I z y S r B=>⟨trivial,?_⟩)
 ·refine⟨.machine,.inr<|.inl rfl,Zh ?_⟩
  clear U q;cases v<;>first|rfl|exact agR rfl (n _)
 ·exact q w i b I z y S r B K E λu v ag am al ac ax r' M=>qK u v ag am al ac (S.trans ax) r' M
def Fb(h:By b):(Nx b,JB b)∈mO:=by
 have Q:b<15:=by
  obtain Q|Q:=abz b 15
  ·exact Q
  ·refine af (abp Q) λn E=>?_;clear Q;subst E
   rw[Xj] at h;exact Ws h
 have:∀b,b<15->By b->(mO.any λp=>p==(Nx b,JB b))=true:=by decide+kernel
 refine ae (WR.mp<|this b Q h) λp a e=>av (agQ.mp e) ?_;exact a
noncomputable def VQ(v:Value):Bool:=WV v.ctorIdx (Value.ref 0).ctorIdx
def Fe(a:Addr):JB b≠ .ref a:=by
 obtain h|h:=abz b 15
 ·have:∀b,b<15->VQ (JB b)=false:=by decide+kernel
  exact λe=>Ws<|(agN VQ e).symm.trans<|this b h
 ·refine af (abp h) λn E=>?_;clear h;subst E
  rw[Xj];exact λe=>Ws<|agN VQ e
def D2(I:hW Y C d e)(U:b≠5)
  (n:(By b&&aM k g (Nx b)&&eQ Y.c k e x)) (R:bU A d) (G:Gd Y.toWd s P t) (N:En Y.toWd s.heap P o k E ac) (h:nj Y.T C e ac t λi t=>LA Y.T b i t Q):Gv Y.toWd A (eval (.Call g x [] z) E) s P Q:=aC (kB n) λm u f=>(mR I u (Fb m) Fe f R G N h λj i a p y l S r q=>(Fx U l R.handled r q).w).v
def C1(he:dc Y C d e):dc Y C d (.Hv e n):=by
 intro y k f B L A s P w Q o R G N h;refine IY o λg yy t ac m x c i h5=>aj (bY m) λp e _ _=>?_;rw[bc e];have z:=XD.mp x;have M:(Xw<|eI n,Value.type<|eI n)∈mO:=by
  have:∀n,n<=4->(mO.any λp=>p==(Xw<|eI n,Value.type<|eI n))=true:=by decide+kernel
  refine ae (WR.mp<|this n z) λp a e=>av (agQ.mp e) ?_;exact a
 have ag:U0 t:=by refine aj (bY c) λp e _ _=>?_;clear c;subst e;rfl
 have al:adM [yy,t] f=[(false,eval yy f),(false,eval t f)]:=by refine aa (cV i)<|aa (cV ag) ?_;rfl
 intro K E qK;refine adw<|ic (v:=.builtin "isinstance") G N m (by decide+kernel) ?_;refine aek (P:=λ_=>True) (by refine aa cY<|aa al ?_;rfl) (λh _=>⟨.machine,.inr<|.inl rfl,Zh rfl⟩) (cv (by refine aa cY<|aa al ?_;rfl) ?_);refine aa al ?_;show adA _ _ (spliced<|(false,eval yy f)::adS ac [(false,eval t f)]) _ _ _;refine aeb<|he h5 R G N h _ E λu v T J l j S r U=>?_;show adA _ _ (spliced<|(false,eval t f)::adS ac []) _ _ _;refine aeb<|ic j (N.step S) c M ?_;show adA _ _ (spliced []) _ _ _;refine ady ⟨trivial,?_⟩;exact ed U λb I q=>zV z (br j r) I λt=>qK _ (.d<|.bool b) {T with toks:=t} J l j S (.d<|.bool b) q
def pB(h:Heap)(u:Value)(l:List D):Prop:=∃r a n,u=.ref r/\dT h r a n/\l=aU a n
def l9
  (ag:hW Y C d e) (hg:aM k g "range") (o:eQ Y.c k e x) (R:bU A d) (G:Gd Y.toWd s P t) (N:En Y.toWd s.heap P f k b al) (h:nj Y.T C e al t λv t=>ok (iA v) λl=>Q l t):
  Gw Y.toWd A (λh _ u l=>pB h u l) (eval (.Call g x [] y) b) s P Q:=mR ag hg (by decide+kernel) (by simp) o R G N h λi v U p w j S r q=>ed q λl I q=>Gw.cX j q λK E B=>tR r I λra ac a n M m z J=>B _ ac M m ⟨ra,a,n,rfl,z,J⟩
def wV(G:Gd Y.toWd s P t)(y:A.handled=none)(r:pB s.heap u l)(q:Q (.d (.tup l)) t):Gv Y.toWd A (call (.type "tuple") [u]) s P Q:=bK r λx a n e k z=>by
 clear r;subst e;subst z;have o:n<=lim:=by exact bE k λ_ _ _ _ _ _ _ h=>h
 intro K E b;refine jO y k λT p M m w=>ak (G.kp M) λg j=>?_;have v:bL Y.W T.heap (own P) p.toList (aU a n):=qB w;have:=v.length;rw[ei] at this;refine b _ (.d<|.tup<|aU a n) {T with heap:=_} P t ((g.ext<|Kp.push _ _).sm m) (j.trans<|Step.ext<|Kp.push _ _) (.d ?_) q;have:=iH (cA g) (l6 this o) v;exact this
def y3(G:Gd Y.toWd s P w)(y:A.handled=none)(r:pB s.heap u l)(q:Q (.d (.lst l)) w):Gv Y.toWd A (call (.type "list") [u]) s P Q:=bK r λz a n f p J=>by
 clear r;subst f;subst J;refine bE p λb t u v ac ag al m=>?_;intro K E N;refine call_list_range y ac al ag (by unfold lim at m;exact cy m rfl) λI T o L M U x=>ak (G.kp M) λg k=>?_;have am:aeg (λi v=>∃t,v=.int (a+i) t) o n:=⟨x.1,λj v c=>by exact af (x.2 j v c) λt e=>⟨t,by rw[e,aaP]⟩⟩;have B:bL Y.W I (own P) o.toList (aU a n):=qB am;have h:=B.length;rw[ei] at h;refine N _ (.d<|.lst<|aU a n) {s with heap:=_,toks:=_} P w g k (.d<|.lst ⟨L,U⟩ (cA G) (l6 h m) B) q
def EA(aw:hW Y C d n):dc Y C d (.kW b n):=by
 intro y k x z L A s P t Q o R G N h;refine Je o λg M ys a0 ag m w f=>?_;have ax:∀{id:Str}{v:Value}{Qr:List D->UT->Prop},aM k g id->(id,v)∈mO->(∀a,v≠ .ref a)->nj Y.T C n L t (λi t=>ok (iA i) λl=>Qr l t)->
   (∀{s:adx}{P:aF}{t:UT}{u:Value}{l:List D},Gd Y.toWd s P t->pB s.heap u l->Qr l t->Gv Y.toWd A (call v [u]) s P Q)->Gv Y.toWd A (eval (.Call g [.Call M ys [] a0] [] ag) x) s P Q:=by
  intro id v Qr hg U B hq a2;refine aj (bY hg) λp e _ _=>?_;rw[bc e];intro K E qK;refine adw<|ic G N hg U ?_;refine aek (P:=λ_=>True) (by rfl) (λh _=>⟨.machine,.inr<|.inl rfl,Zh (by clear U a2;cases v<;>first|rfl|exact agR rfl (B _))⟩) (cv (by rfl) ?_);show adA _ _ (spliced<|(false,eval (.Call M ys [] a0) x)::[]) _ _ _;refine aeb<|l9 aw w f R G N hq _ E λu l c I ac J S r q=>ady ⟨trivial,?_⟩;exact a2 J r q K E λu v am ar ap al j r' q2=>qK u v am ar ap al (S.trans j) r' q2
 clear o;obtain⟨rfl,m⟩|⟨rfl,m⟩:=m
 ·exact ax m (by decide+kernel) (by simp) h λG r q=>wV G R.handled r q
 ·exact ax m (by decide+kernel) (by simp) h λG r q=>y3 G R.handled r q
def vh(R:jd A d)(G:Gd Y.toWd s P t)(r:j3 Y.W s.heap P u g)(h:TF Y d f g t Q):
  Gv Y.toWd A (call (.ref (Y.fa f)) u) s P Q:=
 λK E c=>afg<|h A s P u _ R G r λv x T p a b S w q=>c v x T p a b S w q
def yU(ac:hW Y (TF Y d) d i):dc Y (TF Y d) d (.call f i):=by
 intro y k b o L A s P t Q n R G N h;refine DB n λg x w z m u=>aj (bY m) λp e a j=>ak (Y.gf f z) λB M=>?_;rw[bc e];intro K E J;exact adw<|aa e<|jR G N a j B<|gU (first:=[]) (Q1:=λv t=>TF Y d f v t Q) (aa cY<|aa (gq u) rfl) (.inl M) (ac u R G N h w) (λU v T I l c S r q=>vh R.call c r q) K E J
def C2(al:hW Y (TF Y d) d n):dc Y (TF Y d) d (.new c n):=by
 intro y k I J L A s P w Q B R G N h;refine Im B λg i ag m z=>aj (bY m) λp e b h4=>ed h λf U h=>ak (Y.gc c f U) λhg M=>?_;rw[bc e];intro K E qK;refine adw<|aa e<|jR G N b h4 hg<|gU (aa cY<|aa (gq z) rfl) (.inl M) (al z R G N h ag) (λus j T P' ac G' S r q=>?_) K E qK;intro K E qK;refine afg ?_;clear S;obtain⟨hh,g,dd,t,os⟩:=T;have X:=G'.X;refine dQ (gT (Y:=Y.toWk) c) λ_ _ _ _ _ c6=>ak (Y.mth c 0 f U) λm1 m2=>?_;rw[Y.ini c f U] at m1;refine make_core (makes_of X c6) (looks_findIn X m1) (λam=>bind_fn X am m2) (.inl rfl) ?_;have kp:Kp hh ((hh.push emptyDict).push<|YY (Y.W.cl c) hh.objs.size):=(Kp.push _ _).trans<|Kp.push _ _;have hd:((hh.push emptyDict).push<|YY (Y.W.cl c) hh.objs.size).get? hh.objs.size=some emptyDict:=Wx _<|WA _ rfl;have l:((hh.push emptyDict).push<|YY (Y.W.cl c) hh.objs.size).get? (hh.objs.size+1)=some (YY (Y.W.cl c) hh.objs.size):=by heap_get
 have n1:hh.get? (hh.objs.size+1)=none:=by
  rcases e:hh.get? (hh.objs.size+1) with _|o
  ·rfl
  ·exact agR (WU e) (Zu.mpr<|W9 _)
 refine aC (G'.new (p:=⟨hh.objs.size+1,hh.objs.size⟩) (o:=.inst c []) (h':=(hh.push emptyDict).push<|YY (Y.W.cl c) hh.objs.size) kp n1 (bX hh) λS=>
  ⟨l,λ_=>none,Heap.Ns1.of_empty ⟨emptyDict,#[],0,hd,rfl,λ_ he=>by simp at he,λ_=>rfl⟩,λx v e=>no e,λy u e=>by simp at e⟩) λG2 S2 a=>q _ ⟨_,g,dd,t,os⟩ _ _ _ ?_ G2 (.cons (.loc a)<|r.step S2) λv x s3 P3 ap G3 S3 r3 q3=>?_
 ·refine⟨R.handled,?_,?_⟩
  ·exact NO R.depth rfl
  ·exact NO R.units rfl
 ·refine jC q3 λe3 q3=>?_
  cases (pj e3);obtain rfl:=r3.dd.pD;exact(⟨rfl,qK _ (.loc ac.length) s3 P3 ap G3 (S2.trans S3) ((VR.loc a).step S3) q3⟩)
def Mx(h:zN t m):W2 7 m=false:=by
 have:m<=6:=match t,h with
  |1,h=>Wh (Wi h)<|ab rfl
  |3,h=>Wi (an h).2
 rcases p:W2 7 m with _|_
 ·rfl
 ·exact agR (Wi p) (Z9<|yY this rfl)
def Ja(he:dc Y (TF Y d) d e)(a5:hW Y (TF Y d) d bi):dc Y (TF Y d) d (.me e m bi):=by
 intro y k J fr L A s P t Q I R G N h;refine KC I λa ap g ag z b h4 h5 h6=>?_;generalize o:KX Y.c m=nm;have a4:(adS ag<|adM g J).any (·.1)=false:=by rw[cY,gq h4]
 have a8:afN (g.length+0) (adS ag<|adM g J) (afh ag<|afi [] J):=by
  unfold afN;have e1:(adS ag<|adM g J).all (λx=> !x.1)=true:=by
   rw[ZY] at a4;rw[Wt];intro x l;simpa using a4 x l
  rw[e1];have:g.length<30:=by simpa [Nat.blt_eq] using h6
  have M:(afh ag<|afi [] J)=[]:=rfl;rw[M];simp;exact this
 rw[agx,js z];refine(Gw.bind (he b R G N h).w λu v T P' ac G' S r q=>?_).v;refine Gw.aS ?_;show Gw _ _ _ (afj a nm ap ag J u (g.length+0) (adS ag<|adM g J)<|afh ag<|afi [] J) _ _ _;unfold afj;rw[a8];have ar:∀{f:Value}{first:List Value},Gv Y.toWd A (afe ag f first (adS ag<|adM g J) []) T P' Q->
   Gw Y.toWd A (RV Y.toWd) (aeU true a J ap ag>>=λa9=>afe a9 f first (adS ag<|adM g J)<|afh ag<|afi [] J) T P' Q:=by
  intro f first hq;have:aeU true a J ap ag=pure ag:=by
   unfold aeU;rw[h5];simp
  rw[this];exact λK E qK=>adw<|ady<|hq K E qK
 rcases a0:nu ac v with _|c
 ·unfold Kn.m1 at q
  rw[a0] at q;refine jC q λU q=>af (Hs U) λid cH=>?_;have be:=Mx U;have a7:nm=Bx m:=by rw[<-o];unfold KX;exact aa be rfl
  clear o;subst a7;intro K E qK;refine adw<|adD<|z6 G' r rfl cH<|ar (gU a4 (.inr<|by simp) (a5 h4 R G' (N.step S) q ag) λus i ax a3 a2 aw j r' q'=>?_) K E qK;exact DX aw (r.step j) r' cH q'
 ·unfold Kn.m1 at q
  rw[a0] at q;refine jC q λU q=>ed q λf hf q=>fZ a0 λam a6 z=>?_;obtain⟨c',fs⟩:=am;cases (show c'=c from z);refine ae (o7 a6) λn p al=>?_;clear a0 a6;subst p;have a7:nm=Y.N.an m:=by rw[<-o];unfold KX;rw[U,Y.Rz]
  clear o;subst a7;intro K E qK;refine adw<|adD<|sy G' r al hf<|ar (gU a4 (.inl<|Y.kf c m f hf) (a5 h4 R G' (N.step S) q ag) λus i ax a3 a2 aw j r' q'=>?_) K E qK;exact vh R.call aw (.cons (r.step j) r') q'
end
section
variable{W:U3}{a h c:Heap}{P d:aF}{e f:List Addr}{g:List (Str×NameKind)}{b:Env}{i:Ev}
end
section
variable{c:Program}{w:World}{A:adC}{E:Value->adx->Prop}{s:adx}
def wF{P:Nat->Value->Prop}{St:Nat->Heap->Prop}(W:aeS c w A I f p n P St):∀(k i:Nat)(s:adx)(Q:List Value->adx->Prop),i+k<=n->St i s.heap->
  (∀g T,g.length=k->(∀y v,g[y]?=some v->P (i+y) v)->St (i+k) T.heap->(∀b o,b∉p->s.heap.get? b=some o->T.heap.get? b=some o)->Sm s T->Q g T)->adA (adB c w) A (draw (.ref I) k) Q E s:=by
 intro z
 induction z with
 |zero=>
  intro i s Q _ st q;exact ady<|q [] s rfl (λ_ _ e=>nomatch e) st (λ_ _ _ e=>e) ⟨rfl,rfl⟩
 |succ k l=>
  intro i s Q U st q;refine adw<|W.item i s _ _ (fg U) st λv G t Y a M=>adw<|adD<|l (i+1) _ _ (mz U) a λg T J L x r m=>ady ?_;refine q (v::g) T (by simp [J]) (λy u d=>?_) (by exact aa (Y0 i k 1) x) (λb o h e=>r b o h<|M b o h e) m;obtain _|y:=y
  ·simp at d;subst d;exact Y
  ·exact aa (Y0 i y 1)<|L y u d
def fS(y:A.handled=none)(x:aJ s.heap k a v)
  (q:∀Y,Kp s.heap Y.heap->Sm s Y->Q v Y):adA (adB c w) A (unpackItems (.ref a) v.length none) Q E s:=by
 have m:∃T id,s.TypeIs (.ref a) T/\aeG (.type T) "__iter__"=pure (some<|.builtin id):=by
  obtain⟨_,h⟩|⟨_,h⟩:=x
  ·exact⟨"tuple",_,h.typeIs,F.slot_tuple_iter.lookup⟩
  ·exact⟨"list",_,h.typeIs,slot_list_iter.lookup⟩
 refine cF m λT id L J=>adw<|adw<|ad7 L J<|ady ?_;refine adw<|adD<|fX y x λg I i St W st _ M z ag=>adw<|adD<|wF W v.length 0 g _ Nb st λd l B N n r al=>?_;have ac:d=v:=by
  apply ab9;intro j;rcases f:d[j]? with _|u
  ·exact(XW (by rw[YE] at f;exact rA B f)).symm
  ·have:=N j u f
   rw[Yx] at this;exact this.symm
 clear x B N;subst ac;refine aa (agP<|by simp) (adw<|adD<|W.done l _ _ (by simpa using n) λG t p=>?_);refine ady<|q _ (λb o e=>?_) ((Sm.of ag).trans al:);have U:b∉[I]:=λU=>by
  rw[Wj] at U;clear r W p;subst U;rw[z] at e;cases e
 exact p b o U<|r b o U<|M b o e
end
section
variable{Y:Wq}{k:Ks}{b:List Addr}{f:UT}{env:Env}
def oK(h:U0 x):aeA (x::g) env=(false,assign x env)::aeA g env:=by
 cases x<;>first|rfl|cases h
def kA(env:Env)(xs:List adz):Prop:=(aeA xs env).findIdx? (·.1)=none/\(aeA xs env).length=xs.length/\(aeA xs env).map (·.2)=xs.map λx=>assign x env
def kA.nil:kA env []:=⟨rfl,rfl,rfl⟩
def kA.cons(h:U0 x)(k:kA env g):kA env (x::g):=by
 delta kA;refine aa (oK h)<|aa List.findIdx?_cons<|aa k.1<|aa WZ<|aa WZ<|aa k.2.1<|aa X3<|aa X3<|aa k.2.2 ?_;exact⟨rfl,rfl,rfl⟩
def sX:∀{T:List PT}{g:List adz},FT c k T g->kA env g/\T.length=g.length:=by
 intro T
 induction T with
 |nil=>exact λh=>vW h▸⟨.nil,rfl⟩
 |cons t T i=>
  intro _ h;refine aq (Q5 h) λx g e m u=>?_;clear h;subst e;exact⟨.cons (v8 m) (i u).1,agN Y6 (i u).2⟩
def te:∀{T:List PT}{l:List D}{a c:Ev},e9 a T l=some c->T.length=l.length:=by
 intro T
 induction T with
 |nil=>
  intro l _ _ h;cases l with
  |nil=>rfl
  |cons=>exact no h
 |cons t T i=>
  intro l a c h;cases l with
  |nil=>exact no h
  |cons d l=>
   have h:(match dM a t d with|some c=>e9 c T l|none=>none)=some c:=h;revert h;obtain _|m:=dM a t d
   ·exact λh=>no h
   ·exact λh=>agN Y6<|i h
def Bz(Y:Wq)(k:Ks)(b:List Addr)(f:UT)(env:Env)(t:PT):Prop:=∀{I:adz}{A:adC}{E:Value->adx->Prop}{s:adx}{P:aF}{ρ h:Ev}{v:Value}{x:D}{K:Unit->adx->Prop},A.handled=none->cT Y.c k t I=true->Gd Y.toWd s P f->En Y.toWd s.heap P b k env ρ->
  DR Y.W s.heap (own P) v x->dM ρ t x=some h->(∀T,Gd Y.toWd T P f->Step b s.heap P T.heap P->En Y.toWd T.heap P b k env h->K () T)->adA (adB Y.prog Y.w) A (assign I env v) K E s
def rJ(Y:Wq)(k:Ks)(b:List Addr)(f:UT)(env:Env)(ts:List PT):Prop:=∀{xs:List adz}{A:adC}{E:Value->adx->Prop}{s:adx}{P:aF}{ρ h:Ev}{vs:List Value}{l:List D}{K:Unit->adx->Prop},A.handled=none->FT Y.c k ts xs=true->Gd Y.toWd s P f->En Y.toWd s.heap P b k env ρ->
  bL Y.W s.heap (own P) vs l->e9 ρ ts l=some h->(∀T,Gd Y.toWd T P f->Step b s.heap P T.heap P->En Y.toWd T.heap P b k env h->K () T)->adA (adB Y.prog Y.w) A (assignInOrder (xs.map λx=>assign x env) vs) K E s
def Nh(i:Nat):Bz Y k b f env (.n i):=by
 intro t A E s P L l v x K y m G N r e q;refine xb m λp h=>?_;rw[afO];cases e;refine adw<|adG<|adw<|adD<|aem ?_;rw[<-Y.tT] at h ⊢;exact adw<|eF G N h (.d r) λT g j a=>aem<|q T g j a
def Lg(U:List PT)(I:rJ Y k b f env U):Bz Y k b f env (.t U):=by
 intro ar A E s P L ag v x K z u G N r e q;refine zq u λg kk B u=>?_;rw[agy];refine ak (sX (env:=env) u) λac e3=>?_;obtain⟨J,y,e4⟩:=ac;have al:∀{kd:Nat}{a:Addr}{j:List Value}{l:List D},aJ s.heap kd a j->bL Y.W s.heap (own P) j l->e9 L U l=some ag->adA (adB Y.prog Y.w) A (unpack (.ref a)<|aeA g env) K E s:=by
  intro kd a j l o rl Q;delta unpack;exact aa J<|aa y<|av e3<|aa (te Q)<|av rl.length<|adw<|adD<|fS z o λT M m=>aa e4<|ak (G.kp M) λc n=>I z u (c.sm m) (N.step n) (rl.step n) Q λap am aw ax=>q ap am ((n.nil b).trans aw) ax
 refine adw<|adG ?_;obtain _|_|_|_|_|_|l|l:=x;iterate 6 cases e
 ·refine az r.eD λa j p h _ _ d=>?_;clear r;subst p;exact al (.inl ⟨rfl,h.i⟩) d e
 ·refine az r.eX λa j p h _ _ d=>?_;clear r;subst p;exact al (.inr ⟨rfl,h.i⟩) d e
def FW:rJ Y k b f env []:=by
 intro x A E s P L i v l K y h G N r e q;obtain rfl:=vW h;obtain _|_:=l
 ·obtain rfl:=Wn e
  obtain rfl:=r.dZ;exact ady<|q s G (Step.refl ..) N
 ·exact no e
def zE(t:PT)(M:List PT)(I:Bz Y k b f env t)(J:rJ Y k b f env M):rJ Y k b f env (t::M):=by
 intro g A E s P L o i l K y n G N r e q;refine aq (Q5 n) λx g m h u=>?_;clear n;subst m;obtain _|⟨d,l⟩:=l
 ·exact no e
 ·refine aq r.bZ λv i m U a=>?_;clear r;subst m
  have e:(match dM L t d with|some o=>e9 o M l|none=>none)=some o:=e;rcases Q:dM L t d with _|ac
  ·rw[Q] at e;exact no e
  ·rw[Q] at e
   exact adw<|adD<|I y h G N U Q λT c j w=>J y u c w (bL.step a j) e λB p z ag=>q B p (j.trans z) ag
def gF(t:PT):Bz Y k b f env t:=@PT.rec (Bz Y k b f env) (rJ Y k b f env) Nh Lg FW zE t
end
def Xo(w:List Addr)(P:aF)(h h':Heap):Prop:=∀b o,b∉w->b∉j5 P->h.get? b=some o->h'.get? b=some o
def Vi(Z:Wd)(w:List Addr)(h:Heap)(P:aF):Prop:=∀b∈w,b∉own P/\Z.h₀.get? b=none/\∃o xs,h.get? b=some o/\o.data=.fields xs
def Xp(w:List Addr)(h h':Heap):Prop:=∀b o,b∉w->h.get? b=some o->h'.get? b=some o
def Xp.xo(x:Xp w h G):Xo w P h G:=λb o hb _ e=>x b o hb e
def Xp.jf(x:aaj I h G)(hI:I∈w):Xp w h G:=λb o hb e=>x b o (λq=>hb<|q▸hI) e
section
variable{Z:Wd}{f l:List Addr}{h i B:Heap}{P w j:aF}{g:Heap}{t:UT}{z:List (Str×NameKind)}{k:Env}{A:Ev}
def Xo.stays(x:Xo f P h i)(o:Vi Z f h P):bq h (own P) i (own P):=λa I G p ⟨m,n,r⟩=>⟨x a I (λq=>by
 refine dS (o a q) λ_ _ E y e1 e2=>?_;rw[p] at e1;cases e1;rw[r] at e2;cases e2) (λq=>G<|bB q) p,G⟩
def Xo.dr(x:Xo f P h i)(o:Vi Z f h P)(r:DR Z.W h (own P) v d):DR Z.W i (own P) v d:=r.stays<|x.stays o
def Xo.step(x:Xo f P h i)(o:Vi Z f h P)(G:Gt Z i u T P t)(S:Step l g j h P)(L:∀b∈f,g.get? b=none):Step l g j i P:=by
 have UU:∀b J,b∉j5 j->g.get? b=some J->b∉j5 P:=λb J hb e q=>by
  obtain q|q:=S.gX b q
  ·exact hb q
  ·rw[e] at q;cases q
 have off:∀b J,g.get? b=some J->b∉f:=λb J e q=>by rw[L b q] at e;cases e
 refine⟨S.pre,λb J h1 h2 e=>x b J (off b J e) (UU b J h1 e)<|S.dH b J h1 h2 e,λb J e=>?_,S.gX,λa J I e p=>?_⟩
 ·refine af (S.live b J e) λy E=>?_
  by_cases hb:b∈j5 P
  ·exact G.live (bB hb)
  ·exact⟨y,x b y (off b J e) hb E⟩
 ·exact ak (S.stays a J I e p) λh1 h2=>⟨x a J (off a J e) (λq=>h2<|bB q) h1,h2⟩
def Xo.en(x:Xo f P h i)(o:Vi Z f h P)(M:∀b∈f,b∉l)(N:En Z h P l z k A):En Z i P l z k A:=by
 have S:=x.stays o;have cell:∀s c v,k.cells.lookup s=some c->h.IsCell c v->i.IsCell c v:=λs c v G ⟨L,I,a⟩=>
  ⟨L,x c L (λq=>by
   refine dS (o c q) λ_ _ o' p e1 e2=>?_;rw[I] at e1;cases e1;rw[a] at e2;cases e2) (λq=>(N.de s c G).2<|bB q) I,a⟩
 have vr:∀{u v},VR Z.W h P u v->VR Z.W i P u v:=λr=>by
  obtain r|e:=r
  ·exact .d (r.stays S)
  ·exact .loc e
 refine⟨N.kind,N.globals,N.builtins,N.loc,N.CX,N.xN,N.F8,?_,?_,?_,N.apart,N.eH,?_⟩
 ·refine ae N.ns λm Q E=>⟨m,Q.at' λL e=>x _ L (λq=>M _ q N.eH) (λq=>(N.eC _ N.eH).1<|bB q) e,λy v h1 h2=>?_⟩
  exact ae (E y v h1 h2) λu Y J=>⟨u,Y,vr J⟩
 ·intro y v h1 h2
  exact aq (N.cells y v h1 h2) λc u Y J T=>⟨c,u,Y,cell _ _ _ Y J,vr T⟩
 ·intro s c G
  refine ak (N.de s c G) λU h2=>?_;obtain⟨v,h1⟩:=U;exact⟨⟨v,cell s c v G h1⟩,h2⟩
 ·intro b hb
  refine aV (N.eC b hb) λY J U h6=>af U λL T=>?_;have e:=x b L (λq=>M b q hb) (λq=>Y<|bB q) T;refine⟨Y,J,⟨L,e⟩,λo' p n e'=>?_⟩;rw[e] at e';cases e';exact h6 L p n T
def Xp.good(x:Xp f h i)(o:Vi Z f h P)(G:Gt Z h u T P t):Gt Z i u T P t:=by
 have N:∀b I,Z.h₀.get? b=some I->b∉f:=λb I e q=>by rw[(o b q).2.1] at e;cases e
 refine⟨λb I e=>x b I (N b I e)<|G.base b I e,G.len,λn p I Y m=>?_,G.apart,G.off,λb hb=>⟨(G.gY b hb).1,af ((G.gY b hb).2) λy e=>⟨y,x b y (λq=>(o b q).1<|aD.mpr<|.inr hb) e⟩⟩,G.os,G.gs⟩;have r:=G.obj n p I Y m;refine cM r.live λJ o2 l2=>af J λo1 l1=>?_;have a1:p.a∉f:=λq=>(o _ q).1<|g9 Y;have c:p.d∉f:=λq=>(o _ q).1<|nO Y;exact r.stays (by exact aa l1<|x _ _ a1 l1) (by exact aa l2<|x _ _ c l2) (x.xo.stays o) (λn p e=>e)
def Vi.move(o:Vi Z f h P)(M:∀b∈f,∀o,h.get? b=some o->i.get? b=some o)(m:∀b∈f,b∉own w):Vi Z f i w:=λb hb=>by
 exact dS (o b hb) λh1 h2 I x Y d=>⟨m b hb,h2,I,x,M b hb I Y,d⟩
end
noncomputable def VP(x:adz):Bool:=WV x.ctorIdx 25
def uP(h:VP x):∃t k p,x=.Tuple t k p:=Expr.Tuple.elim (motive_1:=λx=>∃t k p,x=.Tuple t k p) x (WY h) λ_ _ _=>⟨_,_,_,rfl⟩
structure CZ (Z:Wd) (A:adC) (I:Addr) (l:List D) (src:Sr) (wr:List Addr) (tb:Bool) (At:Nat->Heap->aF->Prop) (Mid:Nat->Value->Heap->aF->Prop):Prop where
 move:∀{i h P h' P'},At i h P->bq h (own P) h' (own P')->(∀(n:Nat)(p:Pl),P[n]?=some p->P'[n]?=some p)->(∀b∈wr,∀o,h.get? b=some o->h'.get? b=some o)->(∀b∈wr,b∉own P')->At i h' P'
 off:∀{i h P},At i h P->Vi Z wr h P
 tm:∀{i v h P},Mid i v h P->Vi Z wr h P
 next:∀{i s P σ x},At i s.heap P->Gd Z s P σ->dx src l σ->l[i]?=some x->∀(K:Option Value->adx->Prop)(E:Value->adx->Prop),
  (∀v s',Gd Z s' P σ->Xo wr P s.heap s'.heap->DR Z.W s'.heap (own P) v x->Mid i v s'.heap P->K (some v) s')->adA (adB Z.prog Z.w) A (aeV (.ref I)) K E s
 go:∀{i v s P σ target},Mid i v s.heap P->Gd Z s P σ->(tb=true->VP target)->∀(K:Unit->adx->Prop)(E:Value->adx->Prop),
  (∀s',Gd Z s' P σ->Xo wr P s.heap s'.heap->At (i+1) s'.heap P->K () s')->adA (adB Z.prog Z.w) A (afP target (.ref I) v) K E s
 done:∀{s P σ},At l.length s.heap P->Gd Z s P σ->dx src l σ->∀(K:Option Value->adx->Prop)(E:Value->adx->Prop),
  (∀s',Gd Z s' P σ->Xo wr P s.heap s'.heap->K none s')->adA (adB Z.prog Z.w) A (aeV (.ref I)) K E s
 self:∀{i s P},At i s.heap P->∀(K:Value->adx->Prop)(E:Value->adx->Prop),K (.ref I) s->adA (adB Z.prog Z.w) A (adK (.ref I)) K E s
def CZ.step(W:CZ Z A I l s w t a c)
  (x:a i h P) (S:Step f h P G p) (L:∀b∈w,b∉f):a i G p:=by
 have o:=W.off x;refine W.move x S.stays (λ_ _ e=>S.place e) (λb hb J e=>S.keep b J (o b hb).1 (L b hb) e) λb hb q=>dS (o b hb) λh1 _ J _ Y _=>?_;obtain q|q:=S.new b q
 ·exact h1 q
 ·rw[Y] at q;cases q
noncomputable def tN:List String:=["enumerate","zip","dict_itemiterator","dict_reverseitemiterator","odict_iterator","itertools.zip_longest","itertools.pairwise"]
def lN(f:s.heap.get? I=some o)(h:o.cls=.type n)(Y:o.data=.fields g)(m:tN.contains n=false)
  (t:adz) (v:Value) (K:Unit->adx->Prop) (E:Value->adx->Prop) (q:K () s):adA (adB p w) A (afP t (.ref I) v) K E s:=by
 have k:∀a,adA (adB p w) A (do
   let o<-load I
   match o.cls,o.data with
   |.type n,.fields g=>
    if tN.contains n&&g[0]?==some (adI a) then
     rule "for.unpacks-the-owned-tuple"
     updateField I 0 .none
   |_,_=>pure ()) K E s:=by
  intro a;refine adw<|wpAny_load f<|aa h<|aa Y ?_;dsimp only;exact aa m<|ady q
 cases t<;>first|exact ady q|(cases v<;>first|exact ady q|exact k _)
section
variable{Z:Wd}{A:adC}{s:adx}{P:aF}{c:UT}
noncomputable def sq(kd:Nat)(l:List D):D:=match kd with|0=> .tup l|_=> .lst l
def cz(kd:Nat)(h:Heap)(I a:Addr)(i:Nat):Prop:=match kd with|0=>h.IsTupleIter I a i|_=>h.IsListIter I a i
def cz.qc{i:Nat}(x:cz B h I a i):∃o n f,h.get? I=some o/\o.cls=.type n/\o.data=.fields f/\tN.contains n=false:=by
 obtain _|_:=B;iterate 2 (obtain⟨o,h1,h2,Y⟩:=x;exact⟨o,_,_,h1,h2,Y,by decide⟩)
def cz.at{i:Nat}(x:cz B h I a i)(k:∀o,h.get? I=some o->G.get? I=some o):cz B G I a i:=by
 obtain _|_:=B;iterate 2 (obtain⟨o,h1,h2⟩:=x;exact⟨o,k o h1,h2⟩)
def cz.next{i:Nat}(d:B<=1)(x:cz B s.heap I a i)(e:aJ s.heap B a vs)(Y:vs[i]?=some v){K:Option Value->adx->Prop}
  (q:∀G,cz B G I a (i+1)->Yw I s.heap G->K (some v) {s with heap:=G}):adA (adB Z.prog Z.w) A (aeV<|.ref I) K U s:=by
 clear d;obtain⟨rfl,h⟩|⟨rfl,h⟩:=e
 ·exact wpAny_pyNext_tuple_item x h (by simpa using Y) λG h1 h2=>q G h1 h2
 ·exact wpAny_pyNext_list_item x h (by simpa using Y) λG h1 h2=>q G h1 h2
def cz.done{i:Nat}(y:A.handled=none)(x:cz B s.heap I a i)(e:aJ s.heap B a vs)(Y:vs[i]?=none){K:Option Value->adx->Prop}
  (q:∀G,aaj I s.heap G->K none {s with heap:=G}):adA (adB Z.prog Z.w) A (aeV<|.ref I) K U s:=by
 obtain⟨rfl,h⟩|⟨rfl,h⟩:=e
 ·exact wpAny_pyNext_tuple_end y x h (by simpa using Y) q
 ·exact wpAny_pyNext_list_end y x h (by simpa using Y) q
def cz.self{i:Nat}(x:cz B s.heap I a i){E:Value->adx->Prop}(q:U (.ref I) s):adA (adB Z.prog Z.w) A (adK (.ref I)) U E s:=by
 obtain _|_:=B
 ·exact wpAny_pyIter_tupleiter x q
 ·exact wpAny_pyIter_listiter x q
def e8(f:B<=1)(r:DR Z.W h o (.ref a) (sq B l)):∃v,aJ h B a v/\v.length<=lim/\bL Z.W h o v l/\a∉o:=by
 obtain rfl|rfl:=ud<|XA f
 ·refine az (DR.eD r) λb v e m t Y d=>?_
  cases Value.ref.inj e;exact⟨_,.inl ⟨rfl,m.i⟩,Y,d,t⟩
 ·refine az (DR.eX r) λb v e m t Y d=>?_
  cases Value.ref.inj e;exact⟨_,.inr ⟨rfl,m.i⟩,Y,d,t⟩
def Vi.same{a:Nat}{i:Nat}(o:Vi Z [I] h P)(x:cz B G I a i):Vi Z [I] G P:=λb hb=>by
 rw[Wj] at hb;subst hb;exact aC (o b Wr) λh1 h2 _=>aY x.qc λJ _ f e1 _ e3 _=>⟨h1,h2,J,f,e1,e3⟩
def CS(kd:Nat)(hkd:kd<=1)(hh:A.handled=none)(I a:Addr)(l:List D):
  CZ Z A I l .no [I] false (λi h P=>cz kd h I a i/\DR Z.W h (own P) (.ref a) (sq kd l)/\Vi Z [I] h P) (λi _ h P=>cz kd h I a (i+1)/\DR Z.W h (own P) (.ref a) (sq kd l)/\Vi Z [I] h P) where
 move:=λzz S hp hk hn=>aC zz λh1 h2 h3=>⟨h1.at (hk I<|by simp),h2.stays S,h3.move hk hn⟩
 off:=λx=>x.2.2
 tm:=λx=>x.2.2
 next:=λ{i s P c x} zz G _ hx K E q=>aC zz λh1 h2 h3=>by
  refine aK (e8 hkd h2) λvs hs hl hd _=>ae (hd.get hx) λv hv rv=>h1.next hkd hs hv λh' h1' hsb=>?_
  have xp:Xp [I] s.heap h':=Xp.jf hsb.extBut Wr;exact q v {s with heap:=h'} (xp.good h3 G) xp.xo (xp.xo.dr h3 rv) ⟨h1',xp.xo.dr h3 h2,h3.same h1'⟩
 go:=λ{i v s P c target} zz G _ K E q=>aC zz λh1 h2 h3=>by
  exact aY h1.qc λo n xs e1 e2 e3 e4=>lN e1 e2 e3 e4 target v K E (q s G (λ_ _ _ _ e=>e) ⟨h1,h2,h3⟩)
 done:=λ{s P c} zz G _ K E q=>aC zz λh1 h2 h3=>by
  refine aK (e8 hkd h2) λvs hs hl hd _=>h1.done hh hs (XW (by exact aa hd.length<|WC _)) λh' hx=>?_;have xp:Xp [I] s.heap h':=Xp.jf hx Wr;exact q {s with heap:=h'} (xp.good h3 G) xp.xo
 self:=λzz K E q=>aC zz λh1 _ _=>h1.self q
def wK(hh:A.handled=none)(I:Addr)(n:Nat)(p:Pl)(l:List D):
  CZ Z A I l (.ls n) [I] false (λi h P=>cz 1 h I p.a i/\P[n]?=some p/\Vi Z [I] h P) (λi _ h P=>cz 1 h I p.a (i+1)/\P[n]?=some p/\Vi Z [I] h P) where
 move:=λzz S hp hk hn=>aC zz λh1 h2 h3=>⟨h1.at (hk I Wr),hp _ _ h2,h3.move hk hn⟩
 off:=λx=>x.2.2
 tm:=λx=>x.2.2
 next:=λ{i s P c x} zz G st hx K E q=>aC zz λh1 h2 h3=>by
  refine aj (jr G st h2) λvs z₁ hl hd=>af z₁ λm ho=>ae (hd.get hx) λv hv rv=>h1.next (ab rfl) (.inr ⟨rfl,_,ho,rfl,m,rfl⟩) hv λh' h1' hsb=>?_
  have xp:Xp [I] s.heap h':=Xp.jf hsb.extBut Wr;exact q v {s with heap:=h'} (xp.good h3 G) xp.xo (xp.xo.dr h3 rv) ⟨h1',h2,h3.same h1'⟩
 go:=λ{i v s P c target} zz G _ K E q=>aC zz λh1 h2 h3=>by
  exact aY h1.qc λo n xs e1 e2 e3 e4=>lN e1 e2 e3 e4 target v K E (q s G (λ_ _ _ _ e=>e) ⟨h1,h2,h3⟩)
 done:=λ{s P c} zz G st K E q=>aC zz λh1 h2 h3=>by
  refine aj (jr G st h2) λvs z₁ hl hd=>af z₁ λm ho=>h1.done hh (.inr ⟨rfl,_,ho,rfl,m,rfl⟩) (XW<|Xf hd.length) λh' hx=>?_;have xp:Xp [I] s.heap h':=Xp.jf hx Wr;exact q {s with heap:=h'} (xp.good h3 G) xp.xo
 self:=λzz K E q=>aC zz λh1 _ _=>h1.self q
def jv:∀(n i:Nat)(a:Int),i<n->(aU a n)[i]?=some (.int (a+i))
 |n+1,0,a,_=>agN (λx=>some (D.int x)) (XI a).symm
 |n+1,i+1,a,h=>(jv n i (a+1) (abA h)).trans (by rw[Xc,XJ 1];rfl)
def yk(hh:A.handled=none)(I:Addr)(a:Int)(n:Nat):
  CZ Z A I (aU a n) .no [I] false (λi h P=>IsRangeIter h I (a+(i:Nat)) ((n:Int) - (i:Nat)) 1/\Vi Z [I] h P) (λi _ h P=>IsRangeIter h I (a+((i+1:Nat):Int)) ((n:Int) - ((i+1:Nat):Int)) 1/\Vi Z [I] h P) where
 move:=λzz S hp hk hn=>ak zz λh1 h3=>⟨hk I Wr _ h1,h3.move hk hn⟩
 off:=λx=>x.2
 tm:=λx=>x.2
 next:=λ{i s P c x} zz G _ hx K E q=>ak zz λh1 h3=>by
  have hi:i<n:=by
   have:=(Xb.mp hx).1
   rwa [ei] at this
  rw[jv n i a hi] at hx;cases hx;refine wpAny_pyNext_range_item h1 (Px hi) λh' h1' hsb=>?_;have xp:Xp [I] s.heap h':=Xp.jf hsb.extBut Wr;refine q _ {s with heap:=h',toks:=_} (xp.good h3 G) xp.xo (.int _ _) ⟨?_,λb hb=>?_⟩
  ·have e1:a+((i+1:Nat):Int)=a+(i:Int)+1:=by push_cast;exact Xa (GK (Xc a (↑i) 1)<|WT<|a+(↑i+1))<|W0<|Xc a (↑i) 1
   have e2:(n:Int) - ((i+1:Nat):Int)=(n:Int) - (i:Int) - 1:=Ka;refine aa e1<|aa e2 ?_;exact h1'
  ·rw[Wj] at hb;clear h1 q hsb xp;subst hb
   exact aC (h3 b Wr) λh4 h5 _=>⟨h4,h5,_,_,h1',rfl⟩
 go:=λ{i v s P c target} zz G _ K E q=>ak zz λh1 h3=>
  lN h1 rfl rfl rfl target v K E (q s G (λ_ _ _ _ e=>e) ⟨h1,h3⟩)
 done:=λ{s P c} zz G _ K E q=>ak zz λh1 h3=>by
  rw[ei n a] at h1;refine wpAny_pyNext_range_end hh h1 (W0<|Int.sub_self ↑n) λh' hx=>?_;have xp:Xp [I] s.heap h':=Xp.jf hx<|by simp
  exact q {s with heap:=h'} (xp.good h3 G) xp.xo
 self:=λzz K E q=>ak zz λh1 _=>wpAny_pyIter_rangeiter h1 q
end
section
variable{Z:Wd}{A:adC}{s:adx}{P:aF}{d:UT}
structure Ou (Z:Wd) (A:adC) (e it:Addr) (l:List D) (In:Nat->Heap->aF->Prop):Prop where
 at_:∀{i h P},In i h P->∃o xs,h.get? it=some o/\o.data=.fields xs
 step:∀{i h P h' P'},In i h P->bq h (own P) h' (own P')->(∀o,h.get? it=some o->h'.get? it=some o)->In i h' P'
 xo:∀{i h P h'},In i h P->Vi Z [e,it] h P->Xo [e,it] P h h'->(∀o,h.get? it=some o->h'.get? it=some o)->In i h' P
 draws:∀{i h P},In i h P->Vi Z [e,it] h P->∃(fp:List Addr)(PP:Nat->Value->Prop)(St:Nat->Heap->Prop),Draws Z.prog Z.w A.in1 it fp l.length PP St/\e∉fp/\St i h/\
  (∀v x,PP i v->l[i]?=some x->∀h',Xo [e,it] P h h'->DR Z.W h' (own P) v x)/\(∀h',St (i+1) h'->Xo [e,it] P h h'->In (i+1) h' P)
def yz:∀(l:List D)(a:Int)(i:Nat),(mT a l)[i]?=l[i]?.map λx=> .tup [.int (a+i),x]:=by
 intro l
 induction l with
 |nil=>exact λ_ _=>rfl
 |cons x l I=>
  intro a i;cases i with
  |zero=>exact agN (λz:Int=>some<|D.tup [.int z,x]) (XI a).symm
  |succ i=>exact(I (a+1) i).trans<|agN (λz:Int=>l[i]?.map λx=>D.tup [.int z,x]) NS
def wZ:∀(l:List D)(a:Int),(mT a l).length=l.length:=by
 intro z
 induction z with
 |nil=>
  intro a;exact rfl
 |cons x l i=>
  intro a;exact agN Y6<|i<|a+1
def Ce{In:Nat->Heap->aF->Prop}(hei:e≠it)(D0:Ou Z A e it l In):
  CZ Z A e (mT 0 l) .no [e,it] true (λi h P=>(∃old,IsEnum h e it (i:Nat) old)/\In i h P/\Vi Z [e,it] h P)
   (λi v h P=>(∃T x,v=.ref T/\IsEnumOut h e it ((i:Int)+1) x T)/\In (i+1) h P/\Vi Z [e,it] h P) where
 move:=λzz S hp hk hn=>aC zz λz00 h2 h3=>af z00 λold h1=>
  ⟨⟨old,hk e Wr _ h1⟩,D0.step h2 S<|hk it<|Wu _ Wr,h3.move hk hn⟩
 off:=λx=>x.2.2
 tm:=λx=>x.2.2
 next:=λ{i s P d x} zz G _ hx K E q=>aC zz λz00 h2 h3=>af z00 λold h1=>by
  rw[yz] at hx;refine fZ hx λy hy e₁=>?_;clear hx;subst e₁;refine gD (D0.draws h2 h3) λfp PP St DD hef hst hval hin=>?_;have hi:=(Xb.mp hy).1;refine wpAny_pyNext_enum_itemD DD h1 hst hi hei hef λv h' tk hP he' hst' hT hsz hk=>?_;have xp:Xp [e,it] s.heap h':=λb o hb eq=>hk b o (λq=>hb<|by simp [q]) (λq=>hb<|by simp [q]) eq;have hnone:=bX s.heap;have hTo:=cA G;have h0e:=(h3 e Wr).2.1;have h0i:=(h3 it<|Wu _ Wr).2.1;have rv:=hval v y hP hy h' xp.xo;have hin':=hin h' hst' xp.xo;refine cF (D0.at_ hin') λoi xi e1 e2=>q _ {s with heap:=h',toks:=_} (xp.good h3 G) xp.xo (.tup ⟨0,hT⟩ hTo (by unfold lim;simp) (.cons ?_<|.cons rv .nil)) ⟨⟨_,v,rfl,he'⟩,hin',?_⟩
  ·rw[XB];exact .int _ _
  ·intro b hb
   clear hei D0 h1 q hef hval hin hk xp;obtain rfl|hb:=Wo.mp hb
   ·exact⟨(h3 b Wr).1,h0e,_,_,he',rfl⟩
   ·rw[Wj] at hb;subst hb
    exact⟨(h3 b<|Wu _ Wr).1,h0i,oi,xi,e1,e2⟩
 go:=λ{i v s P d target} zz G ht K E q=>aC zz λz00 h2 h3=>cF z00 λT x hv he=>by
  subst hv;refine uZ (uP<|ht rfl) λts kx px e₁=>?_;clear ht;subst e₁
  ·refine wpAny_letOwnedTupleGo_enum he λh' he' hsb=>?_
   have xp:Xp [e,it] s.heap h':=Xp.jf hsb.extBut Wr;have kit:∀o,s.heap.get? it=some o->h'.get? it=some o:=λo eq=>(hsb.2 it<|YK hei).trans eq;have hin':=D0.xo h2 h3 xp.xo kit;refine cF (D0.at_ hin') λoi xi e1 e2=>q {s with heap:=h'} (xp.good h3 G) xp.xo ⟨⟨x,by push_cast;exact he'⟩,hin',λb hb=>?_⟩;clear hei D0 q he hsb xp;obtain rfl|hb:=Wo.mp hb
   ·exact⟨(h3 b<|by simp).1,(h3 b<|by simp).2.1,_,_,he',rfl⟩
   ·rw[Wj] at hb;subst hb
    exact⟨(h3 b<|by simp).1,(h3 b<|by simp).2.1,oi,xi,e1,e2⟩
 done:=λ{s P d} zz G _ K E q=>aC zz λz00 h2 h3=>af z00 λold h1=>by
  rw[wZ] at h2 h1;refine gD (D0.draws h2 h3) λfp PP St DD hef hst hval hin=>wpAny_pyNext_enum_endD DD h1 hst λh' hx=>?_;have xp:Xp [e,it] s.heap h':=Xp.jf hx<|Wu _ Wr;exact q {s with heap:=h'} (xp.good h3 G) xp.xo
 self:=λzz K E q=>aC zz λz00 _ _=>af z00 λold h1=>agz h1 q
def y2(hh:A.handled=none):Ou Z A e it l (λi h P=>h.IsListIter it a i/\DR Z.W h (own P) (.ref a) (.lst l)/\a≠it/\a≠e/\e≠it) where
 at_:=λzz=>ak zz λz00 _=>aj z00 λo h1 _ h3=>⟨o,_,h1,h3⟩
 step:=λ⟨h1,h2,h3,h4,h5⟩ S k=>⟨h1.at k,h2.stays S,h3,h4,h5⟩
 xo:=λ⟨h1,h2,h3,h4,h5⟩ o x k=>⟨h1.at k,x.dr o h2,h3,h4,h5⟩
 draws:=λ{i h P} ⟨h1,h2,h3,h4,h5⟩ o=>by
  refine az (DR.eX h2) λa' vs ea k1 k2 k3 k4=>?_;obtain rfl:=Value.ref.inj ea;clear ea;have DD:=Draws.list (prog:=Z.prog) (w:=Z.w) (A:=A.in1) hh it a h3 vs.toArray;have e1:vs.toArray.size=l.length:=aa WN<|aa k4.length rfl;rw[e1] at DD;refine⟨_,_,_,DD,?_,⟨h1,k1.i⟩,λv x hv hx h' xo=>?_,λh' hst xo=>⟨hst.1,xo.dr o<|.lst k1 k2 k3 k4,h3,h4,h5⟩⟩
  ·exact λq=>(Wo.mp q).elim h5 λq=>h4 (Wj.mp q).symm
  ·refine ae (k4.get hx) λv' hv' r=>?_
   have:vs[i]?=some v:=by simpa using hv
   rw[this] at hv';cases hv';exact xo.dr o r
def EJ(hh:A.handled=none)(hei:e≠it)(hc:Z.T.chars k=some cs):
  Ou Z A e it (cs.map D.str) (λi h P=>h.IsStrIter it (aeW (Z.W.st k)) (Z.W.st k) t i) where
 at_:=λzz=>aj zz λo h1 _ h3=>⟨o,_,h1,h3⟩
 step:=λzz _ k=>ae zz λo h1 h2=>⟨o,k o h1,h2⟩
 xo:=λzz _ _ k=>ae zz λo h1 h2=>⟨o,k o h1,h2⟩
 draws:=λ{i h P} x o=>by
  refine ak (Z.chars k cs hc) λc1 c2=>?_;have hval:∀v x,(∃c u,(Z.W.st k).cps[i]?=some c/\v=.str ⟨#[c]⟩ u)->(cs.map D.str)[i]?=some x->∀h',Xo [e,it] P h h'->DR Z.W h' (own P) v x:=by
   rintro v x ⟨c,u,h1,rfl⟩ hx h' _;rw[Xh] at hx;refine fZ hx λcc h2 e₁=>?_;clear hx;subst e₁;refine ae (c2 i cc h2) λcp h3 h4=>?_;rw[h1] at h3;cases h3;exact .str h4.symm
  by_cases ha:(Z.W.st k).cps.all (· <128)=true
  ·have DD:=Draws.strAscii (prog:=Z.prog) (w:=Z.w) (A:=A.in1) hh it (Z.W.st k) t
   rw[c1] at DD;have et:aeW (Z.W.st k)="str_ascii_iterator":=by unfold aeW;rw[agO ha]
   rw[et] at x;refine⟨_,_,_,by rw[Wm];exact DD,by simp [hei],x,hval,λh' hst _=>?_⟩;rw[et];exact hst
  ·have DD:=Draws.strWide (prog:=Z.prog) (w:=Z.w) (A:=A.in1) hh it (Z.W.st k) t
   rw[c1] at DD;have et:aeW (Z.W.st k)="str_iterator":=by unfold aeW;exact aa (agP ha) rfl
   rw[et] at x;refine⟨_,_,_,by rw[Wm];exact DD,by simp [hei],x,hval,λh' hst _=>?_⟩;exact aa et hst
end
noncomputable def SG(kd:Nat):String:=match kd with|0=>"tuple_iterator"|_=>"list_iterator"
abbrev kE(kd:Nat)(l:Addr):Obj:={cls:=.type<|SG kd,data:=.fields #[.ref l,.int 0 0]}
abbrev Oi(kd:Nat)(h:Heap)(l:Addr):Heap:=h.push<|kE kd l
abbrev Ox(kd k:Nat)(h:Heap)(L l:Addr):Heap:=(Oi kd h L).push<|kE k l
abbrev Oz(kd k:Nat)(h:Heap)(L l:Addr):Heap:=(Ox kd k h L l).push {cls:=.type "tuple",data:=.seq #[.ref h.objs.size,.ref (Oi kd h L).objs.size]}
abbrev Ov(kd k:Nat)(h:Heap)(L l:Addr):Heap:=(Oz kd k h L l).push {cls:=.type "tuple",data:=.seq #[.none,.none]}
abbrev D6(kd k:Nat)(h:Heap)(L l:Addr):Heap:=(Ov kd k h L l).push {cls:=.type "zip",data:=.fields #[.none,.bool false,.bool false,.ref (Ox kd k h L l).objs.size,.ref (Oz kd k h L l).objs.size]}
section
variable{b:Program}{w:World}{A:adC}{E:Value->adx->Prop}{s:adx}
def aJ.push(x:aJ h B a vs)(o:Obj):aJ (h.push o) B a vs:=by
 obtain⟨rfl,x⟩|⟨rfl,x⟩:=x
 ·exact .inl ⟨rfl,x.push o⟩
 ·exact .inr ⟨rfl,x.push o⟩
def gR(x:aJ s.heap B a v)(q:U (.ref s.heap.objs.size) {s with heap:=s.heap.push (kE B a)}):adA (adB b w) A (adK<|.ref a) U E s:=by
 obtain⟨rfl,x⟩|⟨rfl,x⟩:=x
 ·exact afy x q
 ·exact afz x q
def xx(kd kd2:Nat)(l1 l2:Addr)(xs ys:List Value):
  Meets (Builtin.«zip.__new__» ⟨[.type "zip",.ref l1,.ref l2],[]⟩) (λ_ R s=>aJ s.heap kd l1 xs/\aJ s.heap kd2 l2 ys/\
   R (.ok (.ret (.ref (Ov kd kd2 s.heap l1 l2).objs.size))) {s with heap:=D6 kd kd2 s.heap l1 l2}):=
 .of_wp λb w A R s h=>by
  obtain⟨hp,g,d,tk,os⟩:=s;refine aC h λhl1 hl2 h=>?_;have hsub:=sub_zip;have hL1:=hl1;have hL2:aJ (Shared.heap ⟨hp.push<|kE kd l1,g,d,tk,os⟩) kd2 l2 ys:=aJ.push hl2 _
  wp_walk using gR hL1,gR hL2
  exact⟨_,rfl,h⟩
def AK{N:Nat}(Y:aJ s.heap B u f)(a:aJ s.heap N r y)
  (h:∀G,ad5 G (s.heap.objs.size+4) (s.heap.objs.size+2) (s.heap.objs.size+3) .none->ad0 G (s.heap.objs.size+2) (.ref s.heap.objs.size) (.ref (s.heap.objs.size+1))->
   ad0 G (s.heap.objs.size+3) .none .none->cz B G s.heap.objs.size u 0->cz N G (s.heap.objs.size+1) r 0->G.objs.size=s.heap.objs.size+5->
   (∀c o,s.heap.get? c=some o->G.get? c=some o)->U (.ref (s.heap.objs.size+4)) {s with heap:=G}):
  adA (adB b w) A (call (.type "zip") [.ref u,.ref r]) U E s:=by
 refine callType_new F.called_zip rfl (F.typeCall_zip_2 _ _) (F.newCall_zip_2 _ _) (λJ=>F.args_object_init_3 J _ _) F.entry_zip_new
  (xx B N u r f y) ⟨Y,a,?_⟩
 have m:(Oi B s.heap u).objs.size=s.heap.objs.size+1:=Yt ..;have z:(Ox B N s.heap u r).objs.size=s.heap.objs.size+2:=by rw[Yt,m]
 have t:(Oz B N s.heap u r).objs.size=s.heap.objs.size+3:=by rw[Yt,z]
 have j:(Ov B N s.heap u r).objs.size=s.heap.objs.size+4:=by rw[Yt,t]
 have n:(D6 B N s.heap u r).objs.size=s.heap.objs.size+5:=by rw[Yt,j]
 have d:(D6 B N s.heap u r).get? (Ov B N s.heap u r).objs.size=some _:=WA _ rfl;have p:(D6 B N s.heap u r).get? (Oz B N s.heap u r).objs.size=some _:=Wx _<|WA _ rfl;have T:(D6 B N s.heap u r).get? (Ox B N s.heap u r).objs.size=some _:=Wx _<|Wx _<|WA _ rfl;have g:(D6 B N s.heap u r).get? (Oi B s.heap u).objs.size=some (kE N r):=Wx _<|Wx _<|Wx _<|WA _ rfl;have v:(D6 B N s.heap u r).get? s.heap.objs.size=some (kE B u):=Wx _<|Wx _<|Wx _<|Wx _<|WA _ rfl;rw[z,t,j] at d;rw[m,z] at T;rw[t] at p;rw[m] at g;refine aa j ?_;have i:∀{k:Nat}{I l:Addr},(D6 B N s.heap u r).get? I=some (kE k l)->cz k (D6 B N s.heap u r) I l 0:=λ{k} {I l} e=>by
  obtain _|_:=k;iterate 2 exact⟨_,e,rfl,rfl⟩
 exact⟨⟨_,d,rfl⟩,h _ d T p (i v) (i g) n λc o x=>
  Wx _ (Wx _<|Wx _<|Wx _<|Wx _ x)⟩
def cz.nextOf{i:Nat}(x:cz B s.heap I a i)(e:aJ s.heap B a vs)(Y:vs[i]?=some v)
  (q:∀G,cz B G I a (i+1)->Yw I s.heap G->U v {s with heap:=G}):adA (adB b w) A (aaS<|.ref I) U E s:=by
 obtain⟨rfl,h⟩|⟨rfl,h⟩:=e
 ·refine aj (id x) λo f m c=>?_
  have J:s.TypeIs (.ref I) "tuple_iterator":=⟨o,f,m⟩;refine jb h λN M _ n L=>adw (ael (name:=Xw "__next__") J Zf
   (adL Zf J abi ?_<|abe _))
  show adA _ _ (field (.ref I) 0>>=_) _ _ s;refine adw<|adN f c (x:=.ref a) rfl<|aa (agP X1)<|adw<|adN f c (x:=.int i 0) rfl<|adw<|ad3 M L ?_;have d:vs.toArray[i]?=some v:=by simpa using Y
  simp only[Y3,d];refine adw<|agA f c (WC _)<|ady ⟨v,rfl,ady<|q _ ?_ (YQ ..)⟩;exact⟨_,Zs _ f<|Obj.isFreed_of_fields<|Obj.data_mapFields c _,(Obj.cls_mapFields ..).trans m,by
   rw[Obj.data_mapFields c];simp [adI]⟩
 ·exact wpAny_nextOf_list_item x h (by simpa using Y) λG h1 h2=>q G h1 h2
def cz.Ft{i:Nat}(y:A.handled=none)(x:cz B s.heap I a i)(g:aJ s.heap B a vs)(Y:vs[i]?=none)
  (d:∀G e,aaj I s.heap G->(∃o,G.get? e=some o/\o.cls=.type "StopIteration")->E (.ref e) {s with heap:=G}):adA (adB b w) A (aaS<|.ref I) U E s:=by
 obtain⟨rfl,h⟩|⟨rfl,h⟩:=g
 ·refine aj (id x) λo f n c=>?_
  have J:s.TypeIs (.ref I) "tuple_iterator":=⟨o,f,n⟩;refine jb h λN M _ u L=>adw (ael (name:=Xw "__next__") J Zf
   (adL Zf J abi ?_<|abe _))
  show adA _ _ (field (.ref I) 0>>=_) _ _ s;refine adw<|adN f c (x:=.ref a) rfl<|aa (agP X1)<|adw<|adN f c (x:=.int i 0) rfl<|adw<|ad3 M L ?_;have k:vs.toArray[i]?=none:=by simpa using Y
  simp only[Y3,k];refine adw<|adZ<|adw<|agA f c (by simp) (adw ?_);refine adw<|adT ?_<|by size_fits
  refine adw (m:=afQ _ _)<|aej (a:=Value.none) (by first|rfl|(simp only[afQ];rfl)) ?_;refine adT ?_<|by size_fits
  refine adw (agB ?_)
  first|refine aa y ?_|refine aa y ?_
  exact adw<|ady<|wpAny_throw<|d _ _ (((YQ ..).extBut.push _).push _) ⟨_,WA _ rfl,rfl⟩
 ·exact wpAny_nextOf_list_end y x h (by simpa using Y) d
end
def cz.ext{i:Nat}(x:cz B h I a i)(s:aaj b h G)(n:I≠b):cz B G I a i:=x.at λo e=>s I o n e
def aJ.at(x:aJ h B a vs)(k:∀o,h.get? a=some o->G.get? a=some o):aJ G B a vs:=by
 obtain⟨rfl,x⟩|⟨rfl,x⟩:=x
 ·exact .inl ⟨rfl,ae x λo f r=>⟨o,k o f,r⟩⟩
 ·exact .inr ⟨rfl,x.at k⟩
def aJ.ext(x:aJ h B a vs)(s:aaj b h G)(n:a≠b):aJ G B a vs:=x.at λo e=>s a o n e
section
variable{d:Program}{w:World}{A:adC}{E:Value->adx->Prop}{s:adx}
def zc{M:Nat}{j k:Nat}(D:afR z TI m I c5 c6 l)
  (u:ad5 s.heap z TI m .none) (ac:ad0 s.heap TI (.ref I) (.ref c5)) (ax:ad0 s.heap m a b)
  (h:cz B s.heap I c6 j) (t:cz M s.heap c5 l k) (a0:aJ s.heap B c6 f) (a2:aJ s.heap M l Y) (g:f[j]?=some x) (i:Y[k]?=some y)
  (r:∀G,ad5 G z TI m (adI s.heap.objs.size)->ad0 G m x y->cz B G I c6 (j+1)->cz M G c5 l (k+1)->ad0 G s.heap.objs.size x y->G.objs.size=s.heap.objs.size+1->
   (∀c o,c≠z->c≠m->c≠I->c≠c5->s.heap.get? c=some o->G.get? c=some o)->U (.ref s.heap.objs.size) {s with heap:=G}):
  adA (adB d w) A (Builtin.«zip.__next__» ⟨[.ref z],[]⟩) (λdb T=>∃v,db=.done (.ret v)/\U v T) E s:=by
 show adA _ _ (field (.ref z) 2>>=_) _ _ _;refine adw<|adN u rfl (x:=.bool false) rfl<|adw<|adN u rfl (x:=.ref TI) rfl<|adw<|ad3 ac rfl<|adw<|adw<|adN u rfl (x:=.none) rfl<|ady ?_;refine adw (adZ<|adw<|adN u rfl (x:=.ref m) rfl<|adw<|aen u (by simp) λag ar al=>?_)
 replace ar:ad5 ag z TI m .ellipsis:=ar
 refine adw ?_;show adA _ _ (forIn [(Value.ref I,0),(Value.ref c5,1)] _ _) _ _ _;rw[ZE];refine adw<|adw<|afS<|adw<|cz.nextOf (h.ext al.extBut D.i1z) (a0.ext al.extBut D.l1z) g λa8 cd am=>ady ?_;have bn:=am.extBut _ _ D.TOi1<|al.extBut _ _ D.TOz ax;refine adw (ad3 bn rfl<|adw<|agC bn λa6 be ap=>?_)
 replace be:ad0 a6 m x b:=be
 refine adw<|wpAny_letGo<|ady<|adw<|adw<|afS ?_;refine adw (cz.nextOf (((t.ext al.extBut D.i2z).ext am.extBut D.i12.symm).ext ap.extBut D.TOi2.symm)
  (((a2.ext al.extBut D.l2z).ext am.extBut D.l2i1).ext ap.extBut D.l2TO) i λcr ch a4=>ady ?_)
 have bu:=a4.extBut _ _ D.TOi2 be;refine adw (ad3 bu rfl<|adw<|agC bu λaw a3 a5=>?_)
 replace a3:ad0 aw m x y:=a3
 refine adw<|wpAny_letGo<|ady<|ady<|adw<|ad3 a3 rfl<|adw<|aeT ?_;have n:aw.objs.size=s.heap.objs.size:=aa a5.1<|aa a4.1<|aa ap.1<|aa am.1<|aa al.1 rfl;have cc:=a5.extBut _ _ D.TOz.symm<|a4.extBut _ _ D.i2z.symm<|ap.extBut _ _ D.TOz.symm<|am.extBut _ _ D.i1z.symm ar;have cl:∀c o,c≠z->c≠m->c≠I->c≠c5->s.heap.get? c=some o->aw.get? c=some o:=λc o N p c3 c4 e=>
  a5.extBut _ _ p (a4.extBut _ _ c4<|ap.extBut _ _ p<|am.extBut _ _ c3<|al.extBut _ _ N e)
 have ce:=((cd.ext ap.extBut D.TOi1.symm).ext a4.extBut D.i12).ext a5.extBut D.TOi1.symm;have ci:=ch.ext a5.extBut D.TOi2.symm;have cb:=WU cc;have cp:=WU a3;refine adw ?_;have cn:ad5 (aw.push {cls:=.type "tuple",data:=.seq #[x,y]}) z TI m .ellipsis:=Wx _ cc;refine adw (aen cn (by simp) λco bm bi=>?_)
 replace bm:ad5 co z TI m (adI aw.objs.size):=bm
 refine aen bm (by simp) λa9 a7 bl=>?_
 replace a7:ad5 a9 z TI m (adI aw.objs.size):=a7
 have cs:∀c o,c≠z->aw.get? c=some o->a9.get? c=some o:=λc o N e=>bl.extBut _ _ N<|bi.extBut _ _ N<|Wx _ e;have bv:=bl.extBut _ _ (YZ cb)<|bi.extBut _ _ (YZ cb)<|WA _ rfl;have ca:a9.objs.size=aw.objs.size+1:=by rw[bl.1,bi.1,Yt]
 rw[n] at a7 bv ca;refine ady ⟨_,rfl,?_⟩;exact aa n<|r a9 a7 (cs _ _ D.TOz a3) (ce.at λo e=>cs _ o D.i1z e) (ci.at λo e=>cs _ o D.i2z e) bv ca λc o N p c3 c4 e=>cs c o N<|cl c o N p c3 c4 e
def EI{k:Nat}{Q:Fin->adx->Prop}(y:A.handled=none)(D:afR z TI T I al am l)
  (t:ad5 s.heap z TI T .none) (n:ad0 s.heap TI (.ref I) (.ref al)) (h:cz B s.heap I am k) (N:aJ s.heap B am f) (g:f[k]?=none)
  (j:∀G e,(∀c o,c≠z->c≠I->s.heap.get? c=some o->G.get? c=some o)->(∃o,G.get? e=some o/\o.cls=.type "StopIteration")->E (.ref e) {s with heap:=G}):
  adA (adB d w) A (Builtin.«zip.__next__» ⟨[.ref z],[]⟩) Q E s:=by
 show adA _ _ (field (.ref z) 2>>=_) _ _ _;refine adw<|adN t rfl (x:=.bool false) rfl<|adw<|adN t rfl (x:=.ref TI) rfl<|adw<|ad3 n rfl<|adw<|adw<|adN t rfl (x:=.none) rfl<|ady ?_;refine adw (adZ<|adw<|adN t rfl (x:=.ref T) rfl<|adw<|aen t (by simp) λm u U=>?_)
 replace u:ad5 m z TI T .ellipsis:=u
 refine adw<|adw (adw<|afS<|adw<|cz.Ft y (h.ext U.extBut D.i1z) (N.ext U.extBut D.l1z) g λv e p i=>ae i λoe Y b=>?_);have ac:=p _ _ D.i1z.symm u;have ag:e≠z:=λx=>by clear D t j U u;subst x;rw[ac] at Y;cases Y;simp at b
 exact aen ac (by simp) λa _ r=>j a e (λc o M J x=>r.extBut _ _ M<|p _ _ J<|U.extBut _ _ M x) ⟨oe,r.extBut _ _ ag Y,b⟩
end
section
variable{Z:Wd}{A:adC}{s:adx}{P:aF}{f:UT}
def sH:∀(a b:List D)(i:Nat),(sA a b)[i]?=a[i]?.bind λx=>b[i]?.map λy=> .tup [x,y]
 |[],b,i=>rfl
 |x::a,[],i=>(Option.bind_fun_none _).symm
 |x::a,y::b,0=>rfl
 |x::a,y::b,i+1=>sH a b i
def zv:∀{a b:List D},a.length=b.length->(sA a b).length=a.length:=by
 intro a
 induction a with
 |nil=>exact λ_=>rfl
 |cons x a i=>
  intro b h;cases b with
  |nil=>exact YG h
  |cons y b=>exact agN Y6<|i (b:=b)<|Yb h
def om(Z:Wd)(kd k:Nat)(z TI T I B L l:Addr)(n:Nat)(a b:List D)(i:Nat)(E:Value)(h:Heap)(P:aF):Prop:=
 ad5 h z TI T E/\ad0 h TI (.ref I) (.ref B)/\cz kd h I L i/\cz k h B l i/\DR Z.W h (own P) (.ref L) (sq kd a)/\DR Z.W h (own P) (.ref l) (sq k b)/\
  P[n]?=some ⟨T,T⟩/\TI∉own P/\Vi Z [z,I,B] h P
def om.off{k:Nat}{n:Nat}{i:Nat}(x:om Z B k z TI T i1 i2 l1 l2 n a b i f0 h P):Vi Z [z,i1,i2] h P:=x.2.2.2.2.2.2.2.2
def om.apart{k:Nat}{n:Nat}{i:Nat}(l:B<=1)(w:k<=1)(u:i1≠i2)(x:om Z B k z TI T i1 i2 l1 l2 n a b i f0 h P):afR z TI T i1 i2 l1 l2:=dA x λt p h1 h2 v m L G j=>aY h1.qc λo1 n1 x1 e1 c1 d1 _=>aY h2.qc λo2 n2 x2 e2 c2 d2 _=>by
 have N:n1≠"zip":=by
  obtain⟨o,q1,q2,_⟩:∃o,h.get? i1=some o/\(o.cls=.type "tuple_iterator"\/o.cls=.type "list_iterator")/\True:=by
   obtain _|_:=B
   ·obtain⟨o,a1,Y,_⟩:=h1;exact⟨o,a1,.inl Y,trivial⟩
   ·obtain⟨o,a1,Y,_⟩:=h1;exact⟨o,a1,.inr Y,trivial⟩
  rw[e1] at q1;cases q1;rw[c1] at q2;rcases q2 with q2|q2<;>cases q2<;>decide
 have J:n2≠"zip":=by
  obtain⟨o,q1,q2,_⟩:∃o,h.get? i2=some o/\(o.cls=.type "tuple_iterator"\/o.cls=.type "list_iterator")/\True:=by
   obtain _|_:=k
   ·obtain⟨o,a1,Y,_⟩:=h2;exact⟨o,a1,.inl Y,trivial⟩
   ·obtain⟨o,a1,Y,_⟩:=h2;exact⟨o,a1,.inr Y,trivial⟩
  rw[e2] at q1;cases q1;rw[c2] at q2;rcases q2 with q2|q2<;>cases q2<;>decide
 have E:=g9 L;have Q:∃o g n,h.get? l1=some o/\o.data=.seq g n/\l1∉own P:=by
  refine aK (e8 l v) λvs e _ _ I=>?_;rcases e with⟨_,o,q1,_,n,q2⟩|⟨_,o,q1,_,n,q2⟩<;>exact⟨o,_,n,q1,q2,I⟩
 have ac:∃o g n,h.get? l2=some o/\o.data=.seq g n/\l2∉own P:=by
  refine aK (e8 w m) λvs e _ _ I=>?_;rcases e with⟨_,o,q1,_,n,q2⟩|⟨_,o,q1,_,n,q2⟩<;>exact⟨o,_,n,q1,q2,I⟩
 refine bK Q λs1 ag m1 a1 b1 f1=>bK ac λs2 al m2 Y b2 f2=>?_;have U:∀{c d:Addr}{o am:Obj}{g:Array Value}{n:Nat}{y:Array Value},h.get? c=some o->o.data=.seq g n->h.get? d=some am->am.data=.fields y->c≠d:=λp1 p2 r M q=>by
  subst q;rw[p1] at r;cases r;rw[p2] at M;cases M
 refine⟨U p rfl t rfl,λq=>(j z Wr).1<|q▸E,λq=>?_,λq=>?_,λq=>G<|q▸E,U p rfl e1 d1,U p rfl e2 d2,λq=>(j i1<|Wu _ Wr).1<|q▸E,λq=>(j i2<|Wu _<|Wu _ Wr).1<|q▸E,u,
  U a1 b1 t rfl,λq=>f1<|q▸E,U a1 b1 e1 d1,U a1 b1 e2 d2,U Y b2 t rfl,λq=>f2<|q▸E,U Y b2 e1 d1,U Y b2 e2 d2⟩
 ·clear x j;subst q;rw[t] at e1;clear d1;cases e1;cases c1;exact N rfl
 ·clear x j;subst q;rw[t] at e2;clear d2;cases e2;cases c2;exact J rfl
def ym(G:Gt Z h al ap P f)(U:P[B]?=some ⟨v,v⟩)(L:f[B]?=some .eN)(o:Vi Z w h P)(x:∀b am,b∉w->b≠v->h.get? b=some am->I.get? b=some am)
  (ag:∃a b,ad0 I v a b):Gt Z I al ap P f/\Xo w P h I:=by
 have ac:=g9 U;have i:Xo w P h I:=λb am t u e=>x b am t (λq=>u<|q▸j8 U) e;refine⟨⟨λb am e=>?_,G.len,λm p am Y g=>?_,G.apart,G.off,λb Q=>⟨(G.gY b Q).1,af ((G.gY b Q).2) λy e=>⟨y,x b y (λq=>(o b q).1<|aD.mpr<|.inr Q) (λq=>(G.gY b Q).1<|q▸j8 U) e⟩⟩,G.os,G.gs⟩,i⟩
 ·exact x b am (λq=>by rw[(o b q).2.1] at e;cases e) (λq=>by rw[q,G.off v ac] at e;cases e) (G.base b am e)
 ·by_cases T:m=B
  ·subst T
   rw[U] at Y;cases Y;rw[L] at g;cases g;exact⟨rfl,ag⟩
  ·have r:=G.obj m p am Y g
   refine cM r.live λz o2 l=>af z λk M=>aV (G.apart m B p ⟨v,v⟩ Y U T) λE _ p3 _=>?_;have N:p.a∉w:=λq=>(o _ q).1<|g9 Y;have c:p.d∉w:=λq=>(o _ q).1<|nO Y;exact r.stays (by exact aa M<|x _ _ N E M) (by exact aa l<|x _ _ c p3 l) (i.stays o) (λB p e=>e)
def EF{kd kd2:Nat}{n:Nat}(hkd:kd<=1)(hkd2:kd2<=1)(h12:i1≠i2)(hh:A.handled=none)(hab:a.length=b.length):
  CZ Z A z (sA a b) (.jk n) [z,i1,i2] true (λi h P=>om Z kd kd2 z TI TO i1 i2 l1 l2 n a b i .none h P) (λi v h P=>∃T,v=.ref T/\om Z kd kd2 z TI TO i1 i2 l1 l2 n a b (i+1) (adI T) h P) where
 move:=λ{i h P h' P'} x S hp hk hn=>by
  exact dA x λhz hTI h1 h2 hd1 hd2 hP hTIo ho=>ak (S TI _ hTIo hTI ⟨_,_,rfl⟩) λt1 t2=>⟨hk z Wr _ hz,t1,h1.at (hk i1<|Wu _ Wr),h2.at (hk i2<|Wu _<|Wu _ Wr),hd1.stays S,hd2.stays S,hp _ _ hP,t2,ho.move hk hn⟩
 off:=λx=>x.off
 tm:=λzz=>ae zz λ_ _ x=>x.off
 next:=λ{i s P f x} x0 G st hx K E q=>by
  have D:=x0.apart hkd hkd2 h12;refine dA x0 λhz hTI h1 h2 hd1 hd2 hP hTIo ho=>?_;have hσ:=st;obtain⟨p',hp',_,ta,tb,hTO⟩:=G.place hσ;rw[hP] at hp';cases hp';refine aK (e8 hkd hd1) λvs1 hs1 _ r1 _=>aK (e8 hkd2 hd2) λvs2 hs2 _ r2 _=>?_;rw[sH] at hx;refine ae (aa8.mp hx) λd1 e1 hx=>fZ hx λd2 e2 e₁=>?_;clear hx;subst e₁;refine ae (r1.get e1) λu1 hu1 ru1=>ae (r2.get e2) λu2 hu2 ru2=>?_;have hT:s.TypeIs (.ref z) "zip":=⟨_,hz,rfl⟩;refine adw<|afk (ael (name:=Xw "__next__") hT aak
   (adL aak hT acX
    (zc D hz hTI hTO h1 h2 hs1 hs2 hu1 hu2 λh' a1 a2 a3 a4 a5 a6 hk=>ady ?_) (acO _)))
  have xk:∀b ob,b∉[z,i1,i2]->b≠TO->s.heap.get? b=some ob->h'.get? b=some ob:=λb ob hb hbT e=>
   hk b ob (λq=>hb<|by simp [q]) hbT (λq=>hb<|by simp [q]) (λq=>hb<|by simp [q]) e
  refine ak (ym G hP hσ ho xk ⟨_,_,a2⟩) λG' xo=>?_;have kTI:=hk _ _ D.TIz D.TITO D.TIi1 D.TIi2 hTI;have hTf:=cA G;refine q _ {s with heap:=h'} G' xo (.tup (vs:=[u1,u2]) ⟨0,a5⟩ hTf (by unfold lim;simp) (.cons (xo.dr ho ru1)<|.cons (xo.dr ho ru2) .nil))
   ⟨_,rfl,a1,kTI,a3,a4,xo.dr ho hd1,xo.dr ho hd2,hP,hTIo,λc hc=>?_⟩
  refine aY a3.qc λo1 _ ys1 q1 _ q3 _=>aY a4.qc λo2 _ ys2 q4 _ q6 _=>⟨(ho c hc).1,(ho c hc).2.1,?_⟩;clear x0 D hz ho q hT hk xk xo;obtain rfl|hc:=Wo.mp hc
  ·exact⟨_,_,a1,rfl⟩
  obtain rfl|hc:=Wo.mp hc
  ·exact⟨_,_,q1,q3⟩
  ·rw[Wj] at hc;subst hc
   exact⟨_,_,q4,q6⟩
 go:=λ{i v s P f target} zz G ht K E q=>ae zz λT hv x0=>by
  subst hv;have D:=x0.apart hkd hkd2 h12;refine dA x0 λhz hTI h1 h2 hd1 hd2 hP hTIo ho=>uZ (uP<|ht rfl) λts kx px e₁=>?_;clear ht;subst e₁
  ·refine wpAny_letOwnedTupleGo_zip hz λh' hz' hsb=>?_
   have xp:Xp [z,i1,i2] s.heap h':=Xp.jf hsb.extBut Wr;have ks:∀c o,c≠z->s.heap.get? c=some o->h'.get? c=some o:=λc o hc e=>hsb.extBut c o hc e;refine q {s with heap:=h'} (xp.good ho G) xp.xo ⟨hz',ks _ _ D.TIz hTI,h1.at (λo e=>ks _ o D.i1z e),h2.at (λo e=>ks _ o D.i2z e),xp.xo.dr ho hd1,xp.xo.dr ho hd2,hP,hTIo,λc hc=>?_⟩;refine dS (ho c hc) λw1 w2 ob ys w3 w4=>?_;by_cases hcz:c=z
   ·clear q x0 D hz ho hsb xp ks hc;subst hcz;exact⟨w1,w2,_,_,hz',rfl⟩
   ·exact⟨w1,w2,ob,ys,ks c ob hcz w3,w4⟩
 done:=λ{s P f} x0 G st K E q=>by
  rw[zv hab] at x0;have D:=x0.apart hkd hkd2 h12;refine dA x0 λhz hTI h1 h2 hd1 hd2 hP hTIo ho=>aK (e8 hkd hd1) λvs1 hs1 _ r1 _=>?_;have hT:s.TypeIs (.ref z) "zip":=⟨_,hz,rfl⟩;refine adw<|afk (ael (name:=Xw "__next__") hT aak
   (adL aak hT acX (EI hh D hz hTI h1 hs1 (XW (by exact aa r1.length<|WC _)) λh' e hk he=>?_) (acO _)))
  refine ae he λo hoe hc=>adw<|aeQ (T:="StopIteration") (b:=true) ⟨o,hoe,hc⟩ agD ?_;have xp:Xp [z,i1,i2] s.heap h':=λb ob hb e=>hk b ob (λq=>hb<|by simp [q]) (λq=>hb<|by simp [q]) e;exact ady (q {s with heap:=h'} (xp.good ho G) xp.xo)
 self:=λx0 K E q=>agE x0.1 q
end
def Q8{A B C D E F G H:Sort _}{p:A->B->C->D->E->F->G->H->Prop}(a:A)(b:B)(c:C)(d:D)(e:E)(f:F)(g:G)(h:H)(q:p a b c d e f g h):∃a b c d e f g h,p a b c d e f g h:=⟨a,b,c,d,e,f,g,h,q⟩
noncomputable def yr:PI->Bool
 |.zip _ _=>true
 |.enum _=>true
 |_=>false
def Ready(Z:Wd)(t:aF)(L:adx)(i:PI)(Q:List D->Sr->UT->Prop)(u:Value)(s:adx):Prop:=
 ∃(I:Addr)(l:List D)(src:Sr)(w:List Addr)(a:Nat->Heap->aF->Prop)(c:Nat->Value->Heap->aF->Prop)(p:aF)(Y:UT),u=.ref I/\Gd Z s p Y/\Step [] L.heap t s.heap p/\(∀b∈w,L.heap.get? b=none)/\
  (∀A:adC,A.handled=none->CZ Z A I l src w (yr i) a c)/\a 0 s.heap p/\dx src l Y/\Q l src Y
def Ready.of
  (W:∀A:adC,A.handled=none->CZ Z A I l c w T a m) (h:T=yr i) (G:Gd Z s p Y) (S:Step [] d.heap t s.heap p) (hw:∀b∈w,d.heap.get? b=none) (J:a 0 s.heap p) (st:dx c l Y) (q:Q l c Y):Ready Z t d i Q (.ref I) s:=
 ⟨I,l,c,w,a,m,p,Y,rfl,G,S,hw,h▸W,J,st,q⟩
def Hk(Y:Wq)(C:Cl)(d:Nat)(i:PI):Prop:=∀{x:adz}{k:Ks}{env:Env}{fr:List Addr}{ρ:Ev}{A:adC}{s:adx}{P:aF}{σ:UT}{Q:List D->Sr->UT->Prop},
 cI Y.c k i x=true->bU A d->Gd Y.toWd s P σ->En Y.toWd s.heap P fr k env ρ->vI Y.T C i ρ σ Q->
  ∀(K:Value->adx->Prop)(E:Value->adx->Prop),(∀u a,Ready Y.toWd P s i Q u a->K u a)->adA (adB Y.prog Y.w) A (eval x env) (λu y=>adA (adB Y.prog Y.w) A (adK u) K E y) E s
section
variable{Y:Wq}{C:Cl}{d:Nat}
def gK{u:adF}{g:Array adQ}{Z:Wd}{h:Heap}{P:aF}{t:UT}{J:Heap}(G:Gt Z h u g P t)(w:h.get? L=none)(m:∃o x,J.get? L=some o/\o.data=.fields x):L∉own P/\Z.h₀.get? L=none/\∃o x,J.get? L=some o/\o.data=.fields x:=by
 refine⟨λq=>?_,?_,m⟩
 ·refine af (G.live q) λo e=>?_;rw[w] at e;cases e
 ·rcases e:Z.h₀.get? L with _|o
  ·rfl
  ·rw[G.base L o e] at w;cases w
def Step.old(S:Step f h P G p)(e:G.get? b=none):h.get? b=none:=by
 rcases E:h.get? b with _|o
 ·rfl
 ·exact af (S.live _ _ E) λy a=>no<|e.symm.trans a
def nP{h:Heap}(Q:h.objs.size<=L):h.get? L=none:=fD (Kp.refl h) Q
def lY{Z:Wd}{A:adC}{m s:adx}{p P:aF}{t:UT}{kd:Nat}{l:List D}{i:PI}{Q:List D->Sr->UT->Prop}{E:Value->adx->Prop}(c:kd<=1)(G:Gd Z s P t)(S:Step [] m.heap p s.heap P)
  (n:yr i=false) (r:DR Z.W s.heap (own P) (.ref L) (sq kd l)) (q:Q l .no t) (x:∀u T,Ready Z p m i Q u T->U u T):adA (adB Z.prog Z.w) A (adK (.ref L)) U E s:=by
 refine aK (e8 c r) λv f _ _ _=>gR f<|x _ {s with heap:=_} ?_;have z:=bX s.heap;have k:Kp s.heap (s.heap.push<|kE kd L):=Kp.push _ _;have e:=WA s.heap (o:=kE kd L) rfl;have g:Vi Z [s.heap.objs.size] (s.heap.push<|kE kd L) P:=λb h=>by
  rw[Wj] at h;subst h;exact gK G z ⟨_,_,e,rfl⟩
 refine Ready.of (λA y=>CS kd c y _ L l) n.symm (G.ext k) (S.trans<|Step.ext k) (λb h=>?_) ⟨?_,r.ext k,g⟩ trivial q
 ·exact aa (Wj.mp h)<|S.old z
 ·clear c r f k g;obtain _|_:=kd
  iterate 2 exact⟨_,e,rfl,rfl⟩
def rF{Z:Wd}{A:adC}{M s:adx}{x P:aF}{t:UT}{p:Pl}{l:List D}{i:PI}{Q:List D->Sr->UT->Prop}{E:Value->adx->Prop}(G:Gd Z s P t)(S:Step [] M.heap x s.heap P)
  (I:yr i=false) (c:P[B]?=some p) (L:t[B]?=some (.list l)) (q:Q l (.ls B) t) (r:∀u T,Ready Z x M i Q u T->U u T):adA (adB Z.prog Z.w) A (adK (.ref p.a)) U E s:=by
 refine aj (jr G L c) λv z J g=>af z λm f=>gR (.inr ⟨rfl,_,f,rfl,m,rfl⟩)<|r _ {s with heap:=_} ?_;have k:Kp s.heap (s.heap.push<|kE 1 p.a):=Kp.push _ _;have e:=WA s.heap (o:=kE 1 p.a) rfl;refine Ready.of (λA y=>wK y _ B p l) I.symm (G.ext k) (S.trans<|Step.ext k) (λb h=>?_) ⟨⟨_,e,rfl,rfl⟩,c,λb h=>?_⟩ L q
 ·exact aa (Wj.mp h)<|S.old (bX _)
 ·exact aa (Wj.mp h)<|gK G (bX _) ⟨_,_,e,rfl⟩
def Hn(j:dc Y C d e):Hk Y C d (.e e):=by
 intro x k c o L A s P t Q m R G N h K E B;refine j (ew m).2 R G N h _ E λu v T J i g S r q=>ed q λz I q=>?_;obtain⟨l,U⟩:=z;obtain y|n:=v
 ·refine fZ I λl' w e3=>?_
  obtain rfl|rfl:=gP w
  ·refine cF r.dd.eD λa _ f _=>?_;subst f;exact lY (kd:=0) (by decide) g S rfl r.dd q B
  ·refine cF r.dd.eX λa _ f _=>?_;subst f;exact lY (kd:=1) (by decide) g S rfl r.dd q B
 ·refine fZ I λpl w e3=>?_
  clear I;cases e3;refine aK (fy r w) λp b f M _=>?_;clear r;subst f;exact rF g S rfl b M q B
def vQ{i:List PE}(ac:hW Y C d i):Hk Y C d (.kW i):=by
 intro x k c p L A s P w Q m R G N h K E M;refine BW m λg f B ag am=>l9 ac ag am R G N h _ E λu l U I z j S r q=>bK r λra a n ax a2 a0=>?_;obtain rfl:=ax;refine bE a2 λb t u v ap ar aw o=>?_;obtain rfl:=a0;refine agk ap aw<|M _ {U with heap:=_} ?_;have hI:=bX U.heap;generalize hob:({cls:=.type "range_iterator",data:=.fields #[adI a,adI<|ZZ a b 1,adI 1]}:Obj)=J;have kp:Kp U.heap (U.heap.push J):=Kp.push _ _;have e:(U.heap.push J).get? U.heap.objs.size=some J:=WA _ (by refine av hob ?_;rfl);have al:Vi Y.toWd [U.heap.objs.size] (U.heap.push J) I:=λb T=>by
  rw[Wj] at T;subst T;exact gK j hI ⟨_,_,e,av hob rfl⟩
 refine Q8 _ (aU a n) .no [U.heap.objs.size] _ _ I z ⟨rfl,j.ext kp,S.trans<|Step.ext kp,λb T=>?_,λA y=>yk y _ a n,⟨?_,al⟩,trivial,q⟩
 ·exact aa (Wj.mp T)<|S.old hI
 ·show(U.heap.push J).get? U.heap.objs.size=_
  refine aa e<|av hob<|aa ar ?_;simp
def rL{e:PE}(he:dc Y C d e):Hk Y C d (.enum e):=by
 intro x k ac fr L A s P z Q hc R G N h K E hK;refine vt hc λg y al m B c=>aj (bY m) λp e1 _ _=>?_;rw[bc e1];have a0:adM [y] ac=[(false,eval y ac)]:=by refine aa (cV B) ?_;rfl
 refine adw<|ic (v:=.type "enumerate") G N m (by decide+kernel) ?_;refine aek (P:=λ_=>True) (by refine aa cY<|aa a0 ?_;rfl) (λh _=>⟨.machine,.inr<|.inl rfl,Zh rfl⟩) (cv (by refine aa cY<|aa a0 ?_;rfl) ?_);refine aa a0 ?_;show adA _ _ (spliced<|(false,eval y ac)::[]) _ _ _;refine aeb<|he c R G N h _ E λu v U P' ag G' S r q1=>ady ⟨trivial,?_⟩;refine ed q1 λl e2 q=>?_;have fresh:∀b,U.heap.objs.size<=b->U.heap.get? b=none:=λb T=>nP T;have ap:∀{l0:List D}{In:Nat->Heap->aF->Prop}{h':Heap},l=mT 0 l0->IsEnum h' (U.heap.objs.size+1) U.heap.objs.size 0 .none->In 0 h' P'->Kp U.heap h'->(∃o f,h'.get? U.heap.objs.size=some o/\o.data=.fields f)->
   (∀A:adC,A.handled=none->Ou Y.toWd A (U.heap.objs.size+1) U.heap.objs.size l0 In)->adA (adB Y.prog Y.w) A (adK<|.ref<|U.heap.objs.size+1) K E {U with heap:=h'}:=by
  intro l0 In h' M hE ax kp a6 hI;refine agz hE<|hK _ {U with heap:=h'} ?_;have ar:U.heap.objs.size+1≠U.heap.objs.size:=YZ<|WK _;clear e2;subst M;refine Ready.of (λA hh=>Ce ar<|hI A hh) rfl (G'.ext kp) (S.trans<|Step.ext kp) (λb T=>?_) ⟨⟨.none,hE⟩,ax,λb T=>?_⟩ trivial q
  ·have a4:U.heap.get? b=none:=by
    obtain rfl|T:=Wo.mp T
    ·exact fresh _ (W9 _)
    ·rw[Wj] at T;subst T;exact fresh _<|WC _
   exact S.old a4
  ·obtain rfl|T:=Wo.mp T
   ·exact gK G' (fresh _<|W9 _) ⟨_,_,hE,rfl⟩
   ·rw[Wj] at T;subst T;exact gK G' (fresh _<|WC _) a6
 refine cB e2 λx I e2=>?_;have r:=(aL I▸r).dd;clear I q;obtain _|_|_|kk|_|_|_|a:=x;iterate 3 exact no e2
 ·refine fZ e2 λcs a5 J=>?_;subst J
  refine af r.g6 λt J=>?_;clear r;subst J;exact call_enumerate_str λh' hE a2 aw kp=>ap rfl hE a2 kp (aj a2 λo a1 _ a3=>⟨o,_,a1,a3⟩) λA hh=>EJ hh (YZ<|WK _) a5
 iterate 3 exact no e2
 ·obtain rfl:=Wn e2
  refine aq r.eX λla j J k1 k2=>?_;subst J;refine call_enumerate_list k1.i λh' hE a2 aw kp=>?_;have am:la<U.heap.objs.size:=by exact af k1 λn e=>WU e
  exact ap rfl hE ⟨a2,r.ext kp,Xi am,Xi<|WM am,YZ<|WK _⟩ kp (aj a2 λo a1 _ a3=>⟨o,_,a1,a3⟩) λA hh=>y2 hh
def B0(h:x.ju=some l):∃kd,kd<=1/\x=sq kd l:=by
 obtain rfl|rfl:=gP h
 ·exact⟨0,by decide,rfl⟩
 ·exact⟨1,by decide,rfl⟩
def DR.BL(c:B<=1)(r:DR W h o u (sq B l)):∃a,u=.ref a:=by
 obtain rfl|rfl:=Nat.le_one_iff_eq_zero_or_eq_one.mp c
 ·exact cF r.eD λa _ e _=>⟨a,e⟩
 ·exact cF r.eX λa _ e _=>⟨a,e⟩
def ve(cc:dc Y C d e1)(bi:dc Y C d e2):Hk Y C d (.zip e1 e2):=by
 intro x k B J L A s P t Q z R G N h K E hK;refine zX z λg y zz ag m w r M h5=>aj (bY m) λp e1 _ _=>?_;rw[bc e1];have a4:adM [y,zz] B=[(false,eval y B),(false,eval zz B)]:=by refine aa (cV w)<|aa (cV r) ?_;rfl
 refine adw<|ic (v:=.type "zip") G N m (by decide+kernel) ?_;refine aek (P:=λ_=>True) (by refine aa cY<|aa a4 ?_;rfl) (λh _=>⟨.machine,.inr<|.inl rfl,Zh rfl⟩) (cv (by refine aa cY<|aa a4 ?_;rfl) ?_);refine aa a4 ?_;show adA _ _ (spliced<|(false,eval y B)::adS ag [(false,eval zz B)]) _ _ _;refine aeb<|cc M R G N h _ E λu v s1 P1 a5 G1 S1 r1 q1=>?_;show adA _ _ (spliced<|(false,eval zz B)::[]) _ _ _;refine aeb<|bi h5 R G1 (N.step S1) q1 _ E λu' v' U P' ac G' S2 r2 q2=>ady ⟨trivial,?_⟩;have S:=S1.trans S2;have r1:=r1.step S2;refine ed q2 λl ez q=>cB ez λx1 bv ez=>cB ez λx2 bm ez=>cB ez λa I ez=>cB ez λb T ez=>ak (fs ez) λa3 ez=>?_;obtain rfl:=Wn ez;have r1:=(aL bv▸r1).dd;have r2:=(aL bm▸r2).dd;refine ae (B0 I) λkd aw n=>?_;clear bv I;subst n;refine ae (B0 T) λam a6 n=>?_;clear bm T ez;subst n;obtain⟨a1,rfl⟩:=DR.BL aw r1;obtain⟨a2,rfl⟩:=DR.BL a6 r2;refine aK (e8 aw r1) λcb bl _ _ _=>aK (e8 a6 r2) λbu bn _ _ _=>AK bl bn λh' hz ax a8 a0 a9 ar kp=>?_;have fresh:∀b,U.heap.objs.size<=b->U.heap.get? b=none:=λb T=>nP T;refine aC (G'.new (p:=⟨U.heap.objs.size+3,U.heap.objs.size+3⟩) (o:=.eN) (h':=h') kp (fresh _<|WD _ _) (fresh _<|WD _ _) λ_=>⟨rfl,_,_,a8⟩) λG2 S3 c=>agE hz<|hK _ {U with heap:=h'} ?_;have ca:∀b,b∈own (P'++([⟨U.heap.objs.size+3,U.heap.objs.size+3⟩]:List Pl))->b∈own P'\/b=U.heap.objs.size+3:=λb T=>by
  obtain T|T:=aD.mp T
  ·rw[cU] at T
   obtain T|T:=WH.mp T
   ·exact .inl (bB T)
   ·right;simpa using T
  ·exact .inl (aD.mpr<|.inr T)
 have al:∀b,U.heap.objs.size<=b->b≠U.heap.objs.size+3->(∃o f,h'.get? b=some o/\o.data=.fields f)->b∉own (P'++([⟨U.heap.objs.size+3,U.heap.objs.size+3⟩]:List Pl))/\Y.h₀.get? b=none/\∃o f,h'.get? b=some o/\o.data=.fields f:=λb T ap hr=>by
  refine aC (gK G' (fresh b T) hr) λw1 w2 w3=>⟨λq=>?_,w2,w3⟩;obtain q|q:=ca b q
  ·exact w1 q
  ·exact ap q
 have ne:∀{i j:Nat},i≠j->U.heap.objs.size+i≠U.heap.objs.size+j:=λa7 q=>a7<|Nat.add_left_cancel q;have cd:∃o f,h'.get? U.heap.objs.size=some o/\o.data=.fields f:=aY a0.qc λo _ f q1 _ q3 _=>⟨o,f,q1,q3⟩;have ce:∃o f,h'.get? (U.heap.objs.size+1)=some o/\o.data=.fields f:=aY a9.qc λo _ f q1 _ q3 _=>⟨o,f,q1,q3⟩;refine Q8 _ (sA a b) (.jk ac.length) [U.heap.objs.size+4,U.heap.objs.size,U.heap.objs.size+1] _ _ _ _ ⟨rfl,G2,S.trans S3,λb T=>?_,λA hh=>EF aw a6 (ne (i:=0) (j:=1)<|by decide) hh a3,
  ⟨hz,ax,a0,a9,r1.stays S3.stays,r2.stays S3.stays,c,λq=>?_,λb T=>?_⟩,?_,q⟩
 ·have be:U.heap.get? b=none:=by
   simp only[Wo,WW,or_false] at T;obtain rfl|rfl|rfl:=T
   ·exact fresh _ (WD _ _)
   ·exact fresh _ (WC _)
   ·exact fresh _ (WD _ _)
  exact S.old be
 ·obtain q|q:=ca _ q
  ·refine af (G'.live q) λo e=>?_
   rw[fresh _<|WD _ _] at e;cases e
  ·exact ne (by decide) q
 ·simp only[Wo,WW,or_false] at T
  obtain rfl|rfl|rfl:=T
  ·exact al _ (WD _ _) (ne<|by decide) ⟨_,_,hz,rfl⟩
  ·exact al _ (WC _) (ne (i:=0)<|by decide) cd
  ·exact al _ (WD _ _) (ne<|by decide) ce
 ·exact List.getElem?_concat_length ..
end
noncomputable def cH(D:Addr)(P:aF):aF:=⟨P.l,D::P.ex⟩
def kP{b:Addr}(h:b∉own (cH L P)):b∉own P:=λq=>h (by
 obtain q|q:=aD.mp q
 ·exact aD.mpr (.inl q)
 ·exact aD.mpr (.inr<|Wu _ q))
def jh{b:Addr}(h:b∉own P)(c:b≠L):b∉own (cH L P):=λq=>by
 obtain q|q:=aD.mp q
 ·exact h (bB q)
 ·obtain q|q:=Wo.mp q
  ·exact c q
  ·exact h (aD.mpr<|.inr q)
def jo(D:Addr)(P:aF):D∈own (cH D P):=aD.mpr<|.inr Wr
section
variable{Z:Wd}{h g i:Heap}{P j z:aF}{A E:UT}{D:Addr}{t X:List Addr}{w:List (Str×NameKind)}{f:Env}{y B:Ev}
def lR(k:Kp h g)(c:h.get? D=none):bq h (own P) g (own (cH D P)):=λa o G l _=>⟨k a o l,jh G λq=>by rw[q,c] at l;cases l⟩
def oP:bq h (own (cH D P)) h (own P):=λ_ _ G k _=>⟨k,kP G⟩
def vk(G:Gt Z h v T P A)(k:Kp h g)(c:h.get? D=none)(J:∃o,g.get? D=some o):Gt Z g v T (cH D P) A:=by
 have Y:D∉own P:=G.fresh c;refine⟨λb o e=>k b o<|G.base b o e,G.len,λn p o Y l=>?_,G.apart,λb Q=>?_,λb Q=>?_,G.os,G.gs⟩
 ·have r:=G.obj n p o Y l
  exact cM r.live λI d L=>af I λs M=>r.stays (by exact aa M<|k _ _ M) (by exact aa L<|k _ _ L) (lR k c) λ_ _ e=>e
 ·obtain Q|Q:=aD.mp Q
  ·exact G.off b (bB Q)
  ·clear J Y;obtain rfl|Q:=Wo.mp Q
   ·rcases e:Z.h₀.get? b with _|o
    ·rfl
    ·rw[G.base b o e] at c;cases c
   ·exact G.off b (aD.mpr<|.inr Q)
 ·clear c;obtain rfl|Q:=Wo.mp Q
  ·exact⟨λq=>Y<|bB q,J⟩
  ·exact cM (G.gY b Q) λm o u=>⟨m,o,k b o u⟩
def CK(G:Gt Z h u T (cH D P) A):Gt Z h u T P A:=
 ⟨G.base,G.len,λn p o Y k=>(G.obj n p o Y k).stays rfl rfl oP λ_ _ e=>e,G.apart,λb Q=>G.off b (by
  obtain Q|Q:=aD.mp Q
  ·exact aD.mpr (.inl Q)
  ·exact aD.mpr (.inr<|Wu _ Q)),λb Q=>G.gY b<|Wu _ Q,G.os,G.gs⟩
def VR.st(r:VR W h P u v)(S:bq h (own P) g (own j))(Y:∀(n:Nat)(p:Pl),P[n]?=some p->j[n]?=some p):VR W g j u v:=by
 obtain r|e:=r
 ·exact .d (r.stays S)
 ·exact .loc (Y _ _ e)
def mD.move(N:En Z h P t w f y)(S:bq h (own P) g (own j))(Y:∀(n:Nat)(p:Pl),P[n]?=some p->j[n]?=some p)
  (M:∀b o,(b∈t\/∃s,f.cells.lookup s=some b)->h.get? b=some o->g.get? b=some o) (G:∀b,(b∈t\/∃s,f.cells.lookup s=some b)->b∉own j):En Z g j t w f y:=by
 refine⟨N.kind,N.globals,N.builtins,N.loc,N.CX,N.xN,N.F8,?_,?_,?_,N.apart,N.eH,?_⟩
 ·refine ae N.ns λm Q l=>⟨m,Q.at' λo e=>M _ o (.inl N.eH) e,λx v h1 h2=>?_⟩
  exact ae (l x v h1 h2) λu a d=>⟨u,a,d.st S Y⟩
 ·intro x v h1 h2
  exact aq (N.cells x v h1 h2) λc u a J I=>ae J λo d ac=>⟨c,u,a,⟨o,M _ o (.inr ⟨_,a⟩) d,ac⟩,I.st S Y⟩
 ·intro s c r
  refine ak (N.de s c r) λJ h2=>?_;obtain⟨v,o,h1,U⟩:=J;exact⟨⟨v,o,M _ o (.inr ⟨_,r⟩) h1,U⟩,G c<|.inr ⟨_,r⟩⟩
 ·intro b hb
  refine aV (N.eC b hb) λh1 h2 J d=>af J λo a=>?_;have e:=M b o (.inl hb) a;refine⟨G b<|.inl hb,h2,⟨o,e⟩,λT k n L=>?_⟩;rw[e] at L;cases L;exact d o k n a
def mD.xD(N:En Z h P t w f y)(hb:b∈t\/∃s,f.cells.lookup s=some b):b∉own P/\∃o,h.get? b=some o:=by
 obtain hb|⟨s,hb⟩:=hb
 ·exact aV (N.eC b hb) λh1 _ Y _=>⟨h1,Y⟩
 ·refine ak (N.de s b hb) λG h2=>?_;obtain⟨v,o,h1,_⟩:=G;exact⟨h2,o,h1⟩
def B4(N:En Z h P t w f y)(k:Kp h g)(c:h.get? D=none):En Z g (cH D P) t w f y:=
 N.move (lR k c) (λ_ _ e=>e) (λb o _ e=>k b o e) λb Q=>by
  refine cM (N.xD Q) λm o u=>?_;exact jh m λq=>by rw[q,c] at u;cases u
def mD.NV(N:En Z h P t w f y)(S:Step X h P g j)(hX:∀b∈X,b∈own P):En Z g j t w f y:=
 N.move S.stays (λ_ _ e=>S.place e) (λb o hb e=>S.keep b o (N.xD hb).1 (λq=>(N.xD hb).1<|hX b q) e) λb hb q=>by
  refine cM (N.xD hb) λh1 o h2=>?_;obtain q|q:=S.new b q
  ·exact h1 q
  ·rw[h2] at q;cases q
def mD.less(N:En Z h P t w f B)(J:∀x v,UY y x=some v->UY B x=some v):En Z h P t w f y:=
 ⟨N.kind,N.globals,N.builtins,N.loc,N.CX,N.xN,N.F8,ae N.ns λm Q k=>⟨m,Q,λx v h1 h2=>k x v (J x v h1) h2⟩,λx v h1 h2=>N.cells x v (J x v h1) h2,N.de,N.apart,N.eH,N.eC⟩
def AS(M:∀b o,b≠D->h.get? b=some o->g.get? b=some o)(J:∃o,g.get? D=some o):Step [D] h (cH D P) g (cH D P):=
 ⟨⟨[],(aF.append_nil _).symm⟩,λb o _ u e=>M b o (by simpa using u) e,λb o e=>by
  by_cases Q:b=D
  ·clear M;subst Q;exact J
  ·exact⟨o,M b o Q e⟩,λ_ Q=> .inl Q,λa o G k _=>⟨M a o (λq=>G<|q▸jo D P) k,G⟩⟩
def y9(G:Gt Z h v T (cH D P) A)(M:∀b o,b≠D->h.get? b=some o->g.get? b=some o)(J:∃o,g.get? D=some o):Gt Z g v T (cH D P) A:=by
 have c:=(G.gY D Wr).1;have s:=G.off D<|jo D P;have S:=(AS (P:=P) M J).stays;refine⟨λb o e=>M b o (λq=>by rw[q,s] at e;cases e) (G.base b o e),G.len,λn p o Y k=>?_,G.apart,G.off,λb Q=>?_,G.os,G.gs⟩
 ·have r:=G.obj n p o Y k
  exact cM r.live λI d l=>af I λx L=>r.stays (by exact aa L<|M _ _ (λq=>c<|q▸j8 Y) L) (by exact aa l<|M _ _ (λq=>c<|q▸vH Y) l) S λ_ _ e=>e
 ·refine cM (G.gY b Q) λm o u=>⟨m,?_⟩
  by_cases Q:b=D
  ·clear G M c s S m;subst Q;exact J
  ·exact⟨o,M b o Q u⟩
def Step.cH(S:Step t i z h P)(s:Step X h (cH D P) g (cH D j))(hX:∀b∈X,b∈t\/i.get? b=none)(c:i.get? D=none):Step t i z g j:=af S.pre λR Q=>af s.pre λr T=>by
 have e1:j.l=P.l++r:=agN aF.l T;have e2:j.ex=P.ex:=by
  have:D::j.ex=D::P.ex:=agN aF.ex T;exact(Xk this).2
 refine⟨⟨R++r,?_⟩,λb o h1 h2 e=>?_,λb o e=>?_,λb hb=>?_,λa o G e p=>?_⟩
 ·rw[<-aF.append_assoc,<-Q]
  clear s T;cases j;subst P;subst e1;subst e2;rfl
 ·refine s.dH b o (λq=>?_) (λq=>?_) (S.dH b o h1 h2 e)
  ·obtain q|q:=S.gX b q
   ·exact h1 q
   ·rw[e] at q;cases q
  ·obtain q|q:=hX b q
   ·exact h2 q
   ·rw[e] at q;cases q
 ·exact af (S.live b o e) λI k=>s.live b I k
 ·obtain q|q:=s.gX b hb
  ·exact S.gX b q
  ·refine .inr ?_
   rcases e:i.get? b with _|o
   ·rfl
   ·refine af (S.live b o e) λI k=>?_
    rw[k] at q;cases q
 ·exact ak (S.stays a o G e p) λh1 h2=>ak (s.stays a o (jh h2 λq=>by rw[q,c] at e;cases e) h1 p) λY d=>⟨Y,kP d⟩
end
section
variable{Y:Wq}{C:Cl}{d:Nat}
def JX(Y:Wq)(C:Cl)(d:Nat)(es:List PE):Prop:=∀{xs:List adz}{k:Ks}{env:Env}{fr:List Addr}{ρ:Ev}{A:adC}{s:adx}{P:aF}{σ:UT}{Q:Bool->UT->Prop},
 eQ Y.c k es xs->bU A d->Gd Y.toWd s P σ->En Y.toWd s.heap P fr k env ρ->vA Y.T C es ρ σ Q->
  Gw Y.toWd A RB (forIn xs true λc r=>if r=true then do let ok<-aey c env (eval c env);pure (ForInStep.yield ok) else pure (ForInStep.yield r)) s P Q
def qz(G:Gd Y.toWd s P t)(q:Q false t):∀f:List adz,
  Gw Y.toWd A RB (forIn f false λc r=>if r=true then do let ok<-aey c e (eval c e);pure (ForInStep.yield ok) else pure (ForInStep.yield r)) s P Q
 :=by
 intro f
 induction f with
 |nil=>exact Gw.pure G rfl q
 |cons x f i=>
  rw[ZE];exact λK E h=>adw<|ady<|i K E h
def Fg:JX Y C d []:=by
 intro f k e o L A s P t Q m R G N h;obtain _|⟨x,f⟩:=f
 ·exact Gw.pure G rfl h
 ·exact Ws m
def zM(l:nh Y C d e)(ac:JX Y C d i):JX Y C d (e::i):=by
 intro f k a o L A s P t Q m R G N h;obtain _|⟨x,f⟩:=f
 ·exact Ws m
 ·refine gi m λ_ M z=>?_
  rw[ZE];refine λK E w=>adw<|adw<|l M R G N h _ E λu b T p c g S r q=>ady ?_;subst r;obtain _|_:=u
  ·exact qz g q f K E λu v B J I n j y U=>w u v B J I n (S.trans j) y U
  ·exact ac z R g (N.step S) q K E λu v B J I n j y U=>w u v B J I n (S.trans j) y U
end
def kq(h:g[b]?=some ⟨t,A,I,0⟩):
  compTurn (.ListComp E g s p) b i a e=(do
   standAt A.pos
   match<-aeV i with
   |none=>pure (.done .next)
   |some v=>
    afP t i v
    assign t e v
    let ok<-forIn I true λc r=>if r=true then do let ok<-aey c e (eval c e);pure (ForInStep.yield ok) else pure (ForInStep.yield r)
    if ok then
     match g[b+1]? with
     |some G=>
      let x<-eval G.iter e
      standAt G.iter.pos
      let x<-if G.is_async !=0 then agF G.iter x else afT G.iter e x
      let f<-holding [x] (if G.is_async !=0 then asyncIter x else adK x)
      let _<-afl (.compStart (.ListComp E g s p) (b+1) f a e) e
      aeh (.compLoop (.ListComp E g s p) b i a e)
     |none=>do
      (do let _<-call (.builtin "list.append") [a,<-eval E e])
      aeh (.compLoop (.ListComp E g s p) b i a e)
    else aeh (.compLoop (.ListComp E g s p) b i a e)):=by
 unfold compTurn;dsimp only;refine aa h ?_
 kernel_rfl
def OG{A B C D E:Sort _}{p:A->B->C->D->E->Prop}(a:A)(b:B)(c:C)(d:D)(e:E)(q:p a b c d e):∃a b c d e,p a b c d e:=⟨a,b,c,d,e,q⟩
section
variable{Y:Wq}{C:Cl}{d:Nat}
def nG(Y:Wq)(C:Cl)(d:Nat):List PG->Prop
 |[]=>True
 |.mk _ i I::rest=>Hk Y C d i/\JX Y C d I/\nG Y C d rest
abbrev gB(Y:Wq)(C:Cl)(e:PE)(t:PT)(i:List PE)(rest:List PG)(ρ:Ev):D->UT->(List D->UT->Prop)->Prop:=λx σ K=>ok (dM ρ t x) λρ=>vA Y.T C i ρ σ λb σ=>match b with
 |true=>vG Y.T C (λρ σ K=>vE Y.T C e ρ σ λv σ=>ok (Vf v) λx=>K [x] σ) rest ρ σ K
 |false=>K [] σ
def CR(Y:Wq)(D:Addr)(fr:List Addr)(k:Ks)(env:Env)(ρ:Ev)(s:adx)(P:aF)(w:List Addr)(base:List Mm.D)(Q:List Mm.D->UT->Prop)(r:aeF)(T:adx):Prop:=
 r=.ok .next/\∃p c a us n,Gd Y.toWd T (cH D p) c/\En Y.toWd T.heap (cH D p) fr k env ρ/\T.heap.get? D=some {cls:=.type "list",data:=.seq us.toArray n}/\
  bL Y.W T.heap (own<|cH D p) us (base++a)/\a.length<=lim/\
  (∀h t,Step (D::fr) h (cH D t) s.heap (cH D P)->(∀b∈w,h.get? b=none)->Step (D::fr) h (cH D t) T.heap (cH D p))/\Q a c
def mq:∀(t:PT){b c:Ev}{x:D},dM b t x=some c->∀y,y∉t.EB->UY c y=UY b y:=by
 refine @PT.rec (λt=>∀{b c:Ev}{x:D},dM b t x=some c->∀y,y∉t.EB->UY c y=UY b y) (λT=>∀{b c:Ev}{l:List D},e9 b T l=some c->∀y,y∉Fs T->UY c y=UY b y) ?_ ?_ ?_ ?_
 ·intro i b c x h y a
  obtain rfl:=Wn h;rw[dG,agP λe:y=i=>a<|Wj.mpr e]
 ·intro T I b c x h y a
  obtain _|_|_|_|_|_|l|l:=x;iterate 6 exact no h
  iterate 2 exact I h y a
 ·intro b c l h y a
  obtain _|_:=l
  ·exact(Wn h)▸rfl
  ·exact no h
 ·intro t T m J b c l h y a
  obtain _|⟨d,l⟩:=l
  ·exact no h
  ·have h:(match dM b t d with|some c=>e9 c T l|none=>none)=some c:=h
   rcases Q:dM b t d with _|k
   ·rw[Q] at h;exact no h
   ·rw[Q] at h
    exact aa (J h y λq=>a<|XE _ q) (aa (m Q y λq=>a<|W6 _ q) rfl)
def Clear(ρ:Ev)(p:List PG):Prop:=∀y∈p.flatMap Gu,UY ρ y=none
def iR(i:g[l]?=some ⟨t,b,c,0⟩)
  (f:∀(K:Value->adx->Prop)(E:Value->adx->Prop),K (.ref I) s->adA (adB p w) A (adK (.ref I)) K E s) (h:adR (adB p w) A (.compLoop (.ListComp k g r m) l (.ref I) a e) R s):
  adR (adB p w) A (.compStart (.ListComp k g r m) l (.ref I) a e) R s:=by
 refine aeI<|wpAny_notedAt ?_;delta compStart;refine aa i (adw<|aeB<|wpAny_ite ?_)
 split
 ·first
   |exact adw (ady<|ady<|abw rfl h)
   |exact ady (abw rfl h)
 ·first
   |exact adw (adZ<|adw<|adG<|adw<|f _ _<|ady<|abw rfl h)
   |(refine adw<|adZ ?_;show adA _ _ (standAt b.pos>>=_) _ _ s;exact adw<|adG<|adw<|f _ _<|ady<|abw rfl h)
def Hw:∀{g:List ad2},cG c z k [] g->g=[]
 |[],_=>rfl
def pW:∀{g:List ad2},cG c z k (.mk t i I::r) g->
  ∃T A b G,g=⟨T,A,b,0⟩::G/\cT c k t T/\cI c z i A/\jF i t/\eQ c k I b/\cG c k k r G=true
 |⟨T,A,b,a⟩::G,h=>⟨T,A,b,G,by exact aa (agQ.mp (I5 h).1) rfl,(I5 h).2⟩
def rS(h:jF i t)(m:cT c k t I):yr i->VP I:=by
 intro a;obtain x|T:=t
 ·obtain _|_|_|_:=i
  iterate 2 exact Ws a
  iterate 2 exact Ws h
 ·exact zq m λ_ _ _ _=>rfl
def oZ(h:cI c k i x):afT x f u=pure u:=by
 have m:BO x:=by
  obtain e|E|⟨a,b⟩|a:=i
  ·exact(ew h).1
  ·exact BW h λ_ _ _ _ _=>rfl
  ·exact zX h λ_ _ _ _ _ _ _ _ _=>rfl
  ·exact vt h λ_ _ _ _ _ _=>rfl
 clear h;cases x<;>first|rfl|cases m
noncomputable def mV(y:adz)(gs:List ad2)(sc:aeO)(pos:Pos)(j:Nat)(i a:Value)(env:Env):Sem Fin:=
 match gs[j+1]? with
 |some g=>do
  let x<-eval g.iter env
  standAt g.iter.pos
  let x<-if g.is_async !=0 then agF g.iter x else afT g.iter env x
  let I<-holding [x] (if g.is_async !=0 then asyncIter x else adK x)
  let _<-afl (.compStart (.ListComp y gs sc pos) (j+1) I a env) env
  aeh (.compLoop (.ListComp y gs sc pos) j i a env)
 |none=>do
  (do let _<-call (.builtin "list.append") [a,<-eval y env])
  aeh (.compLoop (.ListComp y gs sc pos) j i a env)
def V5(Y:Wq)(C:Cl)(e:PE)(y:adz)(gs:List ad2)(sc:aeO)(pos:Pos)(k:Ks)(env:Env)(fr:List Addr)(A:adC)(D:Addr)(j:Nat)(rest:List PG):Prop:=
 ∀(i:Value)(ρ:Ev)(base:List Mm.D)(us:List Value)(n:Nat)(s:adx)(P:aF)(σ:UT)(K:List Mm.D->UT->Prop)(KK:Fin->adx->Prop)(E:Value->adx->Prop),Clear ρ rest->base.length<=(j+1)*lim->Gd Y.toWd s (cH D P) σ->
  En Y.toWd s.heap (cH D P) fr k env ρ->s.heap.get? D=some {cls:=.type "list",data:=.seq us.toArray n}->bL Y.W s.heap (own<|cH D P) us base->
  vG Y.T C (λρ σ K=>vE Y.T C e ρ σ λv σ=>ok (Vf v) λx=>K [x] σ) rest ρ σ K->
  (∀b c p a u N,Gd Y.toWd c (cH D p) a->En Y.toWd c.heap (cH D p) fr k env ρ->c.heap.get? D=some {cls:=.type "list",data:=.seq u.toArray N}->bL Y.W c.heap (own<|cH D p) u (base++b)->
   Step (D::fr) s.heap (cH D P) c.heap (cH D p)->K b a->adA (adB Y.prog Y.w) A (aeh<|.compLoop (.ListComp y gs sc pos) j i (.ref D) env) KK E c)->
  adA (adB Y.prog Y.w) A (mV y gs sc pos j i (.ref D) env) KK E s
def pv(S:Step j h (cH L P) G p):∃a,p=cH L a:=af S.pre λR e=>by
 clear S;subst e;exact⟨P++R,rfl⟩
def mX{y:adz}{gs:List ad2}(R:bU A d)(cp:L∉j)
  {ax:List PG} (hB:V5 Y C a0 y gs sc al k p j A L B ax) {bi:List PE} {a8 bl:adz} {cb:List adz} (hg:gs[B]?=some ⟨a8,bl,cb,0⟩) (dL:cT Y.c k t a8) (a:jF it t)
  (eb:eQ Y.c k bi cb) (hA:JX Y C d bi) {I:Addr} {l:List Mm.D} {wr:List Addr} {At:Nat->Heap->aF->Prop} {ca:Nat->Value->Heap->aF->Prop} (W:CZ Y.toWd A I l ap wr (yr it) At ca) (bv:∀b∈wr,b∉j) (ch:L∉wr) {base:List Mm.D} (a9:Clear em (.mk t it bi::ax)) (cc:((PG.mk t it bi::ax).flatMap Gu).Nodup) (ci:base.length<=B*lim):
  ∀(f:List Mm.D)(i:Nat)(ac:List Mm.D)(us:List Value)(n:Nat)(s:adx)(P:aF)(u:UT)(Q:List Mm.D->UT->Prop),l.drop i=f->i<=l.length->Gd Y.toWd s (cH L P) u->En Y.toWd s.heap (cH L P) j k p em->
   At i s.heap (cH L P)->dx ap l u->s.heap.get? L=some {cls:=.type "list",data:=.seq us.toArray n}->bL Y.W s.heap (own<|cH L P) us (base++ac)->ac.length<=lim->
   bb ap l (gB Y C a0 t bi ax em) f ac u Q->adR (adB Y.prog Y.w) A (.compLoop (.ListComp y gs sc al) B (.ref I) (.ref L) p) (CR Y L j k p em s P wr base Q) s:=by
 intro f
 induction f with
 |nil=>
  intro i ac us n s P u Q g hi G N bm st hD rd dJ h;have dV:i=l.length:=by
   have:=agN Ys g;rw[YR] at this;simp at this;exact BP this hi
  clear g hi;subst dV;refine aeI<|wpAny_noted<|aa (kq hg) ?_;have ar:=W.off bm;have bu:=(G.gY L Wr).1;exact adw<|adG<|adw<|W.done bm G st _ _ λU G' xo=>ady<|⟨rfl,OG P u ac us n ⟨G',xo.en ar bv N,xo L _ ch bu hD,rd.stays<|xo.stays ar,dJ,λh0 P0 S z=>xo.step ar G' S z,h⟩⟩
 |cons x f o=>
  intro i ac us n s P u Q g hi G N bm st hD rd dJ h;have db:l[i]?=some x:=by
   have:=agN aa3 g;rw[aae] at this;simpa using this
  have de:l.drop (i+1)=f:=by
   have:=agN ack g;simpa [aa2] using this
  have aw:=(Xb.mp db).1;have bu:=(G.gY L Wr).1;refine ed h λam T h=>?_;have el:∀y v,UY em y=some v->UY am y=some v:=λy v e=>by
   have M:y∉t.EB:=λq=>by
    have:=a9 y (by exact aa XO<|W6 _ q);rw[this] at e;cases e
   exact aa (mq t T y M) e
  have ek:Clear am ax:=λy M=>by
   rw[XO] at cc;have dz:y∉t.EB:=λq=>(Zq.mp cc).2.2 y q y M rfl;exact aa (mq t T y dz)<|a9 y (by exact aa XO<|XE _ M)
  refine aeI<|wpAny_noted<|aa (kq hg) ?_;have ar:=W.off bm;refine adw<|adG<|adw<|W.next bm G st db _ _ λv s1 G1 x1 rv hm=>?_
  have df:=W.tm hm;have N1:=x1.en ar bv N;have c4:=x1 L _ ch bu hD;have d5:=rd.stays<|x1.stays ar;refine adw<|W.go hm G1 (rS a dL) _ _ λs2 G2 x2 d4=>?_;have N2:=x2.en df bv N1;have c5:=x2 L _ ch bu c4;have d6:=d5.stays<|x2.stays df;refine adw<|gF t R.handled dL G2 N2 (x2.dr df rv) T λs3 G3 S3 N3=>?_;have ce:=S3.dH L _ bu cp c5;have d8:=d6.stays S3.stays;have c3:=W.step d4 S3 bv;have T3:∀h0 P0,Step (L::j) h0 (cH L P0) s.heap (cH L P)->(∀b∈wr,h0.get? b=none)->Step (L::j) h0 (cH L P0) s3.heap (cH L P):=λh0 P0 S z=>
   (x2.step df G2 (x1.step ar G1 S z) z).trans (S3.weaken λb T=>Wu _ T)
  refine adw<|hA eb R G3 N3 h _ _ λb b' s4 P4 dt G4 S4 rb J=>?_;subst rb;refine af (pv S4) λP4 E=>?_;subst E;have c6:=S4.dH L _ bu (by simp) ce;have d0:=d8.stays S4.stays;have cr:=W.step c3 S4<|by simp
  have N4:=N3.step S4;have T4:∀h0 P0,Step (L::j) h0 (cH L P0) s.heap (cH L P)->(∀b∈wr,h0.get? b=none)->Step (L::j) h0 (cH L P0) s4.heap (cH L P4):=λh0 P0 S z=>(T3 h0 P0 S z).trans<|S4.weaken<|by simp
  have next:∀ds U P' ag cl n',Gd Y.toWd U (cH L P') ag->En Y.toWd U.heap (cH L P') j k p am->U.heap.get? L=some {cls:=.type "list",data:=.seq cl.toArray n'}->bL Y.W U.heap (own<|cH L P') cl (base++ac++ds)->
    Step (L::j) s4.heap (cH L P4) U.heap (cH L P')->dx ap l ag/\(rO (W2 (ac++ds).length lim)<|bb ap l (gB Y C a0 t bi ax em) f (ac++ds) ag Q)->
    adR (adB Y.prog Y.w) A (.compLoop (.ListComp y gs sc al) B (.ref I) (.ref L) p) (CR Y L j k p em s P wr base Q) U:=by
   intro ds U P' ag cl n' G' N' cn co m q;refine ak q λcd q=>ak (lx q) λbe q=>?_;have ea:=W.step cr m λb T hm=>by
    clear cp hB o G N bm hD rd bu ar G1 x1 rv df N1 c4 d5 G2 x2 d4 N2 c5 d6 G3 S3 N3 ce d8 c3 T3 G4 S4 c6 d0 cr N4 T4 G' N' cn co m;obtain rfl|hm:=Wo.mp hm
    ·exact ch T
    ·exact bv b T hm
   exact afm (o (i+1) (ac++ds) cl n' U P' ag Q de aw G' (N'.less el) ea cd cn (by rw[<-Xq];exact co) (XD.mp be) q) λr s5 hr=>dN hr λe P5 bn cs dm n5 a1 a2 a3 a4 a5 a6 a7=>⟨e,OG P5 bn cs dm n5 ⟨a1,a2,a3,a4,a5,λh0 P0 S z=>a6 h0 P0 ((T4 h0 P0 S z).trans m) z,a7⟩⟩
  obtain _|_:=b
  ·refine aa (agP X1) ?_
   refine ady ⟨rfl,next [] s4 P4 dt us n G4 N4 c6 (by simpa using d0) (Step.refl ..) J⟩
  ·refine aa (agO rfl) ?_
   refine hB (.ref I) am (base++ac) us n s4 P4 dt _ _ _ ek ?_ G4 N4 c6 d0 J λds U P' ag cl n' G' N' cn co m q=>?_
   ·rw[Wv,Nat.succ_mul];exact Yh ci dJ
   ·exact ady ⟨rfl,next ds U P' ag cl n' G' N' cn co m q⟩
end
def L2.stays{o:List Addr}{d:List Mm.D}(r:L2 (DR W h j) J d)(S:bq h j G o):L2 (DR W G o) J d:=bL.stays S r
section
variable{Y:Wq}{C:Cl}{d:Nat}
def D9{y:adz}{gs:List ad2}(hE:dc Y C d ap)(hy:cE Y.c k ap y)(R:bU A d)(ca:L∉j):
  ∀(al:List PG),nG Y C d al->∀(ch:List ad2)(db:Nat),db+al.length<=7->gs.drop (db+1)=ch->cG Y.c k k al ch->(al.flatMap Gu).Nodup->V5 Y C ap y gs sc pos k env j A L db al:=by
 intro al
 induction al with
 |nil=>
  intro _ ch db hj ci p _ it c6 am us n s P t K KK E ax Q G N hD rd h hK;have e0:=Hw p;clear p;subst e0;have hg:gs[db+1]?=none:=by
   have:=agN aa3 ci;rw[aae] at this;exact this
  unfold mV;refine aa hg ?_;have be:=(G.gY L Wr).1;refine adw<|adw<|hE hy R G N h _ E λu v T P' ac G' S r q=>ed q λx e1 q=>?_;obtain rfl:=aL e1;obtain⟨P',rfl⟩:=pv S;have bu:=S.dH L _ be (by simp) hD;have bv:=rd.stays S.stays;have aw:us.length<=sizeLine:=by
   refine aa rd.length<|aa adJ ?_;have:(db+1)*lim<=8*lim:=abU _<|WB<|tM hj;unfold lim at*;exact Wh Q<|cy this rfl
  refine adw<|agn ⟨n,bu⟩ (λJ a0 ar=>?_) (by exact aa WN aw);obtain⟨n',a0⟩:=a0;have e2:us.toArray.push u=(us++[u]).toArray:=by simp
  rw[e2] at a0;have kk:∀b o,b≠L->T.heap.get? b=some o->J.get? b=some o:=λb o Q e=>ar.extBut b o Q e;have S2:=AS (P:=P') kk ⟨_,a0⟩;refine ady<|hK [x] {T with heap:=J} P' ac (us++[u]) n' (y9 G' kk ⟨_,a0⟩) ((N.step S).NV S2 λb Q=>by exact aa (Wj.mp Q)<|jo L P') a0 ?_ ?_ q
  ·exact(bv.append<|.cons r.dd .nil).stays S2.stays
  ·exact(S.weaken<|by simp).trans (S2.weaken λb Q=>by exact aa (Wj.mp Q) Wr)
 |cons g2 cs i=>
  intro hO ch db hj ci p bm it c6 am us n s P t K KK E ax Q G N hD rd h hK;obtain⟨t2,c5,c4⟩:=g2;refine aC hO λhI hA cl=>hV (pW p) λc3 cr cp Ol f m z a g h5=>?_;clear p;subst f;have hg:gs[db+1]?=some ⟨c3,cr,cp,0⟩:=by
   have:=agN aa3 ci;rw[aae] at this;simpa using this
  have cn:gs.drop (db+1+1)=Ol:=by
   have:=agN ack ci;simpa [aa2] using this
  have co:(cs.flatMap Gu).Nodup:=by
   rw[XO] at bm;exact(Zq.mp bm).2.1
  have hB:=i cl Ol (db+1) (by simp at hj;exact mz hj) cn h5 co;unfold mV;refine aa hg ?_;have be:=(G.gY L Wr).1;refine adw<|aeE (hI z R G N h (λcd T=>adA (adB Y.prog Y.w) A (do
   let _<-afl (.compStart (.ListComp y gs sc pos) (db+1) cd (.ref L) env) env
   aeh (.compLoop (.ListComp y gs sc pos) db it (.ref L) env)) KK E T) E λu T hr=>?_) (λu s1 hu=>?_) λ_ _ e=>e
  ·refine c9 hr λI l ag wr At bl P' ac f G' S B W a8 st q=>?_;clear hr;subst f
   obtain⟨P',rfl⟩:=pv S;have bu:=S.dH L _ be (by simp) hD;have bv:=rd.stays S.stays;have bi:∀b∈wr,b∉j:=λb Q hf=>by
    obtain⟨o,e⟩:=(N.eC b hf).2.2.1;rw[B b Q] at e;cases e
   have bn:L∉wr:=λU=>by rw[B L U] at hD;cases hD
   refine adw<|agG<|iR hg ((W A R.handled).self a8)<|afm (mX R ca hB hg m a g hA (W A R.handled) bi bn ax bm Q l 0 [] us n T P' ac K rfl (Wz _) G' (N.step S) a8 st bu (by simpa using bv) (Wz _) q) λr s5 cc=>?_;refine dN cc λf P5 a9 cb ce n5 a1 a2 a3 a4 a5 a6 a7=>?_;clear cc;subst f;exact hK cb s5 P5 a9 ce n5 a1 a2 a3 a4 (a6 s.heap P (S.weaken<|by simp) B) a7
  ·exact adw (adG<|aa (oZ z)<|adw<|ady<|adw<|adD hu)
noncomputable def ni(env:Env):List (Str×NameKind)->List (Str×Addr)->List (Str×Addr)
 |[],a=>a
 |(n,k)::r,a=>if k==.free then ni env r ((n,(env.cells.lookup n).getD 0)::a) else ni env r a
def BQ:ni e ((n,.free)::r) a=ni e r ((n,(e.cells.lookup n).getD 0)::a):=rfl
def zw(h:k≠ .free):ni E ((n,k)::r) a=ni E r a:=agP λe=>h<|agQ.mp e
def kG(h:∀x,(x,NameKind.free)∈s.names->∃c,E.cells.lookup x=some c):closureFor s E=pure (ni E s.names []):=by
 unfold closureFor;have:∀(N:List (Str×NameKind))(A:List (Str×Addr)),(∀x,(x,NameKind.free)∈N->∃c,E.cells.lookup x=some c)->
   (forIn N A λx (z:List (Str×Addr))=>if (x.2==NameKind.free)=true then do let a<-cellOf E x.1;pure (ForInStep.yield<|(x.1,a)::z) else pure (ForInStep.yield z))=(pure (ni E N A):Sem _):=by
  intro N
  induction N with
  |nil=>intro A _;rfl
  |cons p r i=>
   obtain⟨n,k⟩:=p;intro A g;rw[ZE];have l:∀x,(x,NameKind.free)∈r->∃c,E.cells.lookup x=some c:=λx Q=>g x<|Wu _ Q;by_cases M:k=.free
   ·subst M
    refine af (g n Wr) λc m=>?_;rw[BQ];simp only[agW,if_true];have:cellOf E n=pure c:=by unfold cellOf;exact aa m rfl
    refine aa this<|aa m ?_;exact i _ l
   ·have t:=agV.mpr M
    refine aa (zw M) ?_;simp only[t,aav,if_false,pure_bind];exact i _ l
 have e:=this s.names [] h
 first
  |exact e
  |(simp only[bind_pure];exact e)
def Qm(env:Env)(n:List (Str×NameKind))(a L:List (Str×Addr)):Prop:=
  (∀x c,L.lookup x=some c->env.cells.lookup x=some c)/\(∀x,((x,NameKind.free)∈n\/(a.lookup x).isSome)->∃c,L.lookup x=some c)
def xW(E:Env):∀(N:List (Str×NameKind))(a:List (Str×Addr)),(∀x c,a.lookup x=some c->E.cells.lookup x=some c)->(∀x,(x,NameKind.free)∈N->∃c,E.cells.lookup x=some c)->
  Qm E N a (ni E N a):=by
 intro z
 induction z with
 |nil=>
  intro a h t;exact⟨h,λx g=>by
   obtain g|g:=g
   ·simp at g
   ·exact Ye.mp g⟩
 |cons y r i=>
  obtain⟨n,k⟩:=y;intro a h t;have l:∀x,(x,NameKind.free)∈r->∃c,E.cells.lookup x=some c:=λx Q=>t x<|Wu _ Q;by_cases M:k=.free
  ·subst M
   refine af (t n Wr) λc m=>aa BQ<|aa m ?_;refine ak (i ((n,c)::a) (λx o e=>by
    rw[Xg] at e;cases p:x==n with
    |true=>rw[p] at e;cases e;exact aa (agQ.mp p) m
    |false=>rw[p] at e;exact h x o e) l) λI A=>⟨I,λx g=>A x ?_⟩
   by_cases b:x=n
   ·clear t m I A g;subst b;right;simp [Xg]
   ·obtain g|g:=g
    ·obtain e|g:=Wo.mp g
     ·clear g;cases e;exact agR rfl b
     ·exact .inl g
    ·right
     have:(x==n)=false:=agV.mpr b;refine aa Xg<|aa this ?_;exact g
  ·refine aa (zw M) (ak (i a h l) λI A=>⟨I,λx g=>A x ?_⟩)
   obtain g|g:=g
   ·obtain e|g:=Wo.mp g
    ·clear g t;cases e;exact agR rfl M
    ·exact .inl g
   ·exact .inr g
def ik(L:Ev)(f:List Nat)(x:Nat):UY (Vp L f) x=if x∈f then none else UY L x:=by
 induction L with
 |nil=>exact(ite_self _).symm
 |cons p r i=>
  obtain⟨y,v⟩:=p;by_cases b:y∈f
  ·refine(agN (UY · x)<|Zm λe=>?_).trans (i.trans ?_)
   ·exact Ws ((show(!f.contains y)=false by rw[YC.mpr b];rfl).symm.trans e)
   by_cases h:x∈f
   ·rw[agO h,agO h]
   ·rw[agP h,agP h]
    exact(agP λe=>h<|(show y=x from eq_of_beq e)▸b).symm
  ·refine(agN (UY · x)<|Zl ?_).trans ?_
   ·cases q:f.contains y with
    |true=>exact agR (YC.mp q) b
    |false=>rfl
   by_cases w:y=x
   ·subst w
    exact(agO<|agW y).trans ((agP b).trans<|agO<|agW y).symm
   ·exact(agP λe=>w<|eq_of_beq (a:=y) e).trans (i.trans<|agN (λo=>if x∈f then none else o) (agP λe=>w<|eq_of_beq (a:=y) e).symm)
end
section
variable{Y:Wq}{C:Cl}{d:Nat}
def nK{b:Str->NameKind->Bool}:∀{N:List (Str×NameKind)},N.lookup x=some k->(N.map λp=>if b p.1 p.2=true then (p.1,NameKind.cell) else (p.1,p.2)).lookup x=if b x k=true then some .cell else some k:=by
 intro N
 induction N with
 |nil=>exact λh=>no h
 |cons p r i=>
  obtain⟨n,z⟩:=p;intro h;rw[Xg] at h;rw[X3];rcases g:x==n with _|_
  ·rw[g] at h
   rcases Q:b n z with _|_
   ·show Zv x ((n,z)::_)=_;refine aa Xg<|aa g ?_;exact i h
   ·show Zv x ((n,NameKind.cell)::_)=_;refine aa Xg<|aa g ?_;exact i h
  ·rw[g] at h
   cases h;obtain rfl:=agQ.mp g;rcases Q:b x k with _|_
   ·show Zv x ((x,k)::_)=some k;exact aa Xg<|aa g rfl
   ·show Zv x ((x,NameKind.cell)::_)=some NameKind.cell;rw[Xg,g]
def lZ{e:Env}:∀{N:List (Str×NameKind)}{x:Str}{k:NameKind},N.lookup x=some k->
  (N.map λ(n,k)=>if (k==NameKind.free&&e.scope.kind==.function&&e.kindOf n==some .cell) then (n,NameKind.cell) else (n,k)).lookup x=some k\/(k=.free/\(N.map λ(n,k)=>if (k==NameKind.free&&e.scope.kind==.function&&e.kindOf n==some .cell) then (n,NameKind.cell) else (n,k)).lookup x=some .cell):=by
 intro N x k h;have g:=nK (b:=λn k=>k==NameKind.free&&e.scope.kind==.function&&e.kindOf n==some .cell) h;rcases Q:(k==NameKind.free&&e.scope.kind==.function&&e.kindOf x==some .cell) with _|_
 ·exact .inl (g.trans<|agP<|by exact aa Q X1)
 ·exact .inr ⟨agQ.mp (WE.mp (WE.mp Q).1).1,g.trans<|agO Q⟩
def rq{Z:Wd}{h:Heap}{P:aF}{s:aeO}{E e0:Env}{L:Ev}(N:En Z h P j s.names E L)(g:E.scope=s):En Z h P j s.names {E with scope:=afn s e0} L:=by
 have Q:∀{x k},s.names.lookup x=some k->(acf {E with scope:=afn s e0} x=some k)\/(k=.free/\acf {E with scope:=afn s e0} x=some .cell):=λe=>lZ e;have r:s.kind=.function:=by exact av g N.kind
 refine⟨r,N.globals,N.builtins,λx e=>?_,λx e=>⟨?_,(N.CX x e).2⟩,λx e=>⟨?_,(N.xN x e).2⟩,λx e=>?_,N.ns,N.cells,N.de,N.apart,N.eH,N.eC⟩
 ·obtain q|⟨q,_⟩:=Q e
  ·exact q
  ·cases q
 ·obtain q|⟨q,_⟩:=Q e
  ·exact q
  ·cases q
 ·obtain q|⟨_,q⟩:=Q e
  ·exact .inr q
  ·exact .inl q
 ·obtain q|⟨q,_⟩:=Q e
  ·exact q
  ·cases q
def xf(h:md c k f s):s.kind=.function/\(s.names.map (·.1)).Nodup/\(∀x kd,s.names.lookup x=some kd->(kd=.local\/kd=.cell)->x=(".0":Str)\/∃y∈f,c.nm y=x)/\(∀x,s.names.lookup x=some .free->k.lookup x=some .cell\/k.lookup x=some .free):=by
 unfold md at h;refine aC (kB h) λm t a=>?_;have m:=agQ.mp m;have t:=OE t;have a:=Wt.mp a;refine⟨m,t,λx kd e M=>?_,λx e=>?_⟩
 ·have:=a (x,kd)<|(mem_lookup t).mpr e
  clear e;obtain rfl|rfl:=M
  ·obtain this|this:=XF.mp this
   ·exact .inl (Fast.sEq_iff.mp this)
   ·exact ae (WR.mp this) λy b e=> .inr ⟨y,b,Fast.sEq_iff.mp e⟩
  ·exact ae (WR.mp this) λy b e=> .inr ⟨y,b,Fast.sEq_iff.mp e⟩
 ·have:=a (x,.free)<|(mem_lookup t).mpr e
  exact(XF.mp this).imp Ju Ju
def xd:∀(t:PT){x:adz},cT c k t x->∀y∈t.EB,k.lookup (c.nm y)=some .local\/k.lookup (c.nm y)=some .cell:=by
 refine @PT.rec (λt=>∀{x:adz},cT c k t x->∀y∈t.EB,k.lookup (c.nm y)=some .local\/k.lookup (c.nm y)=some .cell) (λT=>∀{f:List adz},FT c k T f->∀y∈Fs T,k.lookup (c.nm y)=some .local\/k.lookup (c.nm y)=some .cell) ?_ ?_ ?_ ?_
 ·exact λi x h y a=>xb h λ_ h=>Wj.mp a▸h
 ·exact λT I x h y a=>zq h λ_ _ _ h=>I h y a
 ·exact λ_ y a=>(WW a).elim
 ·intro t T n J f h y a
  obtain _|⟨x,f⟩:=f
  ·exact Ws h
  ·exact gA h λm u=>(WH.mp a).elim (n m y)<|J u y
def zY{t:PT}{x:adz}(h:cT c k t x):∀y∈t.EB,k.lookup (c.nm y)=some .local\/k.lookup (c.nm y)=some .cell:=xd t h
def B7:∀{E:List PG}{G:List ad2},cG c z k E G->∀y∈E.flatMap Gu,k.lookup (c.nm y)=some .local\/k.lookup (c.nm y)=some .cell:=by
 intro E
 induction E generalizing z with
 |nil=>intro G _ y b;simp at b
 |cons g r i=>
  intro G h y b;obtain⟨t,I,L⟩:=g;refine nJ (pW h) λT A f j m u a e J=>?_;rw[XO] at b;obtain b|b:=WH.mp b
  ·exact zY m y b
  ·exact i J y b
section
variable{Z:Wd}{h j f:Heap}{P m g:aF}{k l:UT}{D c:Addr}{i X:List Addr}
def j2(b:∀o x n,h.get? c=some o->o.data≠ .seq x n)(e:Yw c h j):bq h (own P) j (own P):=λa o G p ⟨x,n,r⟩=>⟨(e.2 a λq=>by clear e;subst q;exact b o x n p r).trans p,G⟩
def qV(G:Gt Z h z T P k)(s:c∉own P)(y:Z.h₀.get? c=none)(v:∀o x n,h.get? c=some o->o.data≠ .seq x n)(w:Yw c h j):Gt Z j z T P k:=by
 refine⟨λb o e=>(w.2 b λq=>by rw[q,y] at e;cases e).trans (G.base b o e),G.len,λn p o a u=>?_,G.apart,G.off,λb Q=>?_,G.os,G.gs⟩
 ·exact(G.obj n p o a u).stays (w.2 _ λq=>s<|q▸g9 a) (w.2 _ λq=>s<|q▸nO a) (j2 v w) λ_ _ e=>e
 ·exact cM (G.gY b Q) λr o t=>⟨r,o,(w.2 b λq=>s<|q▸aD.mpr (.inr Q)).trans t⟩
def rI(S:Step i f g h P)(u:f.get? c=none)(r:∀o x n,h.get? c=some o->o.data≠ .seq x n)(s:Yw c h j):Step i f g j P:=by
 have N:∀b o,f.get? b=some o->b≠c:=λb o e q=>by rw[q,u] at e;cases e
 refine⟨S.pre,λb o p t e=>(s.2 b<|N b o e).trans<|S.dH b o p t e,λb o e=>?_,S.gX,λa o G e v=>?_⟩
 ·exact af (S.live b o e) λy E=>⟨y,(s.2 b<|N b o e).trans E⟩
 ·exact ak (S.stays a o G e v) λp t=>⟨(s.2 a<|N a o e).trans p,t⟩
def u3(S:Step i f g h P)(r:f.get? D=none):Step i f (cH D g) h (cH D P):=by
 refine af S.pre λR Q=>⟨⟨R,by refine aa Q ?_;rfl⟩,S.dH,S.live,S.gX,λa o G e p=>?_⟩;exact ak (S.stays a o (kP G) e p) λn t=>⟨n,jh t λq=>by rw[q,r] at e;cases e⟩
def r7(S:Step X f (cH D g) h (cH D P))(e:f.get? D=none)(L:∀b∈X,b∈i\/f.get? b=none):Step i f g h P:=by
 have:=Step.cH (Step.refl i f g) S L e;exact this
end
def Az(hO:nG Y C d ap)(hE:dc Y C d aw){Q:V->UT->Prop}{ea:Option (Value->Sem Unit)}{E:Value->adx->Prop}
  (hc:cE Y.c k (.lc xs aw ap) (.ListComp y gs sc pos)) (R:bU A d) (G:Gd Y.toWd s P es) (N:En Y.toWd s.heap P fr k env ρ) (h:vE Y.T C (.lc xs aw ap) ρ es Q)
  (hK:∀(D Cl:Addr)(s5:adx)(P5:aF)(bu:UT)(ac:List Mm.D)(m:Str->Option Value),Gd Y.toWd s5 P5 bu->Step [] s.heap P s5.heap P5->DR Y.W s5.heap (own P5) (.ref D) (.lst ac)->s5.heap.Ns Cl m->Cl∉own P5->Y.h₀.get? Cl=none->s.heap.get? Cl=none->
   Q (.d (.lst ac)) bu->compPost (adB Y.prog Y.w) A E ea U (.ref D) Cl (.ok .next) s5):
  adA (adB Y.prog Y.w) A (comprehension (.ListComp y gs sc pos) sc env (firstIterPos gs pos) (newList []) (firstAsync gs) (firstIter gs env) ea) U E s:=by
 ·
  refine HR (show(md Y.c k xs sc&&decide ((ap.flatMap Gu).Nodup)&&W2 ap.length 8&& !ap.isEmpty&&cG Y.c k sc.names ap gs&&cE Y.c sc.names aw y)=true from hc) λc1 c2 c3 c4 c5 c6=>?_
  replace c2:=agS c2
  clear hc;obtain _|⟨g,ar⟩:=ap
  ·exact Ws c4
  obtain⟨t,it,a9⟩:=g;refine aC hO λhI hA dJ=>hV (pW c5) λa0 be ce ch f p J h3 h4 h5=>?_;subst f;refine aV (xf c1) λsk dt d8 d6=>?_;have bn:∀i j,Y.c.nm i=Y.c.nm j->i=j:=λi j e=>Y.W.jD i j<|by exact aa Y.tT e
  have bi:∀z,(sc.names.lookup (Y.c.nm z)=some .local\/sc.names.lookup (Y.c.nm z)=some .cell)->z∈xs:=λz hz=>by
   have:∃y∈xs,Y.c.nm y=Y.c.nm z:=by
    obtain q|q:=hz
    ·exact(d8 _ _ q<|.inl rfl).resolve_left (Y.dot z)
    ·exact(d8 _ _ q<|.inr rfl).resolve_left (Y.dot z)
   refine ae this λw a e=>av (bn _ _ e) ?_;exact a
  have el:Clear (Vp ρ xs) (.mk t it a9::ar):=λz hz=>by
   rw[ik,agO<|bi z<|B7 c5 z hz]
  have d5:∀x,(x,NameKind.free)∈sc.names->∃c,env.cells.lookup x=some c:=λx L=>by
   obtain q|q:=d6 x<|(mem_lookup dt).mp L
   ·exact kO (N.CX x q) λ_ c hc _=>⟨c,hc⟩
   ·exact(N.xN x q).2
  refine ak (xW env sc.names [] (λx c e=>by simp at e) d5) λJZ dV=>?_;have N0:En Y.toWd s.heap P fr k env (Vp ρ xs):=N.less λx v e=>by
   rw[ik] at e
   split at e
   ·cases e
   ·exact e
  refine wpAny_comprehension_free rfl (λx=>oZ J) (kG d5) sk (λx L M=>by
   obtain⟨n,kd⟩:=x;have M:=M;subst M;exact(mem_lookup dt).mp L)<|hI J R G N0 h _ E λu ax hr=>c9 hr λI l al wr At cc P2 bm f G2 S2 a W bl st q=>?_;clear hr;subst f
  refine adT ?_;have cb:=bX ax.heap;generalize hH:ax.heap.push {cls:=.type "list",data:=.seq ([]:List Value).toArray}=H3;have cr:Kp ax.heap H3:=by exact av hH<|Kp.push _ _
  have ci:H3.get? ax.heap.objs.size=some {cls:=.type "list",data:=.seq ([]:List Value).toArray}:=by exact av hH<|WA _ rfl
  generalize hDe:ax.heap.objs.size=D at cb ci;have G3:=vk G2 cr cb ⟨_,ci⟩;have N3:=B4 (N0.step S2) cr cb;have a8:Co Y.W H3 (cH D P2) sc.names (ni env sc.names []) (Vp ρ xs):=by
   refine⟨λx e=>dV x<|.inl<|(mem_lookup dt).mpr e,λx c e=>N3.de x c<|JZ x c e,λx y c e e'=>N3.apart x y c (JZ x c e)<|JZ y c e',λx v hv hf=>?_,λx v hv=>?_⟩
   ·refine aq (N3.cells x v hv<|d6 _ hf) λc u e1 e2 e3=>af (dV (Y.W.nm x)<|.inl<|(mem_lookup dt).mpr hf) λc' e4=>?_
    have:=JZ _ _ e4;rw[e1] at this;cases this;exact⟨c,u,e4,e2,e3⟩
   ·rw[ik] at hv
    have L:x∉xs:=λq=>by rw[agO q] at hv;cases hv
    exact aa Y.tT<|⟨λq=>L<|bi x<|.inl q,λq=>L<|bi x<|.inr q⟩
  refine aa N.globals<|wj (xs:=[]) (us:=[]) (vs:=[]) (ρ:=Vp ρ xs) G3 rfl sk dt a8 (λx L=>by simp at L) (λe he=>by cases he;exact N.builtins) .nil rfl λdL eq d4 G4 S4 N4 cd ep _ _ _=>?_;have eb:=rq (e0:=env) N4 ep;have Wa:=W A R.handled;have am:=Wa.off bl;have co:D∉d4:=λhm=>by have:=cd D hm;rw[show({ax with heap:=H3}:adx).heap=H3 from rfl,ci] at this;cases this
  have ca:∀b∈wr,b∉d4:=λb et hm=>by
   refine dS (am b et) λ_ _ o _ e _=>?_;have:=cd b hm;rw[show({ax with heap:=H3}:adx).heap=H3 from rfl,cr b o e] at this;cases this
  have cl:D∉wr:=λhm=>by
   refine dS (am D hm) λ_ _ o _ e _=>?_;rw[cb] at e;cases e
  have df:=Wa.move bl (lR cr cb) (λ_ _ e=>e) (λb et o e=>cr b o e) λb et=>jh (am b et).1 λq=>cl<|q▸et;have cp:=Wa.step df S4<|by simp
  have bv:=(G3.gY D Wr).1;have dm:=S4.dH D _ bv (by simp) ci;have hB:=D9 (C:=C) (gs:=⟨a0,be,ce,0⟩::ch) (sc:=sc) (pos:=pos) (env:={dL with scope:=afn sc env}) hE c6 R co ar dJ ch 0 (by have:=XD.mp c3;simp at this;exact gy this rfl) rfl h5 (by
   rw[XO] at c2;exact(Zq.mp c2).2.1)
  have d0:∀b,H3.get? b=none->s.heap.get? b=none:=λb e=>by
   rcases e':s.heap.get? b with _|o
   ·rfl
   ·refine af (S2.live b o e') λo' db=>?_
    rw[cr b o' db] at e;cases e
  have cn:s.heap.get? D=none:=by
   rcases e':s.heap.get? D with _|o
   ·rfl
   ·refine af (S2.live D o e') λo' db=>?_
    rw[cb] at db;cases db
  refine iR rfl (Wa.self cp)<|afm (mX (C:=C) (base:=[]) R co hB rfl p h3 h4 hA Wa ca cl el c2 (WC _) l 0 [] [] 0 eq P2 bm _ rfl (Wz _) G4 eb cp st dm .nil (Wz _) q) λr s5 ds=>?_;refine dN ds λf P5 bu cs dz n5 a1 a2 a3 a4 a5 a6 a7=>?_;clear ds;subst f;refine jC a7 λag a7=>?_;have T:=a6 s.heap P (((u3 (S2.trans<|Step.ext cr) cn).trans S4).weaken<|by simp) a;have T':Step [] s.heap P s5.heap P5:=r7 T cn λb et=> .inr (by
   obtain rfl|et:=Wo.mp et
   ·exact cn
   ·exact d0 b (cd b et))
  refine ae a2.ns λm hm _=>aV (a2.eC _ a2.eH) λf1 f2 _ f4=>?_;have em:=d0 _<|cd _ a2.eH;have ek:D∉own P5:=λhm=>by
   obtain hm|hm:=aD.mp hm
   ·exact(a1.gY D Wr).1 hm
   ·rw[T'.ex] at hm
    refine af ((G.gY D hm).2) λo e=>?_;rw[cn] at e;cases e
  refine hK D dL.locals s5 P5 bu cs m (CK a1) T' (.lst ⟨n5,a3⟩ ek ?_ ?_) hm (kP f1) f2 em a7
  ·refine aa a4.length ?_;simpa using XD.mp ag
  ·exact(by simpa using a4:bL Y.W s5.heap (own<|cH D P5) dz cs).stays oP
def iI{h:Heap}{m:Str->Option Value}(Q:h.Ns L m):∀o x n,h.get? L=some o->o.data≠ .seq x n:=bK Q λo E A f b _=>by
 intro y x n e;rw[f] at e;cases e;exact aa b nofun
def Iq{x:List Nat}{J:List PG}(hO:nG Y C d J)(c:dc Y C d ac):dc Y C d (.lc x ac J):=by
 intro e k b f L A s P t Q o R G N h;refine Gq o (λy g w r _ _ _ _ _ _ o=>?_) o
 ·rw[eval_ListComp]
  intro K E v;exact Az hO c o R G N h λD Cl l i z p m B j r5 T n u a q=>⟨m,T,λI U=>v (.ref D) (.d<|.lst p) {l with heap:=I} i z (qV B n u (iI T) U) (rI j a (iI T) U) (.d<|r5.stays<|j2 (iI T) U) q⟩
end
def Vl(x:adz):Bool:= !(WV x.ctorIdx 0||WV x.ctorIdx 5||WV x.ctorIdx 15||vw (Oc x) λa=>Gz a.1.1)
def wM(h:Vl x)(e:Env)(m:Sem Value):aey x e m=(do let v<-m;standAt x.pos;holding [v] (truthy v)):=by
 obtain _|_|_|⟨o⟩|_|_|_|_|_|_|_|_|_|_|_|_|_|_|_|_|_|_|_|_|_|_|_:=x
 ·exact Ws h
 iterate 2 rfl
 ·cases o<;>first|rfl|exact Ws h
 ·rfl
 ·exact Ws h
 iterate 9 rfl
 ·exact Ws h
 all_goals rfl
section
variable{Y:Wq}{C:Cl}{d:Nat}
def qq[Decidable c](h:vw (dite c t λ_=>none) f=true):c:=by
 by_cases q:c
 ·exact q
 ·rw[dif_neg q] at h;exact Ws h
def pT(h:x.ctorIdx=n)(q:(WV n 0||WV n 5||WV n 15||WV n 3)=false):Vl x:=by
 subst h;have a:¬x.ctorIdx=3:=λe=>by rw[e] at q;exact Ws<|(Bool.or_true _).symm.trans q
 unfold Vl;refine aa (show Oc x=none from dif_neg a) (aa ((Zw.mp q).1) ?_);rfl
def JG(h:cE c k (.neg e) x):Vl x:=Bb h λ_ _ _=>by
 rfl
def Dx(i:dc Y C d e)(h:∀{c:Nm}{k:Ks}{x:adz},cE c k e x->Vl x):nh Y C d e:=
 λm R G N a=>nh.of i (wM<|h m) m R G N a
def Fh(f:Nat):dc Y C d (.sup f):=by
 intro x k e o L A s P t Q h;cases h
end
section
variable{a:Program}{w:World}{A:adC}{E:Value->adx->Prop}{s:adx}
def qH(f:s.heap.get? l=some {cls:=.type "list",data:=.seq i m})
  (r:k<0) (h: -(i.size:Int)<=k) (G: -(2^63)<=k)
  (u:Q () {s with heap:=s.heap.update l (Obj.mapSeq (·.setIfInBounds (k+i.size).toNat v))}):
  adA (adB a w) A (ae6 (.ref l) (.int k t) v) Q E s:=by
 have J:s.heap.IsList l i:=⟨_,f,rfl,m,rfl⟩;refine jb (id J) λo f p N Y=>?_;delta ae6
 try with_reducible refine adD ?_
 first|refine adw (ady ?_)|skip
 refine adw<|agv J.typeIs rfl ?_;refine adw (ael J.typeIs agH
  (adL agH J.typeIs entry_list_setitem ?_<|args_list_setitem _ _ _))
 show adA _ _ (Builtin.List.listSubscript? (.int k t)>>=_) _ _ s;refine adw<|wpAny_listSubscript_int (fitsIndex_neg r G) ?_;clear G;have T:=seqIndex_neg r h;have d:=QQ r h;have g:=Array.getElem?_eq_getElem d;clear h;obtain⟨j,rfl⟩:∃j:Nat,k=Int.negSucc j:=by
  obtain n|n:=k
  ·exact agR r (X4.mpr<|YD n)
  ·exact⟨n,rfl⟩
 refine adw<|adw<|adw<|ad3 f Y<|ady<|ady<|aa T ?_;simp only[Y4,g,ab5];refine adw (wpAny_setSeqItemAt f Y ?_)
 first
  |exact adw (ady<|ady ⟨.none,rfl,ady u⟩)
  |exact ady ⟨.none,rfl,ady u⟩
end
def bL.set(U:DR W h o v d):∀{vs:List Value}{l:List D},bL W h o vs l->∀(n:Nat),bL W h o (vs.set n v) (l.set n d):=by
 intro vs l
 induction l generalizing vs with
 |nil=>intro r n;obtain rfl:=r.dZ;exact .nil
 |cons m l i=>
  intro r n;refine aq r.bZ λB p e Q T=>?_;clear r;subst e;obtain _|n:=n
  ·exact .cons U T
  ·exact .cons Q (i T n)
def Jm(Y:Wq)(C:Cl)(d:Nat)(t:PL):Prop:=∀{x:adz}{k:Ks}{env:Env}{fr:List Addr}{ρ:Ev}{A:adC}{s:adx}{P:aF}{σ:UT}{Q:Ev->UT->Prop}{u:Value}{v:V}{K:Unit->adx->Prop}{E:Value->adx->Prop},
 cL Y.c k t x->bU A d->Gd Y.toWd s P σ->En Y.toWd s.heap P fr k env ρ->VR Y.W s.heap P u v->vL Y.T C t v ρ σ Q->
  (∀b p a h,Gd Y.toWd b p a->Step fr s.heap P b.heap p->En Y.toWd b.heap p fr k env h->Q h a->K () b)->adA (adB Y.prog Y.w) A (assign x env u) K E s
section
variable{Y:Wq}{C:Cl}{d:Nat}
def yB{K:Unit->adx->Prop}(y:A.units+30<cLine)(N:Gd Y.toWd aw P2 al)(r':VR Y.W aw.heap P2 ou o)(ax:DR Y.W aw.heap (own P2) iu i)(r:VR Y.W aw.heap P2 u v)
  (e:zF al o i v=some ap) (B:∀s3,Gd Y.toWd s3 P2 ap->Step [] aw.heap P2 s3.heap P2->K () s3):adA (adB Y.prog Y.w) A (ae6 ou iu u) K U aw:=cB e λx j e=>by
 have r:=(aL j▸r).dd;obtain _|m:=o
 ·exact no e
 ·refine ae r'.ll λp a n=>?_;clear r';subst n
  refine cB e λI L e=>?_;obtain l|⟨c,s⟩|_|_:=I
  ·refine cB e λk M e=>ak (fs e) λQ e=>?_
   obtain rfl:=Wn e;refine dF (N.obj m p _ a L) λar h z ag rl=>af z λm' t=>af ((bj M▸ax).cW) λT n=>?_;clear ax;subst n;have ac:h.toArray.size=l.length:=aa WN<|aa rl.length rfl;refine qH t Q.1 (by exact aa ac<|PQ Q.2) (by have:=jW ag;rw[rl.length] at this;exact IH this<|Ji Q.2)<|aa ac (af (o6 (f:=λg=>g.setIfInBounds (k+l.length).toNat u) (vs':=h.set (k+l.length).toNat u) t (List.setIfInBounds_toArray ..)) λm' am=>?_);exact ak (Vh N a L am (YQ ..) (by exact aa List.length_set ag) (bL.set r rl _)) λG3 G=>B _ G3 G
  ·refine ak (fs e) λM e=>?_
   obtain rfl:=Wn e;refine zi N y a L ax r M.1 M.2 _ U λ_ s3 P3 G3 G b=>?_;subst b;exact B s3 G3 G
  all_goals exact no e
def LJ:Jm Y C d (.t t):=by
 intro x k a f L A s P w Q u v K E m R G N r h q;refine ed h λl e h=>?_;have z:=h;have m:=m;clear h;obtain i|U:=t
 ·refine xb m λp M=>?_
  rw[afO];cases e;refine adw<|adG<|adw<|adD<|aem ?_;rw[<-Y.tT] at M ⊢;exact adw<|eF G N M r λT g j b=>aem<|q T P w _ g j b z
 ·clear h;obtain y|n:=v
  ·exact gF _ R.handled m G N r.dd e λT g j b=>q T P w _ g j b z
  ·cases e
def JA(l:dc Y C d e):Jm Y C d (.at e a):=by
 intro x k c f L A s P t Q u v K E m R G N r h q;have h:=h;refine Cs m λo n M b=>?_;have M:a∈Y.W.fld:=by exact aa Y.QH<|YC.mp M
 rw[arm_assign_Attribute];exact adw<|adD<|l b R G N h _ E λou ov T p i g j B y=>ed y λJ w y=>adw<|adG<|adw<|adD<|av Y.tT<|wR g M B (r.step j) w λI z U=>aff<|q I p J L z ((j.trans U).nil f) ((N.step j).step U) y
def El(hE:dc Y C d e)(I:dc Y C d i):Jm Y C d (.sub e i):=by
 intro x k b f L A s P t Q u v K E n R G N r h q;have h:=h;refine ti n λo ix z m w a=>?_;rw[arm_assign_Subscript];refine adw<|adD<|hE w R G N h _ E λou ov T p c g j r' y=>adw<|adD<|I a R g (N.step j) y _ E λiu iv s2 P2 ac G2 U B l=>ed l λam M l=>ed l λag e4 q3=>?_;obtain rfl:=aL M;refine adw<|adG<|adw<|adD ?_;have al:=j.trans U;exact yB R.u G2 (r'.step U) B.dd (r.step al) e4 λs3 G3 J=>aff<|q s3 P2 ag L G3 ((al.trans J).nil f) ((N.step al).step J) q3
end
inductive JT (W:U3) (h:Heap) (P:aF):aep->Fl->Prop
 |next:JT W h P .next .next
 |ret {u:Value} {v:V}:VR W h P u v->JT W h P (.ret u) (.ret v)
def yM(Y:Wq)(C:Cl)(d:Nat)(t:PS):Prop:=∀{x:Stmt}{k:Ks}{env:Env}{fr:List Addr}{ρ:Ev}{A:adC}{s:adx}{P:aF}{σ:UT}{Q:Fl->Ev->UT->Prop}{K:aep->adx->Prop}{E:Value->adx->Prop},
 cS Y.c k t x=true->bU A d->Gd Y.toWd s P σ->En Y.toWd s.heap P fr k env ρ->vS Y.T C t ρ σ Q->
  (∀y f b p a h,Gd Y.toWd b p a->Step fr s.heap P b.heap p->En Y.toWd b.heap p fr k env h->JT Y.W b.heap p y f->Q f h a->K y b)->adA (adB Y.prog Y.w) A (exec x env) K E s
def kF(Y:Wq)(C:Cl)(d:Nat)(ts:List PS):Prop:=∀{xs:List Stmt}{k:Ks}{env:Env}{fr:List Addr}{ρ:Ev}{A:adC}{s:adx}{P:aF}{σ:UT}{Q:Fl->Ev->UT->Prop}{K:aep->adx->Prop}{E:Value->adx->Prop},
 sO Y.c k ts xs=true->bU A d->Gd Y.toWd s P σ->En Y.toWd s.heap P fr k env ρ->da Y.T C ts ρ σ Q->
  (∀x f b p a h,Gd Y.toWd b p a->Step fr s.heap P b.heap p->En Y.toWd b.heap p fr k env h->JT Y.W b.heap p x f->Q f h a->K x b)->adA (adB Y.prog Y.w) A (execs xs env) K E s
def kz(h:lr v=false)(t:Option adz)(n:Nat)(e:Env):afo v t n e=pure false:=by
 cases v<;>first|rfl|cases h
def rN(h:(!isDisplay v|| !pE y))(e:Env):afp [y] v e=pure none:=by
 obtain _|_|_|_|_|_|_|_|_|_|_|_|_|_|_|_|_|_|_|_|_|_|_|_|_|_|_:=y;iterate 24 rfl
 iterate 2 (cases v<;>first|rfl|cases h)
 rfl
def BE(h:cL c k t y)(e:Env):(aeA [y] e).map (·.2)=[assign y e]:=by
 refine aa (oK<|ur h) ?_;rfl
section
variable{Y:Wq}{C:Cl}{d:Nat}
def Aj:yM Y C d .hole:=by
 intro x k e f L A s P t Q K E m R G N h q;exact h.elim
def oh(hL:Jm Y C d t)(J:dc Y C d e){Q:Fl->Ev->UT->Prop}{K:aep->adx->Prop}
  (m:cL Y.c k t y) (z:cE Y.c k e v) (a:(!isDisplay v|| !pE y)) (i:afo v (some y) n.line b=pure false) (R:bU A d) (G:Gd Y.toWd s P x) (N:En Y.toWd s.heap P f k b aw)
  (h:vE Y.T C e aw x λv x=>vL Y.T C t v aw x λaw x=>Q .next aw x)
  (q:∀am fl ax p l I,Gd Y.toWd ax p l->Step f s.heap P ax.heap p->En Y.toWd ax.heap p f k b I->JT Y.W ax.heap p am fl->Q fl I l->K am ax):adA (adB Y.prog Y.w) A (exec (.Assign [y] v n) b) K U s:=by
 refine wpAny_Assign_stores (J z R G N h _ U λu w ax p l g j r o=>?_) i (rN a b);rw[BE m];exact hL m R g (N.step j) r o λac al ag I M ap ar B=>q .next .next ac al ag I M ((j.nil f).trans ap) ar .next B
def FV(N:En Z h P f r E i)(m:∀b,(b∈f\/∃s,E.cells.lookup s=some b)->b≠c)(a:∀o x n,h.get? c=some o->o.data≠ .seq x n)
  (g:Yw c h G):En Z G P f r E i:=
 N.move (j2 a g) (λ_ _ e=>e) (λb o Q e=>(g.2 b<|m b Q).trans e) λb Q=>(N.xD Q).1
def FI(hL:Jm Y C d t)(hE:dc Y C d e)(a6:∀f ap am,e=.lc f ap am->nG Y C d am/\dc Y C d ap):yM Y C d (.asg t e):=by
 intro x k j J L A s P u Q K E B R G N h q;have h:=h;refine IE B λy v ag r w a l=>?_;clear B;obtain a5|⟨⟨f,ap,am,rfl⟩,i,rfl⟩:=l
 case inl=>exact oh hL hE r w a (kz a5 _ _ _) R G N h q
 case inr=>
  clear a;obtain⟨z,gs,sc,p,rfl⟩:∃z gs sc p,v=.ListComp z gs sc p:=Gq w λ_ _ _ _ _ _ _ _ _ _=>⟨_,_,_,_,rfl⟩;obtain⟨hO,a3⟩:=a6 _ _ _ rfl;have a4:=r;obtain⟨py,rfl,M⟩:∃p,y=.Name (Y.c.nm i) p/\(k.lookup (Y.c.nm i)=some .local\/k.lookup (Y.c.nm i)=some .cell):=xb r λ_ M=>⟨_,rfl,M⟩;generalize T:(j.blockKind==.function&&j.kindOf (Y.c.nm i)==some .local&&py.line==(Expr.ListComp z gs sc p).pos.line&& !(sc.names.any λ(n,k)=>n==Y.c.nm i&&(k==.local||k==.cell)))=b;have a0:afo (.ListComp z gs sc p) (some<|.Name (Y.c.nm i) py) ag.line j=pure b:=by refine av T ?_;rfl
  clear T;obtain _|_:=b
  ·exact oh hL hE a4 w rfl a0 R G N h q
  ·rw[agI]
   refine adw<|adG ?_;show adA _ _ (afo (.ListComp z gs sc p) (some<|.Name (Y.c.nm i) py) ag.line j>>=_) _ _ _;refine aa a0<|adw<|ady<|aa (agO rfl)<|adw ?_;rw[arm_evalThenUse_ListComp];refine adw<|Az hO a3 w R G N h λD Cl s5 P5 ax ac m G5 S5 r5 U g1 g2 g3 q5=>?_;have aw:∀b,(b∈J\/∃s,j.cells.lookup s=some b)->b≠Cl:=λb T e=>by
    refine cM (N.xD T) λ_ o g=>?_;rw[e,g3] at g;cases g
   refine ed (show ok (F9 L (.n i)<|.d<|.lst ac) (λL=>Q .next L ax) from q5) λal e1 q5=>?_;cases e1;show adA _ _ (assign (.Name (Y.c.nm i) py) j<|.ref D) _ _ _;rw[afO];refine adw<|adG<|adw<|adD<|aem ?_;rw[<-Y.tT] at M ⊢;refine adw<|eF G5 (N.step S5) M (.d r5) λs6 G6 S6 N6=>aem ?_;have a2:=U.at' λo e=>S6.keep _ o g1 (λq=>aw _ (.inl q) rfl) e;refine⟨m,a2,λI ar=>ady<|ady ?_⟩;have hd:=iI a2;exact q .next .next _ P5 ax _ (qV G6 g1 g2 hd ar) (rI ((S5.nil J).trans S6) g3 hd ar) (FV N6 aw hd ar) .next q5
end
section
variable{Y:Wq}{C:Cl}{d:Nat}
def IC(c:dc Y C d e):yM Y C d (.ex e):=by
 intro x k a f L A s P t Q K E n R G N h q;have h:=h;refine Ni n λv z m y=>wpAny_Expr_any (c m R G N h _ E λu w T p b g j r o=>?_) (by unfold interactive;refine aa N.kind ?_;rfl) (kz y _ _ _);exact q .next .next T p b L g (j.nil f) (N.step j) .next o
def Dd(J:nh Y C d c)(o:kF Y C d t)(M:kF Y C d f):yM Y C d (.iff c t f):=by
 intro x k i p L A s P v Q K E n R G N h q;refine H9 n λa b e B m w g=>wpAny_If<|J m R G N h _ E λu b' T I y l j r z=>?_;have r:=r;subst r;clear r;obtain _|_:=u
 ·exact aa (agP<|by decide) (M g R l (N.step j) z λac fl s2 P2 ag al G2 U N2 r2 q2=>q ac fl s2 P2 ag al G2 ((j.nil p).trans U) N2 r2 q2)
 ·exact aa (agO rfl) (o w R l (N.step j) z λac fl s2 P2 ag al G2 U N2 r2 q2=>q ac fl s2 P2 ag al G2 ((j.nil p).trans U) N2 r2 q2)
def Ec(c:dc Y C d e):yM Y C d (.ret e):=by
 intro x k a f L A s P t Q K E n R G N h q;have h:=h;refine HA n (λv y m=>?_) λy m=>?_
 ·exact wpAny_Return_some (c m R G N h _ E λu w T p b g j r o=>q (.ret u) (.ret w) T p b L g (j.nil f) (N.step j) (.ret r) o)
 ·clear c n;subst m
  exact wpAny_Return_none<|q (.ret .none) (.ret<|.d .none) s P t L G (Step.refl ..) N (.ret<|.d .none) h
def rW:kF Y C d []:=by
 intro x k e f L A s P t Q K E m R G N h q;obtain _|_:=x
 ·rw[afU]
  exact ady<|q .next .next s P t L G (Step.refl ..) N .next h
 ·exact Ws m
def oB(o:yM Y C d t)(am:kF Y C d ap):kF Y C d (t::ap):=by
 intro f k e p L A s P u Q K E m R G N h q;obtain _|⟨x,f⟩:=f
 ·exact Ws m
 ·refine gA m λy z=>?_
  rw[arm_execs_cons];refine adw<|o y R G N h λac w T I a i g j n r v=>?_;obtain _|r:=r
  ·exact am z R g n v λac w J B ag al l U N2 c b=>q ac w J B ag al l (j.trans U) N2 c b
  ·exact ady (q _ _ T I a i g j n (.ret r) v)
def EU(T:kF Y C d b):yM Y C d (.try b):=by
 intro x k a f L A s P t Q K E n R G N h q;have h:=h;refine HU n λB e i p m=>wpAny_Try_except<|T m R G N h λy J U I c l g j u r o=>?_;obtain _|r:=r
 ·exact ady (q .next .next U I c l g j u .next o)
 ·exact q _ _ U I c l g j u (.ret r) o
def DK(M:nh Y C d c)(U:kF Y C d b):yM Y C d (.Gk c b):=by
 intro x k f p L A s P t Q K E o R G N h q;refine IB o λa ac z m w=>af h λn h=>?_
 let I:Nat->adx->Prop:=λn e=>∃J g l,Gd Y.toWd e J g/\Step p s.heap P e.heap J/\En Y.toWd e.heap J p k f l/\
  IZ (λL t K=>vE Y.T C c L t λv t=>ok (BD v) λb=>K b t) (λL t K=>da Y.T C b L t K) n l g Q
 refine wpAny_While<|codeAny_whileLoop I (λn s1 j=>?_) n ⟨P,t,L,G,Step.refl ..,N,h⟩;refine aY j λP1 ap ar G1 B N1 h=>?_;clear j;obtain _|n:=n
 ·exact h.elim
 ·refine M m R G1 N1 h _ _ λu b' s2 P2 al G2 i r y=>?_
  have r:=r;subst r;clear r;obtain _|_:=u
  ·rw[agP<|by decide,afU]
   exact ady<|q .next .next s2 P2 al ar G2 (B.trans<|i.nil p) (N1.step i) .next y
  ·refine aa (agO rfl) (U w R G2 (N1.step i) y λag fl s3 P3 am ax G3 S3 N3 r3 q3=>?_)
   have aw:=(B.trans<|i.nil p).trans S3;obtain _|r3:=r3
   ·exact⟨n,WK n,P3,am,ax,G3,aw,N3,q3⟩
   ·exact q _ _ s3 P3 am ax G3 aw N3 (.ret r3) q3
end
section
variable{Y:Wq}{C:Cl}{d:Nat}
def Ez(hI:Hk Y C d it)(U:kF Y C d b):yM Y C d (.for t it b):=by
 intro x k r fr L A s P y Q K E p R G N h q;have h:=h;refine Jv p λax a2 aw ac m z c h4=>?_;rw[arm_exec_For];refine adw (adG<|adw<|aeE (hI z R G N h (λu a=>adA (adB Y.prog Y.w) A (afl (.forLoop ax u aw [] r) r) K E a) E λu a hr=>?_) (λu s1 hu=>?_) λ_ _ x=>x)
 case refine_2=>
  exact adw<|aej (oZ z)<|adw<|adG<|adw<|adD hu
 refine c9 hr λI l am wr At a6 P0 cc j G0 S0 J W a3 st h=>?_;clear hr;subst j;have W:=W A R.handled;have a5:∀b∈wr,b∉fr:=λb U q=>by
  refine aV (N.eC b q) λ_ _ ag _=>?_;obtain⟨o,e⟩:=ag;rw[J b U] at e;cases e
 let B:=λ(x:D) (L:Ev) (y:UT) (K:Fl->Ev->UT->Prop)=>ok (dM L t x) λL=>da Y.T C b L y K
 let Inv:Nat->adx->Prop:=λn s1=>∃i f P1 a7 a8,f.length=n/\l.drop i=f/\i<=l.length/\Gd Y.toWd s1 P1 a7/\Step fr s.heap P s1.heap P1/\En Y.toWd s1.heap P1 fr k r a8/\At i s1.heap P1/\dx am l a7/\Vb am l B f a8 a7 Q
 refine agG<|codeAny_forLoop_any Inv (λn s1 hI=>?_) l.length ⟨0,l,P0,cc,L,rfl,rfl,Wz _,G0,S0.nil fr,N.step S0,a3,st,h⟩;refine ji hI λi f P1 a7 a8 M g hi G1 S1 N1 a3 st h=>?_;have ap:=W.off a3;obtain _|⟨x,f⟩:=f
 ·have bm:i=l.length:=by
   have:=agN Ys g;rw[YR] at this;simp at this;exact BP this hi
  clear hi g;subst bm;refine W.done a3 G1 st _ _ λs2 G2 xo=>?_;dsimp only;rw[afU];exact ady<|q .next .next s2 P1 a7 a8 G2 (xo.step ap G2 S1 J) (xo.en ap a5 N1) .next h
 ·have bi:l[i]?=some x:=by
   have:=agN aa3 g;rw[aae] at this;simpa using this
  have bl:l.drop (i+1)=f:=by
   have:=agN ack g;simpa [aa2] using this
  have ar:=(Xb.mp bi).1;refine ed h λal ca h=>W.next a3 G1 st bi _ _ λv s2 G2 x2 rv hm=>?_
  dsimp only;have bn:=W.tm hm;refine W.go hm G2 (rS c m) _ _ λs3 G3 x3 be=>?_;have S3:=x3.step bn G3 (x2.step ap G2 S1 J) J;have N3:=x3.en bn a5<|x2.en ap a5 N1;refine gF t R.handled m G3 N3 (x3.dr bn rv) ca λs4 G4 S4 N4=>?_;have a9:=W.step be S4 a5;refine U h4 R G4 N4 h λa0 fl s5 P5 a4 bu G5 S5 N5 r5 q5=>?_;have bv:=(S3.trans S4).trans S5;obtain _|r5:=r5
  ·refine ak q5 λcb q5=>?_
   simp only[WZ] at M;exact⟨f.length,uG M,OG (i+1) f P5 a4 bu ⟨rfl,bl,ar,G5,bv,N5,W.step a9 S5 a5,cb,q5⟩⟩
  ·exact q _ _ s5 P5 a4 bu G5 bv N5 (.ret r5) q5
end
def C6(Y:Wq)(C:Cl)(d:Nat):List PL->Prop
 |[]=>True
 |t::ts=>Jm Y C d t/\C6 Y C d ts
def nB(Y:Wq)(C:Cl)(d:Nat):List PE->Prop
 |[]=>True
 |t::ts=>dc Y C d t/\nB Y C d ts
section
variable{Y:Wq}{C:Cl}{d:Nat}
def yh{K:Unit->adx->Prop}(h:k.lookup (Y.c.nm i)=some .local\/k.lookup (Y.c.nm i)=some .cell)
  (G:Gd Y.toWd s P t) (N:En Y.toWd s.heap P f k e a) (r:VR Y.W s.heap P u v) (q:∀T,Gd Y.toWd T P t->Step f s.heap P T.heap P->En Y.toWd T.heap P f k e (put a i v)->K () T):adA (adB Y.prog Y.w) A (afV e (Y.c.nm i) u) K U s:=by
 unfold afV;refine adw<|adD<|aem ?_;rw[<-Y.tT] at h ⊢;exact adw<|eF G N h r λT g j n=>aem<|q T g j n
def ue:∀{ag:List Value}{g:List V}{ac:Ev}{s:adx}{K:Unit->adx->Prop},(∀i∈y,k.lookup (Y.c.nm i)=some .local\/k.lookup (Y.c.nm i)=some .cell)->
  Gd Y.toWd s P t->En Y.toWd s.heap P f k a ac->j3 Y.W s.heap P ag g->y.length=g.length->(∀T,Gd Y.toWd T P t->Step f s.heap P T.heap P->En Y.toWd T.heap P f k a (iP ac y g)->K () T)->
   adA (adB Y.prog Y.w) A (assignInOrder (y.map λi=>afV a (Y.c.nm i)) ag) K E s:=by
 induction y with
 |nil=>
  intro ag g ac s K _ G N r h q;obtain rfl:=XM.mp h.symm;obtain rfl:=r.dZ;exact ady<|q s G (Step.refl ..) N
 |cons i y I=>
  intro ag g ac s K m G N r h q;obtain _|⟨v,g⟩:=g
  ·cases h
  ·refine aq r.bZ λu ag e Q p=>?_;clear r;subst e
   exact adw<|adD<|yh (m i Wr) G N Q λT b l z=>I (λj o=>m j<|Wu _ o) b z (p.step l) (Yb h) λJ x n B=>q J x (l.trans n) B
def rZ:∀{T:List PL}{f:List adz},FG c k T f->kA E f/\T.length=f.length:=by
 intro T
 induction T with
 |nil=>exact λh=>pF h▸⟨.nil,rfl⟩
 |cons t T i=>
  intro _ h;refine aq (Qw h) λx f e m u=>?_;clear h;subst e;have h:=i u;exact⟨.cons (ur m) h.1,agN Y6 h.2⟩
def Kb(R:bU A d):∀{l:List PE}{f:List adz}{s:adx}{P:aF}{t:UT}{Q:List V->UT->Prop},nB Y C d l->eQ Y.c k l f->Gd Y.toWd s P t->En Y.toWd s.heap P o k b ar->nj Y.T C l ar t Q->
  Gw Y.toWd A (λh P y g=>j3 Y.W h P y g/\y.length=l.length) (spliced (adS ac (adM f b))) s P Q:=by
 intro M
 induction M with
 |nil=>
  intro f s P t Q _ n G N h;exact kS n▸Gw.pure G ⟨.nil,rfl⟩ h
 |cons e l I=>
  intro f s P t Q hE n G N h;refine aG (Oj n) λx f i m w a=>?_;clear n;subst i;refine aa (cV m) ?_;intro K E q;exact aeb<|hE.1 w R G N h _ E λu v U p B z S r J=>I hE.2 a z (N.step S) J _ E λy g al ap am ag j r' q2=>q _ _ al ap am ag (S.trans j) ⟨.cons (r.step j) r'.1,agN Y6 r'.2⟩ q2
def xC(R:bU A d):∀{ar:List PL}{f:List adz}{b:List Value}{g:List V}{ap:Ev}{s:adx}{P:aF}{y:UT}{Q:Ev->UT->Prop}{K:Unit->adx->Prop},C6 Y C d ar->FG Y.c k ar f->
  Gd Y.toWd s P y->En Y.toWd s.heap P o k a ap->j3 Y.W s.heap P b g->Oo Y.T C ar g ap y Q->
   (∀aw p am ac,Gd Y.toWd aw p am->Step o s.heap P aw.heap p->En Y.toWd aw.heap p o k a ac->Q ac am->K () aw)->adA (adB Y.prog Y.w) A (assignInOrder (f.map λx=>assign x a) b) K E s:=by
 intro zz
 induction zz with
 |nil=>
  intro f b yy;cases yy with
  |nil=>
   intro ap s P y Q K _ n G N r h q;obtain rfl:=pF n;obtain rfl:=r.dZ;exact ady<|q s P y ap G (Step.refl ..) N h
  |cons _ _=>
   intro _ _ _ _ _ _ _ _ _ _ _ h _;exact h.elim
 |cons t ar i=>
  intro f b yy;cases yy with
  |nil=>
   intro _ _ _ _ _ _ _ _ _ _ _ h _;exact h.elim
  |cons v g=>
   intro ap s P y Q K hL n G N r h q;refine aq (Qw n) λx f e m z=>?_;clear n;subst e;refine aq r.bZ λu b e B r2=>?_;clear r;subst e;exact adw<|adD<|hL.1 m R G N B h λaw p am ac l j N' I=>i hL.2 z l N' (r2.step j) I λs2 P2 ag al G2 S2 N2 q2=>q s2 P2 ag al G2 (j.trans S2) N2 q2
noncomputable def pb(env:Env)(l:Nat)(x:adz):Option Str:=ac5 (λ_=>Option Str) x (λid pos=>if env.kindOf id==some .local&&pos.line==l then some id else none) λ_=>none
def I4:∀{l:List a},(l.filterMap f).length=l.length->l.map f=(l.filterMap f).map some:=by
 intro z
 induction z with
 |nil=>
  intro _;exact rfl
 |cons x l i=>
  intro h;rcases g:f x with _|y
  ·rw[YO,g] at h
   exact agR (abg f l)<|Nat.not_le.mpr<|h▸WK _
  ·rw[YO,g] at h ⊢
   exact aa X3<|aa X3<|aa g<|aa (i<|Yb h) rfl
def uz:∀(n:Nat)(l:List Str),l.length<=n->l.eraseDups.length<=l.length
 |_,[],_=>WC _
 |n+1,a::l,h=>by
  have L:=Xv (λb=> !b==a) l;exact aa abX<|WB<|Wh (uz n _<|Wh L<|Yy h) L
def tU:∀{l:List Str},l.eraseDups.length=l.length->l.Nodup:=by
 intro z
 induction z with
 |nil=>
  intro _;exact Xr
 |cons a l i=>
  intro h;have L:=Xv (λb=> !b==a) l;rw[abX] at h;have h:=Yb h;have m:=uz _ (l.filter λb=> !b==a) (WC _);have t:=List.filter_sublist.eq_of_length<|ZG L<|h▸m;rw[t] at h;refine WO.mpr ⟨λq=>?_,i h⟩;rw[<-t] at q;have:=(Xl.mp q).2;rw[agW] at this;cases this
noncomputable def VM(x:adz):Bool:=ac6 (λ_=>Bool) x (λ_ _=>true) λ_=>false
def sR(t v:List adz)(a k:_)(p w:Pos)(env:Env):afp [.Tuple t a p] (.Tuple v k w) env=
  (if !(t.length==2||t.length==3)||v.length !=t.length||env.blockKind !=.function then pure none else
   if v.any VM then pure none else
   if (t.filterMap (pb env ((t.head?.map (·.pos.line)).getD 0))).length !=t.length||(t.filterMap (pb env ((t.head?.map (·.pos.line)).getD 0))).eraseDups.length !=(t.filterMap (pb env ((t.head?.map (·.pos.line)).getD 0))).length then pure none else
   if v.all (aeP 8) then pure none else
   if v.all (constantsAlone 8) then (aev "assign.tuple-of-constant-expressions:order-of-the-stores">>=λ(_:Unit)=>pure (some (t.filterMap (pb env ((t.head?.map (·.pos.line)).getD 0))))) else
   pure (some (t.filterMap (pb env ((t.head?.map (·.pos.line)).getD 0))))):=rfl
def t6(c:(v.all (aeP 8)|| !v.all (constantsAlone 8))):
  afp [.Tuple T b p] (.Tuple v k w) env=pure none\/∃n,afp [.Tuple T b p] (.Tuple v k w) env=pure (some n)/\T.map (pb env ((T.head?.map (·.pos.line)).getD 0))=n.map some/\n.eraseDups.length=n.length:=by
 rw[sR];generalize pb env ((T.head?.map (·.pos.line)).getD 0)=f;by_cases h:(!(T.length==2||T.length==3)||v.length !=T.length||env.blockKind !=.function)=true
 ·left;rw[agO h]
 by_cases t:v.any VM=true
 ·left;rw[agP h,agO t]
 by_cases a:((T.filterMap f).length !=T.length||(T.filterMap f).eraseDups.length !=(T.filterMap f).length)=true
 ·left;rw[agP h,agP t,agO a]
 by_cases g:v.all (aeP 8)=true
 ·left;exact aa (agP h)<|aa (agP t)<|aa (agP a)<|aa (agO g) rfl
 right;have I:¬v.all (constantsAlone 8):=λq=>g ((XF.mp c).resolve_right λe=>by rw[q] at e;cases e);refine⟨T.filterMap f,aa (agP h)<|aa (agP t)<|aa (agP a)<|aa (agP g)<|aa (agP I) rfl,?_,?_⟩
 ·exact I4 (abv.mp λe=>a<|XF.mpr<|.inl<|ag0.mpr e)
 ·exact abv.mp λe=>a<|XF.mpr<|.inr<|ag0.mpr e
def PD(h:cL c k t x):pb E n x=some a->∃i,t=.t (.n i)/\a=c.nm i/\(k.lookup (c.nm i)=some .local\/k.lookup (c.nm i)=some .cell):=by
 cases t with
 |«at» e f=>exact Cs h λ_ _ _ _ e=>no e
 |sub a b=>exact ti h λ_ _ _ _ _ _ e=>no e
 |t t=>
  obtain i|T:=t
  ·exact xb h λp M e=>⟨i,rfl,(Wn (fs e).2).symm,M⟩
  ·exact zq h λ_ _ _ _ e=>no e
def yW:∀{T:List PL}{f:List adz}{N:List Str},FG c k T f->f.map (pb b n)=N.map some->∃l:List Nat,T=l.map (λi=> .t (.n i))/\N=l.map c.nm/\∀i∈l,k.lookup (c.nm i)=some .local\/k.lookup (c.nm i)=some .cell:=by
 intro z
 induction z with
 |nil=>
  intro _ N h e;obtain rfl:=pF h;exact⟨[],rfl,Yu.mp e.symm,λ_ h=>nomatch h⟩
 |cons t T I=>
  intro _ N h e;refine aq (Qw h) λx f E m u=>?_;clear h;subst E;obtain _|⟨a,N⟩:=N
  ·cases e
  ·have e:=Xk e
   refine aj (PD m e.1) λi E o U=>?_;subst E;subst o;refine aj (I u e.2) λl E o M=>?_;subst E;clear e;subst o;exact⟨i::l,rfl,rfl,λj g=>(Wo.mp g).elim (λq=>q▸U) (M j)⟩
def xO:∀{g:List V}{a:Ev},Oo T C (b.map λi=> .t (.n i)) g a u Q->b.length=g.length/\Q (iP a b g) u:=by
 induction b with
 |nil=>
  intro g a h;obtain _|_:=g
  ·exact⟨rfl,h⟩
  ·exact h.elim
 |cons i b I=>
  intro g a h;obtain _|⟨v,g⟩:=g
  ·exact h.elim
  ·exact⟨agN Y6 (I h).1,(I h).2⟩
def nR:∀{T:List Nat}{g:List V}{ρ:Ev},T.Nodup->T.length=g.length->(UY (iP ρ T g) x=some v↔(∃n:Nat,T[n]?=some x/\g[n]?=some v)\/(x∉T/\UY ρ x=some v)):=by
 intro z
 induction z with
 |nil=>
  intro y;cases y with
  |nil=>
   intro ρ _ _;exact⟨λe=> .inr ⟨WW,e⟩,λh=>h.elim (λz=>ae z λ_ h _=>nomatch h) λh=>h.2⟩
  |cons _ _=>
   intro _ _ J;exact nomatch J
 |cons i T I=>
  intro y;cases y with
  |nil=>
   intro _ _ J;exact nomatch J
  |cons u g=>
   intro ρ o J;have o:=WO.mp o;have I:=I (ρ:=put ρ i u) o.2<|Yb J;rw[dG] at I;refine I.trans ⟨λh=>?_,λh=>?_⟩
   ·obtain⟨n,m,t⟩|⟨m,t⟩:=h
    ·exact .inl ⟨n+1,m,t⟩
    ·by_cases j:x=i
     ·rw[agO j] at t;exact .inl ⟨0,by refine aa j ?_;rfl,t⟩
     ·rw[agP j] at t;exact .inr ⟨λq=>(Wo.mp q).elim j m,t⟩
   ·obtain⟨n,m,t⟩|⟨m,t⟩:=h
    ·clear J I;obtain _|n:=n
     ·obtain rfl:=Wn m;exact .inr ⟨o.1,(agO rfl).trans t⟩
     ·exact .inl ⟨n,m,t⟩
    ·exact .inr ⟨λq=>m<|Wu _ q,(agP λq=>m<|Wo.mpr<|.inl q).trans t⟩
def Bi(o:I.Nodup)(J:I.length=g.length)(h:UY (iP a I g) x=some v):UY (iP a I.reverse g.reverse) x=some v:=by
 refine(nR (List.pairwise_reverse.mpr<|List.Pairwise.imp (λh=>YK h) o) (aa Xy<|aa Xy<|aa J rfl)).mpr (((nR o J).mp h).imp (λz=>ae z λn m t=>?_) λh=>⟨λq=>h.1<|acm.mp q,h.2⟩);have i:=(Xb.mp m).1;refine⟨I.length - 1 - n,?_,?_⟩
 ·refine aa (abF<|Ku rfl i) (aa (MG i) ?_);exact m
 ·refine aa (abF<|Ku J i) (aa J<|aa (MG<|J▸i) ?_);exact t
def L2.reverse{L a:Type}{R:L->a->Prop}{as:List L}{bs:List a}(h:L2 R as bs):L2 R as.reverse bs.reverse:=by
 induction h with
 |nil=>exact .nil
 |cons x _ i=>refine aa aaz<|aa aaz ?_;exact i.append<|.cons x .nil
def D1(hL:C6 Y C d a4)(hE:nB Y C d p):yM Y C d (.par a4 p):=by
 intro x k a z L A s P t Q K E y R G N h q;have h:=h;refine Iz y λg k1 p1 ys k2 p2 ac m u B h5 h6=>?_;have h6:=WY h6;obtain⟨⟨I,b,e4⟩,e3⟩:=rZ m;rw[agI];refine adw<|adG<|adw<|ady ?_;rw[agP<|by decide,agr];refine adw<|adw<|adG<|adw<|Kb R hE u G N h _ E λus j s1 P1 ar G1 S1 hr q1=>?_;refine ak hr λr J=>?_;have a2:us.length<=lim:=Wh (J▸Wi h5)<|ab rfl;have ap:g.length=us.length:=aa J<|av h6<|aa e3 rfl;refine aeT ?_<|ba a2;generalize hH:s1.heap.push {cls:=.type "tuple",data:=.seq us.toArray}=H;have kp:=hH▸Kp.push _ _;have l:aJ H 0 s1.heap.objs.size us:=hH▸ .inl ⟨rfl,_,WA _ rfl,rfl,0,rfl⟩;have a0:∀{n:Nat}{KK:List Value->adx->Prop},n=us.length->(∀s3:adx,Kp s1.heap s3.heap->Sm s1 s3->KK us s3)->adA (adB Y.prog Y.w) A (unpackItems (.ref s1.heap.objs.size) n none) KK E {s1 with heap:=H}:=
  λe M=>e▸fS R.handled l λs3 k3 m3=>M s3 (kp.trans k3) m3
 obtain aw|⟨ag,aw,T,hd⟩:=t6 B
 ·refine aa aw (adw<|ady ?_)
  show adA _ _ (assign (.Tuple g k1 p1) a (.ref s1.heap.objs.size)>>=_) _ _ _;rw[agy];unfold unpack;refine aa I<|aa b<|aa e4<|adw<|adw<|adG<|adw<|adD<|a0 ap λs3 k3 m3=>?_;have S3:Step [] s1.heap P1 s3.heap P1:=Step.ext k3;exact xC R hL m ((G1.ext k3).sm m3) ((N.step S1).step S3) (r.step S3) q1 λs4 P4 ax a3 G4 S4 N4 q4=>ady<|q .next .next s4 P4 ax a3 G4 (((S1.trans S3).nil z).trans S4) N4 .next q4
 ·refine aa aw (adw<|ady ?_)
  refine aj (yW m T) λis o am M=>?_;clear hL y h m h6;subst o;clear aw T;subst am;refine ak (xO q1) λal q1=>adw<|adZ<|adw<|a0 (by rw[Wm,<-ap,<-e3,Wm]) λs3 k3 m3=>?_;have S3:Step [] s1.heap P1 s3.heap P1:=Step.ext k3;exact av Zc<|aa Xu<|adw<|ue (λi hi=>M i<|acm.mp hi) ((G1.ext k3).sm m3) ((N.step S1).step S3) (j3.step (L2.reverse r) S3) (aa Xy<|aa Xy<|aa al rfl) λs4 G4 S4 N4=>ady<|q .next .next s4 P1 ar _ G4 (((S1.trans S3).nil z).trans S4) (N4.less λx v e=>Bi (List.Pairwise.of_map (f:=Y.c.nm) (λ_ _ h e=>h<|agN _ e) (tU hd)) al e) .next q1
end
section
variable{Z:Wd}{h s:Heap}{P f:aF}{g:UT}
def vY{R:List Pl}(e:f=P++R):B<P.length->f[B]?=some p->P[B]?=some p:=by
 subst e;intro m i
 rwa [aF.left m] at i
def VO{c:Nat}{fs:List (Nat×V)}(Q:O.below B (.inst c fs)){x k:Nat}(e:UY fs x=some (.loc k)):k<B:=by
 have Q:=Q
 induction fs with
 |nil=>exact no e
 |cons p fs i=>
  have e:=e;have Q:=ew Q;by_cases q:(p.1==x)=true
  ·have h:=Wn<|(agO q).symm.trans e
   have m:(match p.2 with|.loc k=>decide (k<B)|.d _=>true)=true:=Q.1;rw[h] at m;exact agS m
  ·exact i Q.2 ((agP q).symm.trans e) Q.2
def wG{gg:Array adQ}(G:Gt Z h oo gg f g){R:List Pl}(e:f=P++R)(Q:(g.take P.length).all (O.below P.length)):Gt Z h oo gg P (g.take P.length):=by
 have ag:∀b∈j5 P,b∈j5 f:=λb Q=>by clear G;subst e;rw[cU];exact W6 _ Q
 have ap:f.ex=P.ex:=by clear G ag;subst e;rfl
 have ac:∀b∈own P,b∈own f:=λb Q=>by
  obtain q|q:=aD.mp Q
  ·exact bB (ag b q)
  ·exact aD.mpr (.inr<|ap▸q)
 have U:P.length<=f.length:=by clear G ag ap ac;subst e;rw[aF.length_append];exact WD (Mm.aF.length P)<|Ys R
 have ar:∀{n:Nat}{p:Pl},P[n]?=some p->f[n]?=some p:=λ{n p} q=>by
  clear G ag ap ac U;subst e;exact aa (aF.left<|aF.lt q) q
 have S:bq h (own f) h (own P):=λa o I z _=>⟨z,λq=>I<|ac a q⟩;refine⟨G.base,by refine aa YA<|av G.len ?_;exact(X6 U).symm,λn p o Y z=>?_,λi j p q Y L al=>G.apart i j p q (ar Y) (ar L) al,λb Q=>G.off b<|ac b Q,λb Q=>?_,G.os,G.gs⟩
 ·have A:=aF.lt Y
  have N:g[n]?=some o:=by rw[ab2] at z;rwa [agO A] at z
  have r:=G.obj n p o (ar Y) N;have am:=Wt.mp Q o<|X0 z;clear z N;obtain l|⟨k,E⟩|⟨c,fs⟩|_:=o
  ·exact⟨r.1,aj r.2 λw a b c=>⟨w,a,b,bL.stays S c⟩⟩
  ·exact⟨r.1,r.2.1,r.2.2.stays rfl S⟩
  ·refine dF r λa m T M B=>⟨a,m,T,λx v J=>?_,B⟩
   refine ae (M x v J) λu t y=>⟨u,t,?_⟩;clear t;obtain r|@⟨k,q,L⟩:=y
   ·exact .d (r.stays S)
   ·exact .loc (vY e (VO am J) L)
  ·exact r
 ·exact ak (G.gY b<|ap▸Q) λa b=>⟨λq=>a<|ag _ q,b⟩
def VH(S:Step p h P G f):Step p h P G P:=by
 refine af S.pre λR e=>⟨⟨[],(aF.append_nil P).symm⟩,S.dH,S.live,λb Q=> .inl Q,λa o I i r=>?_⟩;exact ak (S.stays a o I i r) λm t=>⟨m,λq=>t<|S.qD a q⟩
end
def Ah(h:BZ p=none):MR c k p x=sO c k p x:=by unfold MR;exact aa h rfl
structure xV (Y:Wq) (f:Nat) (F:Fn) (o:Obj) (fd:adV) (body:List Stmt):Prop where
 at_:Y.K.lookup (Y.fa f)=some o
 data:o.data=.func fd
 NT:fd.body=.stmts body
 ok:MR Y.c fd.scope.names F.body body
 glob:fd.globals=adH
 blt:fd.builtins=adW
 co:fd.scope.isCoroutine=false
 gen:fd.scope.isGenerator=false
 kind:fd.scope.kind=.function
 nd:(fd.scope.names.map (·.1)).Nodup
 code:codeIn Y.K fd.code fd.qualname
 p1:fd.params.posonlyargs=[]
 p2:fd.params.vararg=none
 p3:fd.params.kwonlyargs=[]
 p4:fd.params.kwarg=none
 p5:fd.defaults=.none
 args:fd.params.args.map (·.arg)=F.ps.map Y.c.nm
 Ow:F.ps.Nodup
 pk:∀x∈F.ps,fd.scope.names.lookup (Y.c.nm x)=some .local\/fd.scope.names.lookup (Y.c.nm x)=some .cell
 JZ:fd.closure.length<=1
 RP:∀p∈fd.closure,∃o v,Y.K.lookup p.2=some o/\o.data=.cell v
 xN:∀x,fd.scope.names.lookup x=some .free->∃c,fd.closure.lookup x=some c
def fnIn{G:Prop}(h:qN Y.K Y.c (Y.fa f) F)(q:∀o s r,xV Y f F o s r->G):G:=by
 refine nc h λg h=>nc h λb h=>aV (yw h) λA B C D=>dQ (I5 A) λM d k w E z=>dQ (I5 B) λb1 b2 b3 b4 b5 b6=>aV (yw C) λL n I t=>aC (kB D) λm l N=>q g.1.1 g.1.2 b.1 ⟨g.2.1,g.2.2,b.2,M,agQ.mp d,agQ.mp k,kC w,kC E,agQ.mp z,OE b1,b2,XN.mp b3,aaW.mp b4,XN.mp b5,aaW.mp b6,
  agQ.mp L,agQ.mp n,agS I,λx i=>?_,Wi m,λp a=>?_,λx i=>?_⟩
 ·exact(XF.mp<|Wt.mp t x i).imp Ju Ju
 ·exact nc (Wt.mp l p a) λv _=>⟨_,_,v.2⟩
 ·have:=Wt.mp N (x,.free)<|(mem_lookup<|OE b1).mpr i
  exact Ye.mp<|(XF.mp this).resolve_left λe=>by cases e
section
variable{Y:Wq}{d f:Nat}{F:Fn}{o:Obj}{i:adV}{g:List Stmt}
def lH:∀{c:List Nat}{k:List V}{x:Nat}{v:V},c.length=k.length->c.Nodup->∀{b:Ev},UY (c.zip k) x=some v->UY (iP b c k) x=some v:=by
 intro M
 induction M with
 |nil=>
  intro k x v _ _ b h;exact no h
 |cons y c I=>
  intro N;cases N with
  |nil=>
   intro x v J _ b h;exact YG J
  |cons u k=>
   intro x v J n b h;refine ak (WO.mp n) λm t=>?_;rw[ZN] at h;show UY (iP (put b y u) c k) x=some v;have h:(if y==x then some u else UY (c.zip k) x)=some v:=h
   split at h
   ·rename_i a
    cases h;have a:y=x:=by simpa using a
    clear h;subst a;have:∀{c:List Nat}{k:List V}{b:Ev},y∉c->UY (iP b c k) y=UY b y:=by
     intro c
     induction c with
     |nil=>intro k b _;cases k<;>rfl
     |cons z c I=>
      intro k b s;obtain _|⟨w,k⟩:=k
      ·rfl
      ·show UY (iP (put b z w) c k) y=_
       rw[I λq=>s<|Wu _ q,dG,agP λq=>s (by rw[q];exact Wr)]
    rw[this m,dG,agO rfl]
   ·exact I (Yb J) t h
def DV{L:Type}{l:List L}{p q:L}(e:l.length<=1)(h:p∈l)(t:q∈l):p=q:=by
 obtain _|⟨a,l⟩:=l
 ·cases h
 ·cases XM.mp (Nat.le_zero.mp<|Yy e)
  exact(Wj.mp h).trans (Wj.mp t).symm
def xV.KJ{T:Array adQ}(I:xV Y f F o i g)(G:Gt Y.toWd h u T P t):Co Y.W h P i.scope.names i.closure []:=by
 have UU:∀x c,i.closure.lookup x=some c->(x,c)∈i.closure:=by
  intro x c;generalize i.closure=l
  induction l with
  |nil=>intro e;simp at e
  |cons p l k=>
   intro e;obtain⟨y,b⟩:=p;rw[Xg] at e;rcases r:x==y with _|_
   ·rw[r] at e;exact Wu _<|k e
   ·rw[r] at e;cases e;exact aa (agQ.mp r) Wr
 refine⟨I.xN,λx c e=>?_,λx y c e E=>?_,λx v e=>no e,λx v e=>no e⟩
 ·refine cF (I.RP _<|UU x c e) λz v h1 h2=>⟨⟨v,z,G.X _ _ h1,h2⟩,λq=>?_⟩
  have:=G.off c q;rw[Y.X _ _ h1] at this;cases this
 ·have h1:=UU _ _ e
  have h2:=UU _ _ E;exact agN Prod.fst<|DV I.JZ h1 h2
def Vq{Q:V->UT->Prop}{R:aeF->adx->Prop}(G:Gd Y.toWd s P t)(m:n=t.length)(c:Gd Y.toWd T ac w)(j:Step [] s.heap P T.heap ac)(r:JT Y.W T.heap ac z ag)
  (q:vR n keep ag w Q) (k:∀v x T ac w,Gd Y.toWd T ac w->Step [] s.heap P T.heap ac->VR Y.W T.heap ac v x->Q x w->R (.ok (.ret v)) T):R (.ok (.ret (match (generalizing:=false) z with|.ret v=>v|_=> .none))) T:=by
 subst m;refine ed q λB e q=>?_;have y:∃v,VR Y.W T.heap ac (match (generalizing:=false) z with|.ret v=>v|_=> .none) v/\Vg keep t.length v w=some B:=by
  obtain _|r:=r
  ·exact⟨_,.d .none,e⟩
  ·exact⟨_,r,e⟩
 obtain⟨v,y,e⟩:=y;generalize (match (generalizing:=false) z with|.ret v=>v|_=>Value.none)=u at y ⊢;obtain _|_:=keep
 ·obtain⟨h,e⟩:=fs e
  obtain⟨N,A⟩:=j.pre;rw[<-G.len] at h;have Gt:=wG c A h;rw[G.len] at Gt;have St:=VH j;obtain x|U:=v
  ·obtain rfl:=Wn e;exact k _ _ T P _ Gt St (.d<|y.dd.stays λa o I l _=>⟨l,λq=>I<|j.qD a q⟩) q
  ·refine ak (fs e) λM e=>?_
   obtain rfl:=Wn e;refine ae y.ll λp b E=>?_;clear y;subst E;exact k _ _ T P _ Gt St (.loc<|vY A (by exact aa G.len M) b) q
 ·obtain rfl:=Wn e;exact k _ _ T ac w c j y q
def oH(I:xV Y f F o i g)(RC:jd A (d+1))(G:Gd Y.toWd s P σ)(r:j3 Y.W s.heap P us vs)(hl:F.ps.length=vs.length)
  (k:∀(env:Env)(s1:adx)(fr:List Addr),Gd Y.toWd s1 P σ->Step [] s.heap P s1.heap P->En Y.toWd s1.heap P fr i.scope.names env (iP [] F.ps vs)->(∀b∈fr,s.heap.get? b=none)->
   env=newEnv i.scope env.locals adH env.cells (i.qualname++".<locals>.") (some (Y.fa f)) i.code none adW->(∀x c,i.closure.lookup x=some c->(x,NameKind.cell)∉i.scope.names->env.cells.lookup x=some c)->adR (adB Y.prog Y.w) A (.func g env) R s1):
  adR (adB Y.prog Y.w) A (.call (.ref (Y.fa f)) ⟨us,[]⟩) R s:=by
 refine codeAny_call_function (by have:=RC.depth;exact Nj<|Nj this) (G.X _ _ I.at_) I.data I.co I.gen I.NT (codeRec_of G.X I.code) ?_;have hpn:(i.params.args.map (·.arg)).Nodup:=by
  exact aa I.args<|av Y.tT<|acb _ (λa b h e=>h<|Y.W.jD a b e) I.Ow
 refine aa (sU I.p1 I.p2 I.p3 I.p4 I.p5 (by rw[I.args,Wm,hl,r.length]) hpn) (ady<|aa I.args<|av Y.tT<|aa I.glob<|aa I.blt ?_);exact wj G rfl I.kind I.nd (I.KJ G) (λx hx=>by exact aa Y.tT<|I.pk x hx) (λe he=>by cases he) r hl λenv s1 fr G1 S1 N1 hf _ he _ hcl=>⟨Y.lim.keeps G1.base,k env s1 fr G1 S1 N1 hf (he rfl) hcl⟩
def HC(I:xV Y f F o i g)(L:Y.T.fn f=some F)(l:BZ F.body=none)(U:kF Y (TF Y d) d F.body)(h:vF Y.T (TF Y d) f ap t Q):TF Y (d+1) f ap t Q:=by
 intro A s P u R RC G r k;unfold vF at h;rw[L] at h;refine jC h λJ h=>?_;have J:=WY J;refine oH I RC G r J λE w p z m N1 al _ _=>codeAny_func ?_;have J6:=(Ah l).symm.trans I.ok;exact U J6 RC.deeper z (N1.less λx v e=>lH J I.Ow e) h λac N M B ag am y a N2 n c=>Vq G rfl y (m.drop a λb U=> .inr<|al b U) n c k
end
section
variable{Z:Wd}{h s c:Heap}{P t f:aF}{g:UT}{D:Addr}
def qe(e:(P++([p]:List Pl))[n]?=some q):P[n]?=some q\/(n=P.length/\q=p):=by
 obtain m|m|m:=ach n P.length
 ·left;rwa [aF.left m] at e
 ·right;subst m
  have e:(P.l++[p])[P.l.length]?=some q:=e;simp at e;exact⟨rfl,e.symm⟩
 ·have e:(P.l++[p])[n]?=some q:=e
  rw[XW (by simp;exact m)] at e;cases e
def wU(G:Gt Z h am al (cH D P) g)(k:D∉P.ex)(r:OR Z.W Z.prog Z.w h (P++([⟨D,D⟩]:List Pl)) ⟨D,D⟩ o):Gt Z h am al (P++([⟨D,D⟩]:List Pl)) (g++[o]):=by
 have A:=(G.gY D Wr).1;have Y:∀b∈j5 (P++([⟨D,D⟩]:List Pl)),b∈j5 P\/b=D:=λb Q=>by
  rw[cU] at Q;obtain Q|Q:=WH.mp Q
  ·exact .inl Q
  ·right;simpa using Q
 have N:∀b∈own (P++([⟨D,D⟩]:List Pl)),b∈own (cH D P):=λb Q=>by
  obtain Q|Q:=aD.mp Q
  ·clear G k r A;obtain Q|rfl:=Y b Q
   ·exact aD.mpr (.inl Q)
   ·exact jo b P
  ·exact aD.mpr (.inr<|Wu _ Q)
 have S:bq h (own<|cH D P) h (own<|P++([⟨D,D⟩]:List Pl)):=λa o I l _=>⟨l,λq=>I<|N a q⟩;have U:∀(n:Nat)(p:Pl),(cH D P)[n]?=some p->(P++([⟨D,D⟩]:List Pl))[n]?=some p:=λn p e=>by
  have e:=e;exact aa (aF.left<|aF.lt e) e
 have J:P.length=g.length:=G.len;refine⟨G.base,by rw[aF.length_append,Wv,J];rfl,λn p z ag l=>?_,λi j p q T y ac=>?_,λb Q=>G.off b<|N b Q,λb Q=>?_,G.os,G.gs⟩
 ·obtain e|⟨rfl,rfl⟩:=qe ag
  ·have x:=aF.lt e
   rw[Yc<|by exact av J x] at l;exact(G.obj n p z e l).stays rfl rfl S U
  ·rw[J,Xs<|WC _] at l
   simp at l;subst l;exact r
 ·have B:∀{m:Nat}{p:Pl},P[m]?=some p->p.a≠D/\p.d≠D:=λe=>⟨λq=>A<|q▸j8 e,λq=>A<|q▸vH e⟩
  obtain e|⟨rfl,rfl⟩:=qe T
  ·obtain E|⟨rfl,rfl⟩:=qe y
   ·exact G.apart i j p q e E ac
   ·exact⟨(B e).1,(B e).1,(B e).2,(B e).2⟩
  ·obtain E|⟨rfl,rfl⟩:=qe y
   ·exact⟨(B E).1.symm,(B E).2.symm,(B E).1.symm,(B E).2.symm⟩
   ·exact agR rfl ac
 ·refine ak (G.gY b<|Wu _ Q) λu v=>⟨λq=>?_,v⟩
  clear G r A N S U;obtain q|rfl:=Y b q
  ·exact u q
  ·exact k Q
def xH(S:Step [] c f h P)(d:c.get? D=none)(k:∀b o,b≠D->h.get? b=some o->s.get? b=some o):Step [] c f s (P++([⟨D,D⟩]:List Pl)):=af S.pre λR T=>by
 have n:∀b o,c.get? b=some o->b≠D:=λb o e q=>by rw[q,d] at e;cases e
 refine⟨⟨R++[⟨D,D⟩],by rw[T,aF.append_assoc]⟩,λb o m u e=>k b o (n b o e)<|S.dH b o m u e,λb o e=>?_,λb Q=>?_,λa o G e p=>?_⟩
 ·exact af (S.live b o e) λy E=>⟨y,k b y (n b o e) E⟩
 ·rw[cU] at Q
  obtain Q|Q:=WH.mp Q
  ·exact S.gX b Q
  ·right
   have:b=D:=by simpa using Q
   exact aa this d
 ·refine ak (S.stays a o G e p) λm u=>⟨k a o (n a o e) m,λq=>?_⟩
  obtain q|q:=aD.mp q
  ·rw[cU] at q
   obtain q|q:=WH.mp q
   ·exact u (bB q)
   ·exact n a o e (by simpa using q)
  ·exact u (aD.mpr<|.inr q)
end
section
variable{Y:Wq}{C:Cl}{d:Nat}
noncomputable def kD:PE->D
 |.k d=>d
 |_=> .none
def Jf:∀{k:List PE}{u:List (Option adz)}{Q:List V->UT->Prop},Hb c k u->nj T C k a t Q->Q (k.map λx=>V.d (kD x)) t:=by
 intro z
 induction z with
 |nil=>
  intro _ _ _ h;exact h
 |cons _ k I=>
  intro _ Q M h;obtain⟨i,_,_,_,rfl,_,M⟩:=N8 M;exact I (Q:=λv t=>Q (.d (.str i)::v) t) M h
def yb:∀{l:List PE},rz (l.map λx=>V.d (kD x))=some (l.map kD):=by
 intro l
 induction l with
 |nil=>rfl
 |cons k l i=>exact agN (W4 (kD k::·)) i
def BJ(R:bU A d):∀{ks g:List PE}{ar:List (Option adz)}{a3:List adz}{s:adx}{P:aF}{t:UT}{Q:List V->UT->Prop}{K:List (Value×Value)->adx->Prop},nB Y C d g->Hb Y.c ks ar->eQ Y.c k g a3->a3.length=ar.length->
  Gd Y.toWd s P t->En Y.toWd s.heap P o k a be->nj Y.T C g be t Q->
   (∀(a4:List (Value×Value))(ac:List ((Str ⊕ Int)×Value))(vv:List V) bi p bl,Gd Y.toWd bi p bl->Step [] s.heap P bi.heap p->Carries (bk Y.prog Y.w) a4 ac->vv.length=ks.length->Q vv bl->
    (∀a5,rz vv=some a5->L2 (λ(kv:(Str ⊕ Int)×Value) (e:D×D)=>MK Y.W kv.1 e.1/\DR Y.W bi.heap (own p) kv.2 e.2) ac ((ks.map kD).zip a5))->K a4 bi)->adA (adB Y.prog Y.w) A (evalPairs (pairTrees ar a3 a y)) K E s:=by
 intro l
 induction l with
 |nil=>
  intro g ar a3 s P t Q K hE M b J G N h q;obtain rfl:=XN.mp M;obtain rfl:=XM.mp J;clear hE;obtain _|_:=g
  ·exact pairTrees_nil_walk (q [] [] [] s P t G (Step.refl ..) trivial rfl h λa5 e=>by obtain rfl:=Wn e;exact .nil)
  ·cases b
 |cons ky ks I=>
  intro yy;cases yy with
  |nil=>
   intro ar a3 s P t Q K hE M b J G N h q;refine tc (N8 M) λi kk kp ar f M=>?_;subst f;obtain rfl:=kS b;cases J
  |cons v g=>
   intro ar a3 s P t Q K hE M b J G N h q;refine bQ (N8 M) λi kk kp ar f al a2=>?_;clear M;subst f;subst al;refine aG (Oj b) λvx a3 f v1 v2 v3=>?_;clear b;subst f;refine pairTrees_cons_walk ?_;have ax:vE Y.T C (.k<|.str i) be t (λz a8=>z=.d (.str i)/\a8=t):=⟨rfl,rfl⟩;have a6:cE Y.c k (.k<|.str i) (.Constant (.str<|Y.c.st i) kk kp):=agW _;refine GG (.str i) a6 R G N ax _ E λku kv s1 P1 a0 G1 B r x=>ak x λf al=>?_;clear x;subst f;subst al;refine hE.1 v2 R G1 (N.step B) h _ E λvu vw s2 P2 ap G2 n r2 q2=>I hE.2 a2 v3 (Yb J) G2 ((N.step B).step n) q2 λa4 ac vv s3 P3 aw G3 S3 m ag q3 hL=>ae (fO (r.dd)<|Wz _) λam m1 m2=>q ((ku,vu)::a4) ((am,vu)::ac) (vw::vv) s3 P3 aw G3 ((B.trans n).trans S3) ⟨m1,rfl,m⟩ (agN Y6 ag) q3 λa5 e=>cB e λd0 a7 e=>ae (ms e) λa9 u f=>?_;clear e;subst f;clear q2 q3;obtain rfl:=aL a7;exact .cons ⟨m2,(r2.step S3).dd⟩<|hL _ u
def Ao:∀{k:List PE}{v:List (Option adz)},Hb c k v->v.all (·.isSome)=true:=by
 intro z
 induction z with
 |nil=>
  intro _ e;exact XN.mp e▸rfl
 |cons _ k i=>
  intro _ e;refine bQ (N8 e) λ_ _ _ _ _ E u=>?_;clear e;subst E;exact WE.mpr ⟨rfl,i u⟩
def ET(hE:nB Y C d g):dc Y C d (.kj n ks g):=by
 intro y k x M L A s P t Q m R G N h;refine Ht m (λac e1 e2 B=>?_) λbl bm ac am e1 u j h4 h5=>?_
 ·clear m hE;subst e1 e2
  have h:=h;show Gv _ _ (standAt ac>>=λ_=>newDict) _ _ _;refine(Gw.aS ?_).v;intro K E q';refine adT ?_;have a2:=bX s.heap;have hD:dY Y.W Y.prog Y.w (s.heap.push {cls:=.type "dict",data:=.dict #[]}) (own<|P++([⟨s.heap.objs.size,s.heap.objs.size⟩]:List Pl)) s.heap.objs.size n []:=by
   obtain B|B:=aax<|Wi B
   ·exact .inl ⟨YI B,[],aaQ _,.nil⟩
   ·exact .inr ⟨B,[],⟨_,#[],0,WA _ rfl,⟨rfl,rfl,rfl⟩,rfl,rfl,Xr⟩,.nil⟩
  exact aC (G.new (o:=.dict n []) (h':=s.heap.push {cls:=.type "dict",data:=.dict #[]}) (Kp.push _ _) a2 a2
   λS=>⟨rfl,Wz _,hD⟩) λG2 S2 c=>q' _ _ {s with heap:=_} _ _ G2 S2 (.loc c) h
 ·clear m;subst e1
  have hq:=Jf u h;have a9:=Ao u;intro K E q';have ag:=XD.mp h5;have a3:=bX s.heap;generalize hDe:s.heap.objs.size=D at a3;have kp:Kp s.heap (s.heap.push {cls:=.type "dict",data:=.dict #[]}):=Kp.push _ _;have ca:(s.heap.push {cls:=.type "dict",data:=.dict #[]}).DictOf (bk Y.prog Y.w) D []:=by exact av hDe<|aaQ _
  refine jn ca λo0 a5 bu a7 cc=>?_;have i:D∉P.ex:=λU=>by
   refine af ((G.gY D U).2) λo e=>?_;rw[a3] at e;cases e
  generalize hH:s.heap.push {cls:=.type "dict",data:=.dict #[]}=H at kp a7;have G0:=vk G kp a3 ⟨_,a7⟩;have N0:=B4 N kp a3;refine wpAny_Dict_pairs (knd:=bk Y.prog Y.w) (zip_pairTrees _ _ _ _ a9 h4.symm) (by
   intro e;have:=agJ bl bm x ac a9 h4.symm;rw[e] at this;exact am<|XM.mp this.symm) (by exact aa (agJ _ _ _ _ a9 h4.symm) ag)<|aa hH (aa hDe<|BJ R hE u j h4 G0 N0 hq λbe kvs vv s3 P3 a4 G3 S3 m J q3 hL=>ed q3 λes e1 q3=>cB e1 λce g1 e1=>cB e1 λbi g2 e1=>ak (fs e1) λ_ e1=>?_)
  cases Wn (g1.symm.trans yb);have a0:=(G0.gY D Wr).1;have a6:=S3.dH D _ a0 (by simp) a7;have cb:s3.heap.DictOf (bk Y.prog Y.w) D []:=⟨o0,a5,bu,a6,cc⟩;refine ak (m8 (kvs:=[]) (es:=[]) (hL _ g2) Xr .nil (Wz _) e1) λa8 ar=>af (pv S3) λP3 f=>?_;clear hL;subst f;refine⟨kvs,m,cb,λh' ax ap=>?_⟩;have al:∀b o,b≠D->s3.heap.get? b=some o->h'.get? b=some o:=λb o T e=>(ap.2 b T).trans e;have aw:=j1 ax;have G4:=y9 G3 al aw;have St:bq s3.heap (own<|cH D P3) h' (own<|P3++([⟨D,D⟩]:List Pl)):=λa o I r _=>by
   have am:a≠D:=λq=>I<|q▸jo D P3;refine⟨al a o am r,λq=>?_⟩;obtain q|q:=aD.mp q
   ·rw[cU] at q
    obtain q|q:=WH.mp q
    ·exact I (aD.mpr<|.inl q)
    ·exact am (by simpa using q)
   ·exact I (aD.mpr<|.inr<|Wu _ q)
  have bn:Step [] s.heap P s3.heap P3:=r7 ((u3 (Step.ext kp) a3).trans S3) a3<|by simp
  have cd:D∉P3.ex:=by exact aa bn.ex i
  have G5:=wU (o:=.dict 0 es) G4 cd ⟨rfl,ar,.inl ⟨Wz _,_,ax,a8.mono λ_ _ z=>⟨z.1,z.2.stays St⟩⟩⟩;have S5:=xH bn a3 al;have bv:=G3.len;refine q' _ (.loc a4.length) {s3 with heap:=h',toks:=_} (P3++([⟨D,D⟩]:List Pl)) _ G5 S5 (.loc (p:=⟨D,D⟩) ?_) q3;refine av bv ?_;show(P3.l++[⟨D,D⟩])[P3.l.length]?=_;simp
end
structure KN (Y:Wq) (f C ag:Addr) (o:Obj) (fd:adV) (cc D cda:Addr) (oc ocd:Obj) (vs:Array Value) (file:Str) (tf:Tok) (cdD:ClassData) (ar:Arg):Prop where
 at_:Y.K.lookup f=some o
 data:o.data=.func fd
 clo:fd.closure=[(("__class__":Str),cc)]
 cc_:Y.K.lookup cc=some oc
 ccd:oc.data=.cell (some (.ref D))
 cls:clsIn Y.K D=some cdD
 mro:mroIn Y.K C (.ref D)=some true
 sup:ae2 Y.K C D ("__init__":Str)=some (some (.ref ag))
 ks:fd.scope.names.lookup ("super":Str)=some .globalImplicit
 kc:fd.scope.names.lookup ("__class__":Str)=some .free
 k0:fd.scope.names.lookup (Y.c.nm 0)=some .local
 hd:fd.params.args.head?=some ar
 ar_:ar.arg=Y.c.nm 0
 code:fd.code=.ref cda
 cda_:Y.K.lookup cda=some ocd
 cdd:ocd.data=.fields vs
 vs2:vs[2]?=some (.str file tf)
 file_:(Y.prog.main.file==file)
 top:(Y.prog.main.scope.names.lookup ("super":Str)).isSome=false
 fn:acQ Y.K ag
 ty:ae3 Y.K (.ref ag)=some (.type "function")
 any:aed Y.K cStatics ("thirdparty.any":Str)=some none
def K2{Y:Wq}{C d:Addr}{G:Prop}(h:jA Y.K Y.prog Y.c L C d)(q:∀o t m D i r y v x T e k,KN Y L C d o t m D i r y v x T e k->G):G:=nc h λg h=>nc h λp h=>nc h λm h=>nc h λD h=>nc h λu h=>nc h λQ h=>nc h λv h=>nc h λs h=>nc h λk h=>dQ (I5 (ew h).1) λa A b w B z=>dQ (I5 (ew h).2) λb1 b2 b3 b4 b5 b6=>q _ g.1.2 p.1.2 D.1 Q.1 _ _ v.1.2 s.1.1 s.1.2 u.1 k.1 ⟨g.2.1,g.2.2,p.2.trans<|av (agQ.mp a) rfl,m.2.1,m.2.2.trans<|agN _ D.2,u.2,agQ.mp A,agQ.mp b,agQ.mp w,agQ.mp B,agQ.mp z,k.2,agQ.mp b1,Q.2,v.2.1,v.2.2,s.2,b2,kC b3,b4,agQ.mp b5,agQ.mp b6⟩
section
variable{Y:Wq}{d f g:Nat}{F:Fn}{o:Obj}{j:adV}{i:List Stmt}
def A9{c:Nm}{k:Ks}{J:List PS}{i:List Stmt}{G:Prop}(h:MR c k (.ex (.sup g)::J) i)(r:∀y E A v w l,i=.Expr (.Call (.Attribute (.Call (.Name ("super":Str) y) [] [] E) ("__init__":Str) A) [] [] v) w::l->(A.endLine==v.line)->sO c k J l->G):G:=nc h λx h=>nc h λe h=>nc h λa h=>nc h λb h=>nc h λg h=>nc h λn h=>dQ (I5 h) λm t p s I L=>af e.2 λw u=>by
 have q:=x.2;rw[u,a.2,b.2,g.2,n.2,agQ.mp m,agQ.mp t,XN.mp s,XN.mp I] at q;exact r _ _ _ _ _ _ q p L
def Js{h:Heap}{K:Frag}{Q:ClassData}(X:K.In h)(e:clsIn K L=some Q):∃o,h.get? L=some o/\o.data=.cls Q:=by
 unfold clsIn at e;rcases q:K.lookup L with _|o
 ·rw[q] at e;exact no e
 ·rw[q] at e
  obtain⟨c,d,a,s⟩:=o;obtain _|_|_|_|_|_|_|_|m|_|_:=a;iterate 8 exact no e
  ·exact⟨_,X _ _ q,agN _<|Wn e⟩
  all_goals exact no e
def I8(I:xV Y f F o j i)(hf:Y.T.fn f=some F){rest:List PS}(hF:F.body=.ex (.sup g)::rest)(hS:jA Y.K Y.prog Y.c (Y.fa f) (Y.W.cl 2) (Y.fa g))(hb:kF Y (TF Y d) d rest){vs:List V}{σ:UT}{Q:V->UT->Prop}(h:vF Y.T (TF Y d) f vs σ Q):TF Y (d+1) f vs σ Q:=by
 intro A s P us R RC G r k;unfold vF at h;rw[hf] at h;refine jC h λhl h=>?_;have hl:=WY hl;have J6:=I.ok;rw[hF] at J6 h;refine K2 hS λo' fd' cc D cda oc ocd vss file tf cdD ar J=>?_;have e1:=J.at_;rw[I.at_] at e1;cases e1;have e2:=J.data;rw[I.data] at e2;cases e2;refine A9 J6 λp0 p1 ap p2 p3 xs hbody hpos h3=>oH I RC G r hl λenv s1 fr G1 S1 N1 hfr he hcl=>aa hbody ?_;refine ks_codeAny_funcAt<|ks_wpAt_execs_cons<|ks_wpAt_Expr_any ?_ (by unfold interactive;refine aa N1.kind ?_;rfl);rw[agx];have kind:∀x,env.kindOf x=j.scope.names.lookup x:=λx=>by refine aa he ?_;rfl
 obtain⟨hh,gg,dd,tt,oo⟩:=s1;have X:Y.K.In hh:=G1.X;refine ed h λv hv h=>ed h λc hc h=>jC h λh2 h=>?_;have hc:=(WY h2)▸hc;refine fZ hc λz₁ hco hc=>?_;obtain⟨c',fs⟩:=z₁;subst hc;refine ae (o7 hco) λn e₁ hσ=>?_;clear hco;subst e₁;refine ae N1.ns λm hm hx=>ae (hx 0 _ (lH hl I.Ow hv)<|by exact aa Y.tT J.k0) λu hu ru=>ae ru.ll λp hp e₁=>?_;clear ru;subst e₁;refine eP (kZ G1 hp hσ) λod mm II hod hns hlk hf2 _=>ae (Js X J.cls) λoD hD1 hD2=>?_;have hsb:=og ("super",.type "super")<|by decide
 refine PySem.wpAt_bind<|ks_wpAt_super_base (by rw[kind];exact J.ks) (by rw[kind];exact J.kc) rfl (show env.func=some (Y.fa f) by refine aa he ?_;rfl) (X _ _ I.at_) I.data (by exact aa I.p1 J.hd) (show env.code=.ref cda by exact aa he J.code) (X _ _ J.cda_) J.cdd J.vs2 J.file_ J.top ?_;refine ks_loadName_global N1.kind (by rw[kind];exact J.ks) (af6 (by exact aa N1.globals<|Y.g.keeps G1.base) (Y.bl ("super",.type "super")<|by decide) (by exact aa N1.builtins<|Y.b.keeps G1.base) ((Y.bu _ hsb.2).trans hsb.1) ⟨rfl,?_⟩);refine af4 N1.kind (by rw[kind];exact J.kc) (hcl _ cc (by refine aa J.clo ?_;rfl) (λq=>by have:=(mem_lookup I.nd).mp q;rw[J.kc] at this;cases this)) ⟨_,X _ _ J.cc_,J.ccd⟩ ?_;refine aa J.ar_<|af2 N1.kind (by rw[kind];exact J.k0) hm (by exact av Y.tT hu)<|ks_wpAny_isType_cls hD1 hD2 ⟨rfl,?_⟩;refine ks_wpAny_call_super hD1 hD2 II.at_ II.cls (λc e=>?_) (looks_mroIn X J.mro) (λh' e kp=>?_)
 ·have:=II.no
  unfold notCls at this;rw[e] at this;exact Ws this
 have kp:Kp hh h':=kp;have G2:Gt Y.toWd h' oo gg P σ:=G1.ext kp;have S2:Step [] hh P h' P:=Step.ext kp;have X2:Y.K.In h':=G2.X;refine abM<|adw<|adG ?_;show adA _ _ (afj _ ("__init__":Str) ap p2 env _ 0 [] []) _ _ _;unfold afj;have hform:afN 0 [] []:=by rfl
 refine aa hform ?_;have hpos':aeU true (.Call (.Name ("super":Str) p0) [] [] p1) env ap p2=pure p2:=by
  unfold aeU;refine aa hpos ?_;simp
 refine aa hpos' ?_;rcases hcc:clsIn Y.K (Y.W.cl 2) with _|cd
 ·have hm:=J.sup;unfold ae2 at hm;rw[hcc] at hm;cases hm
 ·have hsup:=J.sup
  unfold ae2 at hsup;rw[hcc] at hsup;obtain⟨of,hof,hofc⟩:∃of,h'.get? (Y.fa g)=some of/\of.cls=.type "function":=by
   have ht':(Y.K.lookup<|Y.fa g).map (·.cls)=some (.type "function"):=J.ty;rcases z:Y.K.lookup (Y.fa g) with _|of
   ·rw[z] at ht';cases ht'
   ·rw[z] at ht';exact⟨of,X2 _ _ z,Wn ht'⟩
  refine adw<|adD<|ks_wpAny_getMethod_super e (looks_opaque X2 J.any) ?_ rfl X2 hsup hof hofc (ks_ne X II hcc) rfl ?_
  ·exact λA Q E s k q=>adw<|(looks_clsIn X2 hcc) A _ E s k<|ady q
  ·have kp2:Kp h' (h'.push {cls:=.type "method",data:=.fields #[.ref<|Y.fa g,.ref p.a]}):=Kp.push _ _
   have hq:=WA h' (o:={cls:=.type "method",data:=.fields #[.ref<|Y.fa g,.ref p.a]}) rfl;generalize (h'.push {cls:=.type "method",data:=.fields #[.ref<|Y.fa g,.ref p.a]})=h3' at kp2 hq ⊢;have G3:Gt Y.toWd h3' oo gg P σ:=G2.ext kp2;have S3:Step [] h' P h3' P:=Step.ext kp2;refine adw<|ady<|aek rfl (keeps_M J.fn)<|evalArgs_nil3 ⟨⟨hq,G3.X⟩,?_⟩;refine afg<|method_call hq<|h (A.deeper env) _ P [.ref p.a] _ RC.deeper.call G3 (.cons (.loc hp) .nil) λv x s4 P4 σ4 G4 S4 r4 q4=>abM ?_;have S14:=(S2.trans S3).trans S4;exact hb h3 RC.deeper G4 ((N1.step S14).less λx v e=>lH hl I.Ow e) q4 λflow fl s5 P5 σ5 ρ5 G5 S5 N5 r5 q5=>Vq G rfl G5 ((S1.trans S14).drop S5 λb hb=> .inr<|hfr b hb) r5 q5 k
end
noncomputable def reach:Nat->List (List Nat)
 |0=>[[]]
 |n+1=>((reach n).flatMap λp=>(Yj 8).filterMap λa=>if p.all (λk=>aad k a) then some (p++[a]) else none)
noncomputable def UZ(led:Bool)(p:List Nat):SetTable:={mask:=7,place:=p.toArray,dummies:=#[],finger:=0,led:=led,moves:=0,plain:=true}
noncomputable def hashes:List Int:=(Yj 128).map λ(k:Nat)=>adP<|(k:Int) - 64
def oF(n:Nat):Bool:=(reach n).all λp=>p.length==n&&WX p.toArray 0==0&&((Yj n).all λi=>WX p.toArray (p.getD i 0+1)==i+1)&&
 (Yj 8).all λa=>(p.contains a==(p.toArray[WX p.toArray a]?==some a))&&(p.contains a||(reach<|n+1).contains (XG p.toArray (WX p.toArray a) a).toList)
def x7:∀n,n<=4->oF n:=by
 have h:(oF 0&&oF 1&&oF 2&&oF 3&&oF 4):=by decide+kernel
 have h:=Om h;intro n m;have m:=zS<|XA m;obtain rfl|rfl|rfl|rfl|rfl:=m
 ·exact h.1
 ·exact h.2.1
 ·exact h.2.2.1
 ·exact h.2.2.2.1
 ·exact h.2.2.2.2
def JS(st:YJ):YJ:=(UZ true []).advance st
def Vo(h:Int):YJ:=(UZ true []).probeStart h
def JO:Nat->YJ->List Nat
 |0,_=>[]
 |n+1,st=>st.j::JO n (JS st)
def E6:∀h∈hashes,∀a,a<8->a∈JO 24 (Vo h):=by
 have h:(hashes.all λh=>(Yj 8).all λa=>(JO 24<|Vo h).contains a)=true:=by decide+kernel
 intro x g a d;have:=Wt.mp (Wt.mp h x g) a<|ZO.mpr d;simpa using this
def zb{st:YJ}(h:st.more=0):(JS st).more=0/\(JS st).j<8/\(JS st).dummy=st.dummy:=by
 delta JS SetTable.advance;refine aa (agP λq=>YZ q h) ?_;show(Z4 7 _ - _=0)/\_<8/\_;refine⟨?_,?_,rfl⟩
 ·delta Z4
  exact aa (agP<|Z9<|Ww (ab rfl)<|Xz 9 _)<|Yq _
 ·show(st.i*5+1+st.perturb / 32) % 8<8
  exact ab6 _<|ab rfl
def tF(h:Int):(Vo h).more=0/\(Vo h).j<8/\(Vo h).dummy=none:=by
 refine⟨?_,?_,rfl⟩
 ·show Z4 7 _ - _=0
  delta Z4;exact aa (agP<|Z9<|XA<|Xz 7<|abO h % (abN (Mm.UZ ado [])+1)+1)<|Yq (abO h % (abN (Mm.UZ ado [])+1))
 ·show SetTable.bits h % 8<8
  exact ab6 _<|ab rfl
def Ak:∀{n m:Nat}{st:YJ},n<=m->a∈JO n st->a∈JO m st:=by
 intro n
 induction n with
 |zero=>exact λ_ h=>(WW h).elim
 |succ n i=>
  intro m st d h;cases m with
  |zero=>exact agR d<|Z9<|X9 n
  |succ m=>exact Wo.mpr<|(Wo.mp h).imp id<|i<|Yy d
section
variable{led:Bool}{p:List Nat}{n:Nat}
def gO(Y:p∈reach n)(m:n<=4):p.length=n/\WX p.toArray 0=0/\(∀i,i<n->WX p.toArray (p.getD i 0+1)=i+1)/\∀c,c<8->((c∈p↔p.toArray[WX p.toArray c]?=some c)/\(c∉p->(XG p.toArray (WX p.toArray c) c).toList∈reach (n+1))):=by
 refine aV (yw<|Wt.mp (x7 n m) p Y) λh t a d=>⟨agQ.mp h,agQ.mp t,λi T=>agQ.mp<|Wt.mp a i<|ZO.mpr T,λc e=>?_⟩;refine ak (ew<|Wt.mp d c<|ZO.mpr e) λI G=>⟨?_,λb=>?_⟩
 ·exact YC.symm.trans ((XK.mp<|agQ.mp I).trans agQ)
 ·exact(XF.mp G).elim (λq=>agR (YC.mp q) b) YC.mp
def VF(Y:p∈reach n)(o:n<=4)(d:b<8):(b∉p->(UZ led p).slot b=.empty)/\(b∈p->∃i,(UZ led p).slot b=.live i):=by
 refine aV (gO Y o) λ_ _ _ h=>ak (h b d) λm _=>⟨λa=>?_,λa=>?_⟩
 ·have:¬(p.toArray[WX p.toArray b]?=some b):=λe=>a<|m.mpr e
  show(if (p.toArray[WX p.toArray b]?==some b)=true then _ else if aao #[] b=true then _ else _)=_;refine aa (agP λe=>this (eq_of_beq e)) ?_;have:aao #[] b=false:=by
   show(#[][WX #[] b]?==some b)=false;exact aa Array.getElem?_empty rfl
  exact aa this rfl
 ·exact⟨WX p.toArray b,by
   show(if (p.toArray[WX p.toArray b]?==some b)=true then _ else _)=_;exact aa (agO<|agQ.mpr<|m.mp a) rfl⟩
def MB{t:SetTable}{f:Nat->Int}{h:Int}{st:YJ}{o:SetTable.Slot}(e:t.slot st.j=o):ZK t f h (B+1) st=@SetTable.Slot.rec (λ_=>Option SetTable.Met) (some (.empty st.j st.dummy)) (ZK t f h B (t.advance {st with dummy:=some st.j})) (λi=>if f i==h then some (.candidate st.j i<|t.advance st) else ZK t f h B (t.advance st)) o:=by
 subst e
 kernel_rfl
def C4(Y:p∈reach n)(m:n<=4)(h:Int):∀(l:Nat)(st:YJ),st.more=0->st.j<8->st.dummy=none->(∃s∈JO l st,s∉p)->∃s,s∉p/\s<8/\ZK (UZ led p) (λ_=>h+1) h l st=some (.empty s none):=by
 intro l
 induction l with
 |zero=>exact λst _ _ _ g=>g.elim λs q=>(WW q.1).elim
 |succ l I=>
  intro st Q f a g;by_cases G:st.j∈p
  ·refine af ((VF Y m f).2 G) λi e=>aC (zb Q) λA c k=>aj (I (JS st) A c (k.trans a)<|ae g λs r B=>?_) λs o b L=>⟨s,o,b,(MB e).trans<|(agP λe=>Z7 h<|X5 (adl h)<|W0<|eq_of_beq e).trans L⟩
   obtain rfl|r:=Wo.mp r
   ·exact agR G B
   ·exact⟨s,r,B⟩
  ·exact⟨st.j,G,f,(MB<|(VF Y m f).1 G).trans<|agN (λd=>some<|SetTable.Met.empty st.j d) a⟩
def HG(J:p.length<=4):∃a,a<8/\a∉p:=by
 apply ag1;intro h;have e:∀a∈Yj 8,a∈p:=λa d=>by
  apply ag1;intro q;exact h ⟨a,ZO.mp d,q⟩
 have:=List.Nodup.length_le_of_subset List.nodup_range e;exact GQ (yY J rfl)<|Wh (Xf ab8.symm) this
def yd(Y:p∈reach n)(r:n<=3)(y:h∈hashes):∃d,d<8/\(UZ led p).freeSlot h=some (d,false)/\(XG p.toArray (WX p.toArray d) d).toList∈reach (n+1):=by
 refine aV (gO Y<|cy r rfl) λJ _ _ o=>ae (HG (p:=p)<|cy (l6 J r) rfl) λG I T=>aC (tF h) λA b c=>aj (C4 (led:=led) Y (cy r rfl) h 220 (Vo h) A b c ⟨G,Ak (ab rfl)<|E6 h y G I,T⟩) λd m t a=>⟨d,t,?_,(o d t).2 m⟩;delta SetTable.freeSlot SetTable.probe;have e:10*SetTable.turns (UZ led p).mask=220:=rfl;have E:(UZ led p).probeStart h=Vo h:=rfl;refine aa e (aa E<|aa a ?_)
 rfl
end
def EZ(h: -64<=x)(t:x<64):adP x∈hashes:=by
 refine YH.mpr ⟨(x+64).toNat,ZO.mpr<|P9 h t,?_⟩
 congr 1
 exact QC h
noncomputable def c8(es:Array (Int×Value))(ep:Nat)(t:SetTable):Obj:={cls:=.type "set",dict:=none,data:=.set es ep t,slots:=#[]}
noncomputable def zW:Int×Value->Int
 |(_,.int i _)=>i
 |_=>0
structure eM (led:Bool) (es:Array (Int×Value)) (t:SetTable) (acc:List Int):Prop where
 tab:∃p∈reach acc.length,t=UZ led p
 size:es.size=acc.length
 allI:∀e∈es.toList,∃i tk,e=(adP i,.int i tk)
 perm:(es.toList.map zW).Perm acc
 nd:acc.Nodup
def eM.nil(l:Bool):eM l #[] (UZ l []) []:=⟨⟨[],Wr,rfl⟩,rfl,by simp,by decide,Xr⟩
def jI(m:n<=4)(h:p∈reach n):p.length=n:=(gO h m).1
def eM.fits(J:eM l E t a)(m:a.length<=4):t.fits E.size:=ae J.tab λp h e=>by
 subst e;have:=jI m h;have h2:=J.size;simp [ab3,aaL,UZ];exact⟨this.trans h2.symm,l6 this<|cy m rfl⟩
section
variable{prog:Program}{w:World}{A:adC}{E:Value->adx->Prop}{s:adx}
def eM.elems(J:eM l b t a):ElemsOf (aeX prog w) b.toList:=λe h=>by
 refine d9 (J.allI e h) λi T f=>?_;clear h;subst f;exact⟨⟨i,aeY _ _ _ _,rfl⟩,rfl⟩
def eM.mem(J:eM l b t a):x∈a↔∃e∈b.toList,(aeX prog w).is x e.2:=by
 rw[<-J.perm.mem_iff,YH];constructor
 ·rintro ⟨e,k,rfl⟩
  refine d9 (J.allI e k) λi T f=>?_;subst f;exact⟨_,k,aeY _ _ _ _⟩
 ·rintro ⟨e,k,h⟩
  refine d9 (J.allI e k) λi T f=>?_;subst f;exact⟨_,k,(aeX prog w).inj _ _ _ (aeY _ _ _ _) h⟩
def DH(f:s.heap.get? S=some (c8 i N t))(J:eM led i t r)(h: -64<=x)(u:x<64)(m:r.length<=3)
  (q:∀b g al y G,G.get? S=some (c8 g al y)->Yw S s.heap G->eM led g y (if x∈r then r else r++[x])->Q b {s with heap:=G}):adA (adB prog w) A (setAddHashed S (.int x l)<|adP x) Q E s:=by
 have L:=J.fits<|cy m rfl;have am:=J.elems (prog:=prog) (w:=w);have T:i.size<scanBound:=by refine aa J.size ?_;unfold scanBound;exact yY m rfl
 refine adD<|adw<|aeZ f rfl L ?_;dsimp only;refine aa (byScan_of rfl T am)<|adw (adw<|adZ<|adw<|wpAny_setScan_of (aeY _ _ x l) f rfl L am ?_);cases k:List.findIdx? (λe=>(aeX prog w).is x e.2) i.toList with
 |some j=>
  refine ae (List.findIdx?_eq_some_iff_getElem.mp k) λd a3 _=>?_;have U:=(J.mem).mpr ⟨i.toList[j],acn d,a3⟩;refine ady<|ady ?_;exact q false i N t s.heap f (Yw.refl S s.heap)<|by exact aa (agO U) J
 |none=>
  have U:x∉r:=λU=>by
   refine ae ((J.mem (prog:=prog) (w:=w)).mp U) λe he Y=>?_;have:=List.findIdx?_eq_none_iff.mp k e he;rw[Y] at this;exact Ws this
  have a2:∀(b:Bool){n:adx}{Q':Unit->adx->Prop},Q' () n->adA (adB prog w) A (match b with|true=>rule "set.scan.the-table-gave-way"|false=>pure ()) Q' E n:=
   λb n Q' v=>by cases b<;>first|exact ady v|exact adZ v
  refine ae J.tab λp Y o=>aj (yd (led:=led) Y m<|EZ h u) λj a6 ax aw=>?_;have ac:=layNew_perm t i (adP x)<|.int x l;have B:=jI (WB m) aw;have ar:(XG i (WX p.toArray j) (adP x,Value.int x l)).size=r.length+1:=by
   refine av Xd<|aa ((SetTable.insertAt_perm _ _ _).length_eq)<|aa ZW<|aa Wv<|aa Xd<|aa J.size ?_;rfl
  have z:layNew t i (adP x) (.int x l)=(XG i (WX p.toArray j) (adP x,.int x l),UZ led (XG p.toArray (WX p.toArray j) j).toList,false,false):=by
   delta layNew;refine aa o<|aa ax ?_;have a5:(UZ led p).put j=(UZ led (XG p.toArray (WX p.toArray j) j).toList,WX p.toArray j):=by
    delta SetTable.put;have:aao (UZ led p).dummies j=false:=by simp [aao,UZ]
    refine aa this ?_
    rfl
   refine aa a5 ?_;dsimp only;have ap:(UZ led (XG p.toArray (WX p.toArray j) j).toList).fits (XG i (WX p.toArray j) (adP x,Value.int x l)).size:=by
    refine aa ar ?_;have:(XG p.toArray (WX p.toArray j) j).size=r.length+1:=by exact av Xd B
    simp [ab3,aaL,UZ,this];exact cy m rfl
   refine aa ap ?_;delta SetTable.orStandIn;refine aa (agO ap) ?_
   rfl
  rw[z] at ac ⊢;generalize hes1:XG i (WX p.toArray j) (adP x,Value.int x l)=es1 at ac ar ⊢;generalize hp1:(XG p.toArray (WX p.toArray j) j).toList=M at aw B ⊢;dsimp only at ac ⊢;rw[ZW] at ac;refine adw<|a2 false ?_;have ag:es1.size<=sizeLine:=by refine aa ar<|aa adJ ?_;exact mZ m rfl
  have a0:(UZ led M).tooFull=false:=by
   delta SetTable.tooFull aaL;simp [UZ,B];exact(WJ (abU 5<|WB m)<|WC 21)
  have c:∀G,G.get? S=some (c8 es1 (N+1)<|UZ led M)->Yw S s.heap G->Q true {s with heap:=G}:=λG e sb=>
   q true es1 (N+1) (UZ led M) G e sb (by
    refine aa (agP U)<|⟨⟨M,by simpa using aw,rfl⟩,by simpa using ar,λe he=>?_,?_,?_⟩
    ·obtain he|he:=WH.mp<|ac.mem_iff.mp he
     ·exact J.allI e he
     ·rw[Wj] at he;exact⟨x,l,he⟩
    ·exact(ac.map zW).trans (aa W8<|J.perm.append_right _)
    ·exact Zq.mpr ⟨J.nd,by simp,λa I b T=>by rw[Wj] at T;clear h u q k ax z hes1 ac;subst T;intro e;exact U<|e▸I⟩)
  have hg:(s.heap.update S<|Obj.putSet es1<|UZ led M).get? S=some (c8 es1 (N+1)<|UZ led M):=by
   have:=Zs (Obj.putSet es1<|UZ led M) f (by refine aa (putSet_of es1 _ rfl) ?_;rfl);rw[putSet_of es1 (UZ led M) rfl] at this;exact this
  have a4:(UZ led M).plain:=rfl;refine aa (agO a4)<|adw<|aa (hashByValue_scannable 8 rfl)<|ady<|aa (agO rfl)<|adw<|wpAny_storeSet_of f rfl ?_ ag;exact aa a0<|ady (ady<|c _ hg (YQ ..))
end
noncomputable def ng(a:List Int)(x:Int):List Int:=if x∈a then a else a++[x]
def gh(l:List Int):List Int:=l.foldl ng []
def wD(l:List Int)(i:Nat)(x:Int)(h:l[i]?=some x):gh (l.take (i+1))=ng (gh (l.take i)) x:=by
 delta gh;refine aa aay<|aa h<|aa ZX ?_;rfl
def BS(a:List Int)(x:Int):(ng a x).length<=a.length+1:=by
 by_cases h:x∈a
 ·exact Wh (Xf<|agN Ys<|agO h) (W9 _)
 ·exact Xf ((agN Ys<|agP h).trans Wv)
def mJ:y∈ng a x↔y∈a\/y=x:=by
 by_cases h:x∈a
 ·exact aa (show ng a x=a from agO h) ⟨.inl,λq=>q.elim id λe=>e▸h⟩
 ·exact aa (show ng a x=a++[x] from agP h) (WH.trans<|or_congr aaq Wj)
def yp:∀(l a:List Int),(l.foldl ng a).length<=a.length+l.length:=by
 intro l
 induction l with
 |nil=>exact λa=>WC _
 |cons x l i=>exact λa=>yR (i<|ng a x)<|BS a x
def rB(l:List Int):(gh l).length<=l.length:=Wh (yp l [])<|Xf<|Yx _
def wL:∀(l a:List Int),y∈l.foldl ng a↔y∈a\/y∈l:=by
 intro l
 induction l with
 |nil=>exact λa=>⟨.inl,λq=>q.elim id λe=>nomatch e⟩
 |cons x l i=>exact λa=>(i<|ng a x).trans ⟨λq=>q.elim (λq=>(mJ.mp q).imp id λ(e:y=x)=>e▸Wr) λq=> .inr<|Wu _ q,λq=>q.elim (λq=> .inl<|mJ.mpr<|.inl q) λq=>(Wo.mp q).elim (λe=> .inl<|mJ.mpr<|.inr e) .inr⟩
def qU:y∈gh l↔y∈l:=(wL l []).trans ⟨λq=>q.elim (λe=>nomatch e) id,.inr⟩
def qS{l:List Int}:y∈iq l↔y∈l:=by
 induction l with
 |nil=>exact aaq
 |cons x l i=>
  refine Wo.trans<|Iff.trans ⟨λq=>q.imp id λq=>i.mp (Xl.mp q).1,λq=>?_⟩ Wo.symm;by_cases h:y=x
  ·exact .inl h
  ·exact .inr (Xl.mpr ⟨i.mpr<|q.resolve_left h,ag0.mpr h⟩)
def mN{l:List Int}:(iq l).Nodup:=by
 induction l with
 |nil=>exact .nil
 |cons x l i=>exact WO.mpr ⟨λq=>ag0.mp (Xl.mp q).2 rfl,List.Pairwise.filter _ i⟩
def lV{a b:List Int}(G:a.Nodup)(Q:b.Nodup)(h:∀y,y∈a↔y∈b):a.Perm b:=(List.perm_ext_iff_of_nodup G Q).mpr h
section
variable{c:Program}{w:World}{A:adC}{E:Value->adx->Prop}{s:adx}
def CH{R:aeF->adx->Prop}{G:Array adQ->Array adQ->Prop}{P:Nat->Value->Prop}{St:Nat->adx->Prop}(W:WalksS c w A.in1 I fp z G n P St)(S:Addr)(a6:S∉fp)(ag:Bool)
  (N:List Int) (a0:N.length=n) (a2:∀i v,P i v->∃t,v=.int (N.getD i 0) t) (Q:n<=4) (p:∀x∈N,-64<=x/\x<64):
  ∀(k i:Nat)(s:adx)(bu:Array (Int×Value))(d:Nat)(t:SetTable),n - i=k->i<=n->St i s->s.heap.get? S=some (c8 bu d t)->eM ag bu t (gh (N.take i))->
   (∀T al a3 t',Moved (S::z) G s T->T.heap.get? S=some (c8 al a3 t')->eM ag al t' (gh N)->R (.ok (.ret .none)) T)->
   adR (adB c w) A (.builtin "set.update.loop" ⟨[.ref S,.ref I],[]⟩) R s:=by
 have be:S∉z:=λh=>a6<|W.sub _ h;have a8:∀b∈z,b∈S::z:=λb Q=>Wu _ Q;intro k
 induction k with
 |zero=>
  intro i s bu d t M Y ar g J hR;have ax:=BP M Y;clear Q M Y;subst ax;refine ad8 abQ<|aa (Yk aaf _)<|adw<|W.done s _ _ ar λT U=>?_;rw[<-a0,Zb] at J;exact ady<|hR T bu d t (U.mono a8) (U.heap S _ be g) J
 |succ k l=>
  intro i s bu d t M Y ar g J hR;have ac:=MJ M;refine ad8 abQ<|aa (Yk aaf _)<|adw<|W.item i s _ _ ac ar λv T hP a7 U=>?_;refine af (a2 i v hP) λy f=>?_;clear hP;subst f;have ap:=U.heap S _ be g;have bi:N[i]?=some (N.getD i 0):=by
   have:i<N.length:=jq a0 ac;simp [X8,WS this]
  obtain⟨r,a⟩:=p _<|X0 bi;refine adw<|adD<|adD<|adw<|(aeX c w).pyHash (aeY _ _ _ _) ?_;have B:(gh<|N.take i).length<=3:=by
   have m:=rB<|N.take i;have u:(N.take i).length<=i:=by simp;exact Zk i<|Ys N
   exact Wh m<|Wh u<|YI<|Ww ac Q
  refine DH ap J r a B λb al a3 t' L a5 aw J2=>?_;have J3:eM ag al t' (gh<|N.take<|i+1):=by exact aa (wD N i _ bi) J2
  refine ady ⟨aeu aaf _,l (i+1) _ al a3 t' (MO M) ac (W.frame _ T _ _ a7 (W9 _) λb Q o e=>?_) a5 J3 λam a4 a9 t2 bm bn bl=>?_⟩
  ·exact aa (aw.2 b (λh:b=S=>a6 (by rw[<-h];exact Q))) e
  ·refine hR am a4 a9 t2 (Moved.trans W.gtrans ((U.mono a8).then_heap (W9 _) λb o Q e=>?_) bm) bn bl
   exact aa (aw.2 b (λh:b=S=>Q (by rw[h];exact Wr))) e
def Vt(a:Value)
  (h:Q₁ (.ref s.heap.objs.size) {s with heap:=s.heap.push (c8 #[] 0<|UZ (!w.params.followText "set-order") [])}):
  adR (adB c w) A (.call (.builtin "set.__new__") ⟨[.type "set",a],[]⟩) (wants Q₁ E) s:=by
 refine aeI<|adw<|aej (PySem.F.newCall_set_1 a)<|ady ⟨aeu ac4 _,ad8 F.entry_set_new ?_⟩;refine aa (Yk ac4 _) ?_;delta Builtin.«set.__new__» Builtin.Frozenset.newClass;have hsub:=sub_set_self;obtain⟨hp,g,d,tk,os⟩:=s
 wp_walk
 refine aeB<|ady ?_;exact adw<|wpAny_alloc<|ady<|ady h
end
section
variable{a:Program}{w:World}{A:adC}{E:Value->adx->Prop}{s:adx}
set_option maxHeartbeats 3200000 in
def nC(hled:(!w.params.followText "set-order")=led)(hS:s.heap.get? S=some (c8 #[] 0 (UZ led [])))(hl:s.heap.IsList l items)
  (hh:A.handled=none) (hi:ad4 items.toList ns) (hb:items.size<=4) (hr:∀x∈ns,-64<=x/\x<64)
  (q:∀h' tk es ep t,h'.get? S=some (c8 es ep t)->eM led es t (gh ns)->(∀b o,b≠S->s.heap.get? b=some o->h'.get? b=some o)->Q (.done (.ret .none)) {s with heap:=h',toks:=tk}):
  adA (adB a w) A (Builtin.«set.__init__» ⟨[.ref S,.ref l],[]⟩) Q E s:=jb (id hl) λol hol hcl nl hdl=>by
 obtain⟨ocls,odict,odata,oslots⟩:=ol;subst hcl;subst hdl;have hsls:=PySem.F.sub_list_set;have hslf:=PySem.F.sub_list_frozenset;have hne:(Value.type "list"==Value.type "dict")=false:=by decide
 have hT:s.TypeIs (.ref S) "set":=⟨_,hS,rfl⟩;have hSd:c8 #[] 0 (UZ led [])={cls:=.type "set",dict:=none,data:=.set #[] 0 (.fresh 0 0 led)}:=rfl;have hSl:S≠l:=λe=>by clear hl;subst e;exact agR (show Value.type "set"=Value.type "list" from agN Obj.cls (Wn<|hS.symm.trans hol)) (by decide)
 rw[hSd] at hS;delta Builtin.«set.__init__» noKeywords Builtin.Frozenset.updateFrom;generalize hPI:adK=PI
 wp_walk
 subst hPI;refine afz hl<|adw<|agc ?_;have hlS:=WU hol;have hSS:=WU hS;have hSf:S∉[s.heap.objs.size,l]:=by
  simp only[Wo,Wj,WW,or_false,not_or];exact⟨Xi hSS,hSl⟩
 have hval:∀(i:Nat)(v:Value),items[i]?=some v->∃t,v=.int (ns.getD i 0) t:=λi v hv=>
  PyProof.Rows.IntsAre.int_at hi i v (by exact aa XU hv)
 have hlen:ns.length=items.size:=by refine av (Zn hi) ?_;simp
 refine CH ((ac7 (A:=A.in1) (by simp [hh]) _ l (Xi hlS) items).toS) S
  hSf led ns hlen hval hb hr (items.size - 0) 0 _ #[] 0 (UZ led []) rfl (Wz _)
  ⟨⟨_,WA _ rfl,rfl,rfl⟩,hl.push _⟩ (Wx _ hS) (eM.nil led) ?_
 intro s' es' ep' t' hm ho' J';obtain⟨h',g',d',tk',os'⟩:=s';obtain⟨g1,d1,o1⟩:g'=s.gens/\d'=s.drawn/\os'=s.os:=⟨hm.gens,hm.drawn,hm.os⟩;subst g1;subst d1;subst o1;refine ady<|ady<|q h' tk' es' ep' t' ho' J' λb o hb e=>?_;exact hm.heap b o (by simp only[Wo,Wj,WW,or_false,not_or];exact⟨hb,Xi<|WU e⟩) (Wx _ e)
def Gb(h:adR b A c (wants P E) s)(Q:∀v T,P v T->R (.ok (.ret v)) T)(Y:∀e T,E e T->R (.error e) T):adR b A c R s:=afm h λr T k=>by
 obtain e|f:=r
 ·exact Y e T k
 ·obtain _|_|_|v:=f
  iterate 3 exact k.elim
  ·exact Q v T k
set_option maxHeartbeats 3200000 in
def qF
  (hh:A.handled=none) (hl:s.heap.IsList l items) (hi:ad4 items.toList ns) (hb:items.size<=4) (hr:∀x∈ns,-64<=x/\x<64)
  (h:∀(h':Heap)(tk:Nat) es ep t,h'.get? s.heap.objs.size=some (c8 es ep t)->eM (!w.params.followText "set-order") es t (gh ns)->
   (∀b o,s.heap.get? b=some o->h'.get? b=some o)->Q (.ref s.heap.objs.size) {s with heap:=h',toks:=tk}):
  adA (adB a w) A (call (.type "set") [.ref l]) Q E s:=d9 F.called_set.mro λc tl hmro=>by
 have hmade:=F.called_set.made;have hsub:=F.called_set.sub;refine afg<|aeI<|ady ⟨Code.quiet_builtin _<|by decide+kernel,ad8 F.entry_type_call ?_⟩;refine aa (Around.under_plain (weight_type_call_type "set" [.ref l] []) rfl) ?_;have h1:=F.called_set.notType;have h2:=F.called_set.canCreate;have hct:=PySem.F.typeCall_set_1 (.ref l)
 repeat (any_goals (first|assumption|wp_step))
 refine Gb (Vt (.ref l) (E:=E) (Q₁:=λobj s₁=>obj=.ref s.heap.objs.size/\s₁={s with heap:=s.heap.push (c8 #[] 0<|UZ (!w.params.followText "set-order") [])}) ⟨rfl,rfl⟩) (λobj s₁ hr'=>?_) λe s' q=>q;refine GF hr' λe₁=>?_;clear hr';subst e₁;generalize hled:(!w.params.followText "set-order")=led at*;have hS:(s.heap.push<|c8 #[] 0<|UZ led []).get? s.heap.objs.size=some (c8 #[] 0<|UZ led []):=WA _ rfl;have hT:Shared.TypeIs {s with heap:=s.heap.push (c8 #[] 0<|UZ led [])} (.ref s.heap.objs.size) "set":=⟨_,hS,rfl⟩;have hli:=F.called_set.init.lookup;have hbi:=F.called_set.init.bind (.ref s.heap.objs.size)
 repeat (any_goals (first|assumption|wp_step))
 refine Gb (P:=λr s₂=>r=.none/\∃h' tk es ep t,s₂={s with heap:=h',toks:=tk}/\
   h'.get? s.heap.objs.size=some (c8 es ep t)/\eM led es t (gh ns)/\
   (∀b o,s.heap.get? b=some o->h'.get? b=some o)) (E:=E) (codeAny_call_builtin F.called_set.init.plain F.entry_set_init<|check_set_init_1 hT ?_) (λr₂ s₂ hr₂=>?_) λe s' q=>q
 ·exact nC hled hS (hl.push _) (by simp [hh]) hi hb hr λh' tk es ep t a1 a2 a3=>⟨rfl,h',tk,es,ep,t,rfl,a1,a2,λb o e=>a3 b o (Xi<|WU e)<|Wx _ e⟩
 ·refine nI hr₂ λh' tk es ep t e₁ hS' J' hk'=>?_;subst e₁
  repeat (any_goals (first|assumption|wp_step))
  exact h _ _ es ep t hS' J' hk'
end
def mM:afb table "set.__iter__"=some Builtin.«frozenset.__iter__»:=
 agK (id':="frozenset.__iter__") (by kernel_rfl) rfl (by decide+kernel) (by kernel_rfl)
def c0:Slot "set_iterator" "__next__" "set_iterator.__next__":=
 .of (owner:="set_iterator") (n:="__next__") (by rw[afG,afH];kernel_rfl) (by decide+kernel) (by decide+kernel) (by decide+kernel)
  (by first|exact .inl (by decide+kernel)|exact .inr (by decide+kernel)) (by rw[ae7];kernel_rfl)
def hM:afb table "set_iterator.__next__"=some Builtin.«set_iterator.__next__»:=agj<|by kernel_rfl
def iY(a:Value):afq "set_iterator.__next__" ⟨[a],[]⟩:=by unfold afq;kernel_rfl
def iQ:Slot "set_iterator" "__iter__" "set_iterator.__iter__":=
 .of (owner:="set_iterator") (n:="__iter__") (by rw[afG,afH];kernel_rfl) (by decide+kernel) (by decide+kernel) (by decide+kernel)
  (by first|exact .inl (by decide+kernel)|exact .inr (by decide+kernel)) (by rw[ae7];kernel_rfl)
def nH:afb table "set_iterator.__iter__"=some Builtin.«dict_keyiterator.__iter__»:=
 agK (id':="dict_keyiterator.__iter__") (by kernel_rfl) rfl (by decide+kernel) (by kernel_rfl)
def qb(a:Value):afq "set_iterator.__iter__" ⟨[a],[]⟩:=by unfold afq;kernel_rfl
def HQ(h:Heap)(I S:Addr)(s i n ep:Nat):Prop:=h.get? I=some {cls:=.type "set_iterator",dict:=none,data:=.fields #[adI s,adI i,.ref S,adI n,adI ep],slots:=#[]}
def IS{L:Type}{next:Nat->Nat}{k:Nat}{left:List L}{n:Array L}{o:Option L}(e:left[next k % left.length]?=o):aaU next (B+1) k left n=@Option.rec L (λ_=>Array L) n (λx=>aaU next B (k+1) (left.eraseIdx (next k % left.length)) (n.push x)) o:=by
 subst e
 kernel_rfl
def xq{L:Type}(next:Nat->Nat):∀(f k:Nat)(left:List L)(o:Array L),f=left.length->(aaU next f k left o).toList.Perm (o.toList++left):=by
 intro f
 induction f with
 |zero=>
  intro k left o h;obtain rfl:=XM.mp h.symm;exact(WI o.toList).symm▸YT _
 |succ f i=>
  intro k left o h;have g:next k % left.length<left.length:=ab6 _<|Gf h<|X9 f
  refine aa (IS<|WS g)<|(i (k+1) _ _ (by refine aa List.length_eraseIdx<|aa (agO g) ?_;exact OD h)).trans ?_;rw[ZW,Xq];refine List.Perm.append_left _ ?_;rw[List.eraseIdx_eq_take_drop_succ];refine(List.perm_middle (l₂:=List.drop (next k % left.length+1) left)).symm.trans ?_;rw[List.getElem_cons_drop,abC]
def lM(next:Nat->Nat)(x:Array a):(afW next x).toList.Perm x.toList:=by
 delta afW;simpa using xq next x.size 0 x.toList #[] (by simp)
section
variable{prog:Program}{w:World}{A:adC}{E:Value->adx->Prop}{s:adx}
noncomputable def A1(p:List Nat):Nat->Nat
 |0=>0
 |i+1=>p.getD i 0+1
def DW(J:eM (!w.params.followText "set-order") r t a)(n:a.length<=4):
  ∃(v:List (Int×Value))(G:Nat->Nat),v.Perm r.toList/\G 0=0/\∀(i:Nat)(s:adx)(A:adC)(E:Value->adx->Prop)(Q:Option (Value×Nat)->adx->Prop),i<=v.length->s.heap.get? S=some (c8 r ep t)->Q ((v[i]?).map λe=>(e.2,G (i+1))) s->
   adA (adB prog w) A (setNext S (G i) i ep) Q E s:=by
 have L:=J.fits n;refine ae J.tab λp Y o=>?_;have I:=jI n Y;have U:=J.size;clear J;rcases h:w.params.followText "set-order" with _|_
 ·rw[h] at o
  subst o;refine aV (gO Y n) λ_ b d _=>⟨r.toList,A1 p,YT _,rfl,λi s A E Q T f q=>?_⟩;refine adw<|aeZ f rfl L ?_;dsimp only;refine adw<|adw<|aeB<|ady<|aa h ?_;rw[agP X1];have c:(!(UZ (!false) p).plain&&decide (r.size>1))=false:=rfl;refine ad9 (λm=>agR m (by show ¬((!(UZ (!false) p).plain&&decide (r.size>1))=true);refine aa c ?_;decide)) (λ_=>?_);refine adw ?_;show adA _ _ (if (!true&& !r.isEmpty)=true then _ else _) _ _ _;rw[agP<|show ¬(!true&& !r.isEmpty) from X1];refine ady<|ady ?_;have N:WX (UZ (!false) p).place (A1 p i)=i:=by
   clear q;obtain _|i:=i
   ·exact b
   ·refine d i ?_
    rw[Xd,U] at T;exact fg T
  refine aa N ?_;have l:(UZ (!false) p).place[i]?=p[i]?:=by show p.toArray[i]?=_;simp
  refine aa l<|av XU ?_;have M:r.toList.length=p.length:=aa Xd<|aa U<|aa I rfl;rcases k:r.toList[i]? with _|e
  ·rw[k] at q
   have:p[i]?=none:=XW (by rw[YE] at k;exact rA M k);exact aa this q
  ·rw[k] at q
   refine af (Xb.mp k) λg _=>?_;have x:=Gf M g;have u:p[i]?=some (p.getD i 0):=by simp [X8,WS x]
   exact aa u q
 ·refine⟨(afW (w.params.setOrder S ep) r).toList,λ_=>0,lM _ _,rfl,λi s A E Q T f q=>?_⟩
  refine adw<|aeZ f rfl L ?_;dsimp only;refine adw<|adw<|aeB<|ady<|aa h ?_;rw[agO rfl];refine aa (agP<|by simp) (adw<|adw<|aeZ f rfl L ?_);dsimp only;refine adw<|adw<|aeB<|ady<|aa h ?_;rw[agO rfl];refine adw<|aeB<|ady<|ady<|av XU ?_;exact q
end
section
variable{a:Program}{w:World}{A:adC}{E:Value->adx->Prop}{s:adx}
def BH(f:s.heap.get? S=some (c8 e b t))(J:eM l e t r)(n:r.length<=4)
  (q:Q (.ref s.heap.objs.size) {s with heap:=s.heap.push {cls:=.type "set_iterator",data:=.fields #[adI 0,adI 0,.ref S,adI r.length,adI b]}}):adA (adB a w) A (adK<|.ref S) Q E s:=by
 have L:=J.fits n;have I:s.TypeIs (.ref S) "set":=⟨_,f,rfl⟩;refine ae J.tab λp h o=>agL I ac2<|adL ac2 I mM ?_<|F.args_set_iter_1 _;refine adw ?_;show adA _ _ (pure S) _ _ _;refine ady<|adw<|adw<|afX f rfl L<|ady<|adw<|adw<|aeZ f rfl L<|adw<|adw<|aeB<|ady ?_;subst o;refine ady<|ad9 (λm=>agR m (by
  show ¬((!_&&(!true&&decide (e.size>1)))=true);simp)) (λ_=>?_)
 refine adw<|ady<|adw<|wpAny_setEpoch_of f rfl L<|adw<|adT<|ady ⟨_,rfl,"set_iterator",_,⟨_,WA _ rfl,rfl⟩,c0.lookup,?_⟩;exact aa J.size q
def DP(h:HQ s.heap I S G i n e)(q:Q (.ref I) s):adA (adB a w) A (adK (.ref I)) Q E s:=by
 have J:s.TypeIs (.ref I) "set_iterator":=⟨_,h,rfl⟩;refine agL J iQ<|adL iQ J nH ?_<|qb _;exact ady ⟨_,rfl,"set_iterator",_,J,c0.lookup,q⟩
def yF(hh:A.handled=none)(hne:S≠I){es:Array (Int×Value)}{ep:Nat}{acc:List Int}{led:Bool}(J:eM led es t acc)(hn:acc.length<=4){vs:List (Int×Value)}{slot:Nat->Nat}(hl:vs.length=acc.length)
  (hN:∀(i:Nat)(s:adx)(A:adC)(E:Value->adx->Prop)(Q:Option (Value×Nat)->adx->Prop),i<=vs.length->s.heap.get? S=some (c8 es ep t)->Q ((vs[i]?).map λe=>(e.2,slot (i+1))) s->adA (adB a w) A (setNext S (slot i) i ep) Q E s):
  aeS a w A I [I,S] [I] acc.length (λi v=>∃e,vs[i]?=some e/\e.2=v) (λi h=>HQ h I S (slot i) i acc.length ep/\h.get? S=some (c8 es ep t)) where
 sub:=λb hb=>by simp at hb;simp [hb]
 frame:=λ_ _ _ st hk=>⟨hk I Wr _ st.1,hk S (Wu _ Wr) _ st.2⟩
 item:=λi s Q E hi st hQ=>by
  refine ak st λh1 h2=>?_;have hf:=J.fits hn;have hT:s.TypeIs (.ref I) "set_iterator":=⟨_,h1,rfl⟩;obtain⟨e,he⟩:∃e,vs[i]?=some e:=⟨vs[i]'(jq hl hi),WS<|jq hl hi⟩;refine adw<|afk (ael hT c0
   (adL c0 hT hM ?_<|iY _))
  refine adw<|ady<|adw<|agM h1 rfl<|adw<|afX h2 rfl hf ?_;refine ad9 (λhc=>agR hc (by refine aa J.size ?_;simp)) (λ_=>?_);refine adw<|hN i s _ _ _ (Yz<|jq hl hi) h2<|aa he<|adw<|aen h1 (by simp) λh3 e3 s3=>adw<|aen e3 (by simp) λh4 e4 s4=>ady ⟨e.2,rfl,ady ?_⟩;refine hQ e.2 h4 s.toks ⟨e,he,rfl⟩ ⟨?_,?_⟩ λb o hb ho=>?_
  ·have e4:=e4
   delta HQ;refine aa e4 ?_
   rfl
  ·exact(s4.2 S hne).trans ((s3.2 S hne).trans h2)
  ·have hb:b≠I:=λq=>hb<|by simp [q]
   exact(s4.2 b hb).trans ((s3.2 b hb).trans ho)
 done:=λs Q E st hQ=>by
  refine ak st λh1 h2=>?_;have hf:=J.fits hn;have hT:s.TypeIs (.ref I) "set_iterator":=⟨_,h1,rfl⟩;have he:=XW<|Xf hl;refine adw<|afk (ael hT c0
   (adL c0 hT hM ?_<|iY _))
  refine adw<|ady<|adw<|agM h1 rfl<|adw<|afX h2 rfl hf ?_;refine ad9 (λhc=>agR hc (by refine aa J.size ?_;simp)) (λ_=>?_);refine adw<|hN acc.length s _ _ _ (rA hl<|WC<|Ys vs) h2<|aa he<|adw<|aen h1 (by simp) λh3 e3 s3=>adw ?_;refine adw<|adT ?_<|by size_fits
  refine adw<|aej (by first|rfl|(simp only[afQ];rfl)) ?_;refine adT ?_<|by size_fits
  refine adw<|agB<|aa hh<|adw<|ady<|wpAny_throw ?_;refine adw<|aeQ ⟨_,WA _ rfl,rfl⟩ agD ?_;refine ady<|hQ _ s.toks λb o hb ho=>?_;have hb:b≠I:=λq=>hb<|by simp [q]
  exact Wx _ (Wx _<|(s3.2 b hb).trans ho)
 self:=λ_ _ _ _ st hQ=>DP st.1 hQ
def t8{k:Array (Int×Value)}{N:List Int}(z:A.handled=none)(o:s.heap.get? S=some (c8 k B t))(J:eM (!w.params.followText "set-order") k t (gh N))(p:(gh N).length<=4)
  (hQ:∀Y (l:Addr) (am:List Value) n,Kp s.heap Y.heap->Sm s Y->s.heap.get? l=none->Y.heap.get? l=some (adE "list" am.toArray n)->ad4 am (U7 (iq N))->U (.ref l) Y):
  adA (adB a w) A (call (.builtin "sorted") [.ref S]) U E s:=by
 have ar:=lV J.nd mN λy=>by rw[qU,qS]
 refine lX (λK E hK=>?_) (by exact av ar.length_eq<|yY p rfl) hQ;refine aq (DW (prog:=a) (ep:=B) (S:=S) J p) λg ap a2 a7 hN=>?_;have a0:g.length=(gh N).length:=aa a2.length_eq<|aa Xd<|aa J.size rfl;have d:s.TypeIs (.ref S) "set":=⟨_,o,rfl⟩;have a3:=WU o;refine fB (T:="set") (n:=(gh N).length) (P:=λi v=>∃e,g[i]?=some e/\e.2=v) d rfl rfl (λac M U E a8=>?_) (λac M ag K E hK=>?_) (by exact aa adJ<|cy p rfl) λY r k3 m3 ax=>?_
 ·exact ke ⟨_,M _ _ o,rfl⟩ F.slot_set_len.lookup (.inr ⟨rfl,rfl⟩) (a8 false ac.toks)
 ·have aw:=M _ _ o
  have al:=Xi<|WU aw;refine BH aw J p<|hK _ ac.heap.objs.size _ _ _ (yF (A:=A.in1.in1) z al J p a0 hN) ⟨?_,Wx _ aw⟩ (λb a9=>?_) (λa9=>?_) (Kp.push _ _) ⟨ac.toks,_,rfl⟩
  ·exact aa a7 (WA _ rfl)
  ·exact aa (Wj.mp a9) (bX ac.heap)
  ·obtain e|a9:=Wo.mp a9
   ·exact agR e (Xi ag)
   ·exact agR (Wj.mp a9) (YZ a3)
 ·refine ak ax λm u=>?_
  have a4:r.toList=g.map (·.2):=by
   apply ab9;intro i;rcases c:r.toList[i]? with _|v
   ·rw[YE,Xd] at c
    refine aa Xh<|aa (XW<|l6 a0<|rA m c) ?_;rfl
   ·refine ae (u i v<|by exact av XU c) λe G a5=>aa Xh<|aa G ?_;exact agN some a5.symm
  have a6:∀(l:List (Int×Value)),(∀e∈l,∃i L,e=(adP i,.int i L))->ad4 (l.map (·.2)) (l.map zW):=by
   intro l
   induction l with
   |nil=>intro _;exact .nil
   |cons e l I=>
    intro h;refine d9 (h e Wr) λi L f=>?_;subst f;exact .cons i L<|I λx j=>h x<|Wu _ j
  exact hK _ (g.map zW) Y k3 m3 (by exact aa a4<|a6 g λe G=>J.allI e<|a2.mem_iff.mp G)<|((a2.map zW).trans J.perm).trans ar
end
section
variable{Y:Wq}{C:Cl}{d:Nat}
def Cz(h:LA Y.T 5 g t Q):∃v l N,one g=some v/\jU (fe Y.T t v)=some (1,l)/\l.length<=4/\cP l=some N/\fC N/\Q (.d (.lst ((U7 (iq N)).map D.int))) t:=ed h λr e q=>cB e λv a e=>cB e λz m e=>by
 obtain⟨k,l⟩:=z;refine ak (fs e) λz E=>?_;obtain⟨M,J⟩:=z;refine cB E λN n E=>ak (fs E) λf E=>?_;rw[<-Wn E] at q;exact⟨v,l,N,a,M▸m,J,n,f,q⟩
def H4(aw:hW Y C d c):dc Y C d (.bi b c):=by
 intro y k ac fr L A s P z Q hc R G N h;have h:=h;refine Lm hc (λg hh ys a7 al T m B h3=>?_) λg f al T ax a3 a6=>D2 aw T (by refine aa ax<|aa a3<|aa a6 ?_;rfl) R G N h;clear hc;subst T;refine aj (bY m) λp e _ _=>?_;rw[bc e];intro K E qK;refine adw<|ic (v:=.builtin "sorted") G N m (by decide+kernel) (aek (P:=λ_=>True) (by rfl) (λh _=>⟨.machine,.inr<|.inl rfl,Zh rfl⟩) (cv (by rfl) ?_));show adA _ _ (spliced<|(false,eval (.Call hh ys [] a7) ac)::[]) _ _ _;refine aeb<|mR (R':=λh _ u (ns:List Int)=>∃S c ep t,u=.ref S/\h.get? S=some (c8 c ep t)/\eM (!Y.w.params.followText "set-order") c t (gh ns)/\ns.length<=4) (Q:=λns z=>Q (.d<|.lst<|(U7<|iq ns).map D.int) z) aw B (v:=.type "set") (by decide+kernel) (by simp) h3 R G N h (λus i U P' ag G' S r q=>?_) _ E λu ns U P' ag G' S r q=>?_
 ·refine jx (Cz q) λv l ns hv e1 e2 e3 e4 q=>ae (g7 r hv) λu I r1=>?_;clear r;subst I
  refine aG (yS (br G' r1) e1<|by decide) λa ws I o _ rd=>?_;subst I;have M:=o.elim (λh=>nomatch h.1) λh=>h.2;have am:=jH e3;have a2:ns.length=l.length:=by rw[am,Wm]
  rw[am] at rd;have hI:=U9 rd;have e4:∀x∈ns,-64<=x/\x<64:=λx o=>agS<|Wt.mp e4 x o;intro K E qK;exact qF R.handled M hI (by have:=Zn hI;simp;exact l6 this<|l6 a2 e2) e4 λh' tk c ep t ho J hk=>qK _ ns {U with heap:=h',toks:=tk} P' ag (G'.ext hk) (Step.ext hk) ⟨_,c,ep,t,rfl,ho,J,l6 a2 e2⟩ q
 ·refine bE r λj ap ep t I ho J hn=>?_;clear r;subst I
  refine ady ⟨trivial,?_⟩;have a4:=rB ns;refine t8 R.handled ho J (rA (X6 a4)<|qI hn) λs2 l ar n hk m2 a0 a5 hI=>?_;have G2:=(G'.ext hk).sm m2;have S2:Step [] U.heap P' s2.heap P':=Step.ext hk;have rd:=qE (W:=Y.W) (h:=s2.heap) (ow:=own P') hI;refine qK _ (.d<|.lst<|(U7<|iq ns).map D.int) s2 P' ag G2 (S.trans S2) (.d<|.lst ⟨n,a5⟩ (G'.fresh a0) ?_ rd) q;have m:=Zn hI;have B:=(sortI_perm<|iq ns).length_eq;have h3:=lV mN J.nd λy=>by rw[qU,qS]
  have:=h3.length_eq;exact Wh (Xf<|m.trans<|B.trans this)<|Wh a4<|cy hn rfl
end
def z8(Y:Wq)(C:Cl)(d:Nat):List PE->Prop
 |[]=>True
 |t::ts=>nh Y C d t/\z8 Y C d ts
section
variable{Y:Wq}{C:Cl}{d:Nat}
def iZ:∀{e:List PE},nB Y C d e->hW Y C d e:=by
 intro z
 induction z with
 |nil=>
  intro _;exact ze
 |cons _ _ i=>
  intro h;exact wI h.1<|i h.2
def O3:∀{e:List PE},nB Y C d e->N7 Y C d e:=by
 intro z
 induction z with
 |nil=>
  intro _;exact(λ_ _ _ _ _ h=>h.elim)
 |cons _ _ i=>
  intro h;exact Cr h.1<|i h.2
def Nl:∀{e:List PE},z8 Y C d e->zG Y C d e:=by
 intro z
 induction z with
 |nil=>
  exact λ_=>yX
 |cons _ _ i=>
  exact λh=>xI h.1<|i h.2
def Kq:∀{e:List PE},nB Y C d e->JU Y C d e:=by
 intro z
 induction z with
 |nil=>
  exact λ_=>Ep
 |cons _ _ i=>
  exact λh=>za h.1<|i h.2
def Lx:∀{e:List PE},z8 Y C d e->JX Y C d e:=by
 intro z
 induction z with
 |nil=>
  intro _;exact Fg
 |cons _ _ i=>
  intro h;exact zM h.1<|i h.2
end
section
variable(Y:Wq)(d:Nat)
def both(h:dc Y (TF Y d) d e)(a:∀{c:Nm}{k:Ks}{x:adz},cE c k e x->Vl x):dc Y (TF Y d) d e/\nh Y (TF Y d) d e:=⟨h,Dx h λq=>a q⟩
def mE:∀e:PE,dc Y (TF Y d) d e/\nh Y (TF Y d) d e:=
 @PE.rec (λe=>dc Y (TF Y d) d e/\nh Y (TF Y d) d e) (Hk Y (TF Y d) d) (λg=>∀G,nG Y (TF Y d) d G->nG Y (TF Y d) d (g::G)) (λE=>nB Y (TF Y d) d E/\z8 Y (TF Y d) d E) (nG Y (TF Y d) d) (KI Y (TF Y d) d)
  ⟨A6,zy⟩
  (λx=>both Y d (GG x) λh=>pT (qq h) rfl)
  (λn=>both Y d (NG n) λh=>pT (qq (ew h).1) rfl)
  (λn=>both Y d (NH n) λh=>pT (qq (kB h).1) rfl)
  (λ_ _ _ l r=>both Y d (Eb l.1 r.1) λh=>pT (qq h) rfl)
  (λ_ e=>both Y d (D5 e.1) JG)
  (λ_ e=>⟨FY e.1,DY e.2⟩)
  (λ_ _ E=>⟨IL<|O3 E.1,Hr<|Nl E.2⟩)
  (λ_ _ _ l L=>⟨DQ l.1<|Kq L.1,FQ l.1<|Kq L.1⟩)
  (λ_ _ _ q t f=>⟨Dy q.2 t.1 f.1,FL q.2 t.2 f.2⟩)
  (λ_ E=>both Y d (D4<|iZ E.1) λh=>pT (qq h) rfl)
  (λ_ _ E=>both Y d (HX<|iZ E.1) λh=>pT (qq h) rfl)
  (λ_ _ _ _ v=>both Y d (ET v.1) λh=>pT (qq h) rfl)
  (λ_ _ _ M J=>both Y d (Iq J M.1) λh=>pT (qq h) rfl)
  (λ_ _ e i=>both Y d (FD e.1 i.1) λh=>pT (qq h) rfl)
  (λ_ _ _ e lo T=>both Y d (JC e.1 lo T) λh=>pT (qq h) rfl)
  (λ_ _ e=>both Y d (Jw e.1) λh=>pT (qq h) rfl)
  (λ_ _ E=>both Y d (yU<|iZ E.1) λh=>pT (qq h) rfl)
  (λ_ _ E=>both Y d (H4<|iZ E.1) λh=>pT (qq h) rfl)
  (λ_ _ E=>both Y d (EA<|iZ E.1) λh=>pT (qq h) rfl)
  (λ_ _ e=>both Y d (C1 e.1) λh=>pT (qq h) rfl)
  (λ_ _ E=>both Y d (C2<|iZ E.1) λh=>pT (qq h) rfl)
  (λ_ _ _ e E=>both Y d (Ja e.1<|iZ E.1) λh=>pT (qq h) rfl)
  (λf=>both Y d (Fh f) λh=>nomatch h)
  (λ_ e=>both Y d (Jq e.1) λh=>pT (qq h) rfl)
  (λ_ e=>Hn e.1)
  (λ_ E=>vQ<|iZ E.1)
  (λ_ _ a b=>ve a.1 b.1)
  (λ_ e=>rL e.1)
  (λ_ _ _ I N _ r=>⟨I,Lx N.2,r⟩)
  ⟨trivial,trivial⟩
  (λ_ _ e E=>⟨⟨e.1,E.1⟩,e.2,E.2⟩)
  trivial
  (λ_ G g r=>g G r)
  zD
  (λ_ e=>Ap e.1)
def Qt(E:List PE):nB Y (TF Y d) d E/\z8 Y (TF Y d) d E:=by
 induction E with
 |nil=>exact⟨trivial,trivial⟩
 |cons e _ r=>exact⟨⟨(mE Y d e).1,r.1⟩,(mE Y d e).2,r.2⟩
def mI(i:PI):Hk Y (TF Y d) d i:=by
 cases i with
 |e e=>exact Hn (mE Y d e).1
 |kW E=>exact vQ<|iZ (Qt Y d E).1
 |zip a b=>exact ve (mE Y d a).1 (mE Y d b).1
 |enum e=>exact rL (mE Y d e).1
def mG(G:List PG):nG Y (TF Y d) d G:=by
 induction G with
 |nil=>exact trivial
 |cons g _ r=>exact @PG.casesOn (λg=>nG Y (TF Y d) d<|g::_) g λ_ i I=>⟨mI Y d i,Lx (Qt Y d I).2,r⟩
def mL:∀t:PL,Jm Y (TF Y d) d t
 |.t _=>LJ
 |.at e _=>JA (mE Y d e).1
 |.sub e i=>El (mE Y d e).1 (mE Y d i).1
def SE:∀T:List PL,C6 Y (TF Y d) d T:=by
 intro z
 induction z with
 |nil=>
  exact trivial
 |cons t T i=>
  exact⟨mL Y d t,i⟩
def mS:∀t:PS,yM Y (TF Y d) d t:=
 @PS.rec (yM Y (TF Y d) d) (kF Y (TF Y d) d) Aj
  (λt e=>FI (mL Y d t) (mE Y d e).1 λ_ L g _=>⟨mG Y d g,(mE Y d L).1⟩)
  (λT E=>D1 (SE Y d T) (Qt Y d E).1)
  (λe=>IC (mE Y d e).1)
  (λc _ _ t f=>Dd (mE Y d c).2 t f)
  (λ_ i _ b=>Ez (mI Y d i) b)
  (λc _ b=>DK (mE Y d c).2 b)
  (λe=>Ec (mE Y d e).1)
  (λ_ b=>EU b)
  rW
  (λ_ _ t T=>oB t T)
def Rd(T:List PS):kF Y (TF Y d) d T:=by
 induction T with
 |nil=>exact rW
 |cons t _ r=>exact oB (mS Y d t) r
end
def FH(Y:Wq)(fns:∀f F,Y.T.fn f=some F->qN Y.K Y.c (Y.fa f) F)(E:∀f F g,Y.T.fn f=some F->sh F.body=some g->jA Y.K Y.prog Y.c (Y.fa f) (Y.W.cl 2) (Y.fa g))
  (h:vF Y.T (TF Y d) f v t Q):TF Y (d+1) f v t Q:=by
 have G:=h;unfold vF at G;refine ed G λF L _=>fnIn (fns f F L) λo s b I=>?_;rcases e:BZ F.body with _|p
 ·exact HC I L e (Rd Y d F.body) h
 ·exact I8 I L p.2 (E f F p.1.1 L (by unfold sh;refine aa e ?_;rfl)) (Rd Y d p.1.2) h
def TF.le(Y:Wq)(h:TF Y d f vs t Q)(a:d<=e):TF Y e f vs t Q:=
 λA s P u R T G r k=>h A s P u R (T.le a) G r k
def Br(Y:Wq)(fns:∀f F,Y.T.fn f=some F->qN Y.K Y.c (Y.fa f) F)(s:∀f F g,Y.T.fn f=some F->sh F.body=some g->jA Y.K Y.prog Y.c (Y.fa f) (Y.W.cl 2) (Y.fa g)):Calls Y.T (TF Y):=
 ⟨λh=>FH Y fns s h,λh a=>TF.le Y h a⟩
section
def eu{L:Type}{v:L}:∀{l:List (Nat×L)},Vd l B=some v->(B,v)∈l:=by
 intro l
 induction l with
 |nil=>exact λe=>nomatch e
 |cons p l i=>
  intro e;obtain⟨y,u⟩:=p;have e:(if y==B then some u else Vd l B)=some v:=e;cases q:y==B with
  |true=>rw[q] at e;obtain rfl:=Wn e;rw[<-agQ.mp q];exact Wr
  |false=>rw[q] at e;exact Wu _<|i e
def fM{m v:Nat}:∀{l:List ((Nat×Nat)×Nat)},gG l B m=some v->((B,m),v)∈l:=by
 intro l
 induction l with
 |nil=>exact λe=>nomatch e
 |cons p l i=>
  intro e;obtain⟨⟨a,b⟩,u⟩:=p;have e:(if a==B&&b==m then some u else gG l B m)=some v:=e;cases q:a==B&&b==m with
  |true=>rw[q] at e;obtain rfl:=Wn e;rw[<-agQ.mp (ew q).1,<-agQ.mp (ew q).2];exact Wr
  |false=>rw[q] at e;exact Wu _<|i e
def sW{p:Nat->Fn->Bool}:∀{l:List Fn}{i:Nat},wo p i l->∀{a:Nat}{F:Fn},l[a]?=some F->p (i+a) F:=by
 intro l
 induction l with
 |nil=>exact λ_ _ _ e=>nomatch e
 |cons G l I=>
  intro i h a F e;have h:(p i G&&wo p (i+1) l):=h;cases a with
  |zero=>obtain rfl:=Wn e;exact(ew h).1
  |succ a=>rw[show i+(a+1)=i+1+a from by rw[W3,Xj 1 a]];exact I (ew h).2 e
def vp{l:List String}(h:l[B]?=none):sL l B=⟨⟨Yg (B+1) 1114111⟩⟩:=by unfold sL;rw[h]
def wt{l:List String}{s:String}(h:l[B]?=some s):sL l B=Xw s:=by unfold sL;rw[h]
noncomputable def ML(l:List String):Bool:=l.all λs=>(Xw s).cps.toList.head? !=some 1114111
def tY{l:List String}{p:Str->Prop}(h:∀s∈l,p (Xw s))(t:∀n,p ⟨⟨Yg (n+1) 1114111⟩⟩)(i:Nat):p (sL l i):=by
 cases e:l[i]? with
 |none=>exact vp e▸t i
 |some s=>exact wt e▸h s (X0 e)
def CN{l:List String}(m:(l.map Xw).Nodup)(h:ML l)(i j:Nat)(e:sL l i=sL l j):i=j:=by
 have N:∀{s:String}{n:Nat},s∈l->Xw s≠⟨⟨Yg (n+1) 1114111⟩⟩:=λ{s n} f q=>by
  have:=Wt.mp h s f;rw[q] at this;exact Ws<|show false=true from this
 cases T:l[i]? with
 |none=>
  rw[vp T] at e;cases d:l[j]? with
  |none=>
   rw[vp d] at e;have:=agN (λx:Str=>x.cps.toList.length) e;simp only[Y1] at this;exact Yb this
  |some t=>rw[wt d] at e;exact agR e.symm<|N<|X0 d
 |some s=>
  rw[wt T] at e;cases d:l[j]? with
  |none=>rw[vp d] at e;exact agR e<|N<|X0 T
  |some t=>
   rw[wt d] at e;have J:i<(l.map Xw).length:=by rw[Wm];exact(Xb.mp T).1
   refine(List.getElem?_inj J m).mp ?_;rw[Xh,Xh,T,d];exact agN some e
def zQ{x:Str}{G:Prop}(h:(x.cps.toList.head? !=some 1114111))(q:⟨⟨Yg (B+1) 1114111⟩⟩=x):G:=by
 rw[<-q] at h;exact Ws<|show false=true from h
def CL:U3 where
 nm:=cN.nm
 st:=cN.st
 gd:=yH
 cl:=GI
 jD:=CN (by decide+kernel) (by decide+kernel)
 pq:=CN (by decide+kernel) (by decide+kernel)
 Gm:=tY (p:=λx=>aau x=true) (λs hs=>Wt.mp (show(wz.all λs=>aau<|Xw s)=true by decide+kernel) s hs) λn=>by
  unfold aau
  rw[<-Array.all_toList]
  exact Wt.mpr λx hx=>by rw[(List.mem_replicate.mp hx).2];rfl
 fld:=kN
 nm_ok:=tY (p:=λx=>(x==("__debug__":Str))=false/\(x==("__classdict__":Str))=false) (λs hs=>by
  have:=Wt.mp (show(Vr.all λs=> !(Xw s==("__debug__":Str))&& !(Xw s==("__classdict__":Str)))=true by decide+kernel) s hs
  exact⟨kC (ew this).1,kC (ew this).2⟩) λn=>⟨agV.mpr λq=>zQ (by decide+kernel) q,agV.mpr λq=>zQ (by decide+kernel) q⟩
section
variable{K:Frag}{h:Heap}
def IM{T:String}{v:Value}{p:Addr×List Value}(e:Ai K T v=some p):v=.ref p.1/\(∃n,K.lookup p.1=some {cls:=.type T,data:=.seq p.2.toArray n})/\p.2.length<=lim:=by
 unfold Ai at e;cases v with
 |ref a=>
  dsimp only at e;cases q:K.lookup a with
  |none=>rw[q] at e;exact no e
  |some o=>
   rw[q] at e;obtain⟨c,d,L,s⟩:=o;cases d with
   |some=>exact no e
   |none=>
    cases L with
    |seq x n=>
     dsimp only at e;refine ak (fs e) λm t=>aC m λE Y f=>?_;obtain rfl:=E;obtain rfl:=Wn t;refine⟨rfl,⟨n,?_⟩,by rw[Xd];exact f⟩;rw[q,aaH Y]
    |_=>exact no e
 |_=>exact no e
def Jg(e:(k7 K L).isEmpty=false):∃n,K.lookup L=some {cls:=.type "dict",data:=.dict (k7 K L).toArray n}:=by
 unfold k7 at e ⊢;cases q:K.lookup L with
 |none=>rw[q] at e;exact Ws e
 |some o=>
  rw[q] at e;obtain⟨c,d,b,s⟩:=o;cases d with
  |some=>exact Ws e
  |none=>
   cases b with
   |dict E n=>
    dsimp only at e ⊢;by_cases y:c=.type "dict"/\s.size=0
    ·rw[agO y];exact⟨n,by rw[y.1,aaH y.2]⟩
    ·rw[agP y] at e;exact Ws e
   |_=>exact Ws e
def vN{x:Str}{v:Value}(e:uC x v):∃t,v=.str x t:=by
 cases v with
 |str y t=>exact⟨t,by rw[agQ.mp<|show(y==x)=true from e]⟩
 |_=>exact Ws e
def Hq(X:K.In h):∀(d:D){v:Value},CT K d v->DR CL h [] v d:=by
 refine @D.rec (λd=>∀{v:Value},CT K d v->DR CL h [] v d) (λl=>∀{m:List Value},xB K l m->bL CL h [] m l) ?_ ?_ ?_ ?_ (λ_ _ e=>Ws e) ?_ ?_ (λ_ _ _ e=>Ws e) ?_ ?_
 ·intro v e
  rw[agQ.mp<|show(v==.none)=true from e];exact .none
 ·intro b v e
  rw[agQ.mp<|show(v==.bool b)=true from e];exact .bool b
 ·intro i v e
  cases v with
  |int j t=>rw[agQ.mp<|show(j==i)=true from e];exact .int i t
  |_=>exact Ws e
 ·intro k v e
  refine af (vN e) λt e=>?_;rw[e];exact .str rfl
 ·intro g v e
  rw[agQ.mp<|show(v==.ref (yH g))=true from e];exact .gd rfl
 ·intro l I v e
  have e:(match Ai K "tuple" v with|some p=>xB K l p.2|none=>false)=true:=e;cases q:Ai K "tuple" v with
  |none=>rw[q] at e;exact Ws e
  |some p=>
   rw[q] at e;refine aC (IM q) λE z o=>af z λn u=>?_;rw[E];exact .tup ⟨n,X _ _ u⟩ (λq=>nomatch q) o (I e)
 ·intro m e
  rw[XN.mp<|show m.isEmpty=true from e];exact .nil
 ·intro d l r J m e
  cases m with
  |nil=>exact Ws e
  |cons v m=>exact .cons (r (ew<|show(CT K d v&&xB K l m)=true from e).1) (J (ew<|show(CT K d v&&xB K l m)=true from e).2)
def Hh(X:K.In h){d:D}{v:Value}(e:CT K d v):DR CL h [] v d:=Hq X d e
def JL{w:World}(X:K.In h):∀{l:List (D×D)}{E:List DictEntry},oV K l E->E.map (·.hash)=l.map (λe=>aef w (cN.st (nt e.1)))->(l.map λe=>nt e.1).Nodup->
  ∃b:List ((Str ⊕ Int)×Value),Pairs (bk Ym w) E b/\lJ CL h [] b l/\b.map (·.1)=(l.map λe=>(.inl (cN.st (nt e.1)):Str ⊕ Int))/\∀e∈E,∃k,nW k e.key/\e.hash=(bk Ym w).hash k:=by
 intro l
 induction l with
 |nil=>
  intro E e _ _;rw[XN.mp<|show E.isEmpty=true from e];exact⟨[],.nil,.nil,rfl,λ_ h=>nomatch h⟩
 |cons p l i=>
  intro E e y n;obtain⟨k,d⟩:=p;cases E with
  |nil=>exact Ws e
  |cons x E=>
   refine aC (kB<|show(Il k x.key&&CT K d x.val&&oV K l E)=true from e) λG v o=>?_;cases k with
   |str k=>
    refine af (vN G) λt B=>ak (Xk<|show x.hash::E.map (·.hash)=aef w (cN.st k)::l.map (λe=>aef w<|cN.st<|nt e.1) from y) λm u=>aK (i o u (WO.mp n).2) λb a A Y z=>?_;have M:nW (.inl<|cN.st k) x.key:=by rw[B];exact agW _
    refine⟨(.inl<|cN.st k,x.val)::b,.cons M rfl a,.cons ⟨.inl ⟨k,rfl,rfl⟩,Hh X v⟩ A,by rw[X3,Y];rfl,λe he=>?_⟩;obtain rfl|he:=Wo.mp he
    ·exact⟨_,M,m⟩
    ·exact z e he
   |_=>exact Ws G
end
section
variable{w:World}{h:Heap}{u t:Str->Option Value}{K:Frag}
def Cv(c:Nat):GI c∈Oq:=by
 unfold GI;rw[aa4];cases e:Oq[c]? with
 |none=>exact Wr
 |some a=>exact X0 e
def yx{E:List (D×D)}:∀{l:List (Nat×List (D×D))},(l.all λp=>oV K p.2 (k7 K (yH p.1)))=true->l.flatMap (λp=>(k7 K (yH p.1)).map (·.hash))=l.flatMap (λp=>p.2.map λe=>aef w (cN.st (nt e.1)))->
  (B,E)∈l->(k7 K (yH B)).map (·.hash)=E.map λe=>aef w (cN.st (nt e.1)):=by
 have L:∀{l:List (D×D)}{E:List DictEntry},oV K l E->E.length=l.length:=by
  intro l
  induction l with
  |nil=>intro E e;rw[XN.mp<|show E.isEmpty=true from e];rfl
  |cons p l I=>
   intro E e;cases E with
   |nil=>exact Ws e
   |cons x E=>exact agN Y6<|I (kB<|show(Il p.1 x.key&&CT K p.2 x.val&&oV K l E)=true from e).2.2
 intro l
 induction l with
 |nil=>exact λ_ _ h=>nomatch h
 |cons p l I=>
  intro a e m;rw[XO,XO] at e;have a:=ew<|show(oV K p.2 (k7 K<|yH p.1)&&l.all λp=>oV K p.2<|k7 K<|yH p.1)=true from a;obtain⟨G,v⟩:=List.append_inj e (by rw[Wm,Wm];exact L a.1);obtain q|m:=Wo.mp m
  ·subst q;exact G
  ·exact I a.2 v m
def JF(X:K.In h)(F:qY K)(H:lS K=hashW w){E:List (D×D)}(e:tab.yN B=some E):dY CL Ym w h [] (CL.gd B) 0 E/\(CL.gd B==adX)=false:=by
 have m:=eu<|show Vd w0 B=some E from e;have F:=Wt.mp (yw F).2.2.2;have c:=ew<|F _ m;have Y:=yx (K:=K) (Wt.mpr λp Y=>(ew<|F p Y).1) H m;have st:=Wt.mp (show(w0.all λp=>decide ((p.2.map λe=>nt e.1).Nodup)&& !(yH p.1==adX))=true by decide+kernel) _ m;refine aK (JL X c.1 Y<|agS (ew st).1) λk A d f v=>af (Jg<|kC c.2) λn J=>⟨.inl ⟨Wz _,k,⟨_,_,n,X _ _ J,⟨rfl,rfl,rfl⟩,rfl,λe j=>v e<|List.mem_toArray.mp j,A,?_⟩,d⟩,kC (ew st).2⟩;rw[f];exact acb (R:=λa b:D×D=>nt a.1≠nt b.1) _ (λa b q e=>q<|CL.pq _ _<|adh e)<|List.pairwise_map.mp (agS (ew st).1)
def SY(w:World)(h:Heap)(u t:Str->Option Value)(K:Frag)(os:adF)(X:K.In h)(F:Vs K=true)(H:lS K=hashW w)(lim:h.NoLimit)(g:h.Ns adH u)(b:h.Ns adW t)(bu:∀x:Str,x≠"__name__"->t x=aeR x):Wq where
 W:=CL
 N:={gn:=cN.gn,fn:=cN.fn,cn:=cN.cn,an:=cN.an}
 T:=tab
 prog:=Ym
 w:=w
 h₀:=h
 K:=K
 mg:=u
 mb:=t
 X:=X
 lim:=lim
 g:=g
 b:=b
 bu:=bu
 sys:=by
  cases e:K.lookup adX with
  |none=>have:=(yw (kB F).2.2).1;rw[e] at this;cases this
  |some o=>exact⟨o,X _ _ e⟩
 yN:=λi es e=>JF X (kB F).2.2 H e
 chars:=λk cs e=>by
  have m:=Wt.mp (show(Mj.all λp=>(cN.st p.1).cps.toList.map (λc=>[c])==p.2.map λc=>(cN.st c).cps.toList)=true by decide+kernel) _ (eu<|show Vd Mj k=some cs from e)
  have m:=agQ.mp m
  refine⟨by have:=agN Ys m;rw[Wm,Wm,Xd] at this;exact this,λj c hc=>?_⟩
  have m:=agN (λl=>l[j]?) m
  dsimp only at m
  rw[Xh,Xh,hc,XU] at m
  cases q:(cN.st k).cps[j]? with
  |none=>rw[q] at m;cases m
  |some cp=>
   rw[q] at m
   refine⟨cp,q,?_⟩
   show cN.st c=_
   have m:[cp]=(cN.st c).cps.toList:=Wn m
   cases hq:cN.st c with
   |mk cps=>rw[hq] at m;rw[show cps=#[cp] from by rw[<-abL (xs:=cps),<-m]]
 my:=λk c e=>by
  have m:=agQ.mp<|Wt.mp (show(z9.all λp=>cN.st p.2==⟨((cN.st p.1).cps.toList.take 7).toArray⟩)=true by decide+kernel) _ (eu<|show Vd z9 k=some c from e)
  exact m
 short:=λk hk=>by
  rcases hk with e|e
  ·obtain⟨cs,e⟩:=Ye.mp e
   exact Wi<|Wt.mp (show(Mj.all λp=>W2 (cN.st p.1).cps.size 1000000)=true by decide+kernel) _ (eu<|show Vd Mj k=some cs from e)
  ·refine af (Ye.mp e) λcs e=>?_
   exact Wi (Wt.mp (show(z9.all λp=>W2 (cN.st p.1).cps.size 1000000)=true by decide+kernel) _ (eu<|show Vd z9 k=some cs from e))
 gt:=λx d e=>by
  have m:=Wt.mp (yw (kB F).2.2).2.2.1 _<|eu<|show Vd QP x=some d from e
  revert m
  cases q:aed K adH (cN.gn x) with
  |none=>exact λm=>Ws m
  |some r=>cases r with
   |none=>exact λm=>Ws m
   |some v=>exact λm=>⟨v,mg_of X g q,Hh X m⟩
 os:=os
 fa:=sM
 cls:=λc=>(ew<|Wt.mp (ew (kB F).2.1).1 _<|Cv c).1
 fld:=λc a ha=>agQ.mp (Wt.mp (ew<|Wt.mp (ew (kB F).2.1).1 _<|Cv c).2 a ha)
 Aw:=by decide
 mth:=λc m f e=>by
  have q:=yw<|Wt.mp (ew (kB F).2.1).2 _<|fM<|show gG HB c m=some f from e
  exact⟨agQ.mp q.1,agQ.mp q.2.1⟩
 mfl:=λc m f e x hx q=>by
  have:=Wt.mp (Wt.mp (show(HB.all λp=>kN.all λx=>cN.an p.1.2 !=cN.nm x)=true by decide+kernel) _ (fM<|show gG HB c m=some f from e)) x hx
  exact agR q (ag0.mp this)
 ini:=λ_ _ _=>rfl
 c:=cN
 tT:=rfl
 cst:=rfl
 QH:=rfl
 QY:=rfl
 Rz:=rfl
 bl:=λp hp=>mg_none_of X g (agQ.mp<|Wt.mp (yw (kB F).2.2).2.1 p hp)
 dot:=tY (p:=λx=>x≠(".0":Str)) (λs hs=>by
  have:=Wt.mp (show(Vr.all λs=> !(Xw s==(".0":Str)))=true by decide+kernel) s hs
  exact agV.mp<|kC this) λn q=>zQ (by decide+kernel) q
 gf:=λf hf=>by
  have hl:∃G,fns[f]?=some G:=by
   cases e:fns[f]? with
   |some G=>exact⟨G,rfl⟩
   |none=>
    have h1:fns.length<=f:=YE.mp e
    have h2:lB[f]?=none:=YE.mpr<|Wh (show lB.length<=fns.length by decide+kernel) h1
    have hf:(match lB[f]? with|some p=>p.1==""|none=>false)=true:=hf
    rw[h2] at hf;cases hf
  refine af hl λG hG=>?_
  have q:=kB<|sW (kB F).1 hG
  rw[Yx] at q
  have q:=q.2.2
  rw[hf] at q
  have q:=ew<|show(aed K adH (cN.fn f)==some (some<|.ref<|sM f)&&aee K (.ref<|sM f))=true from q
  exact⟨mg_of X g<|agQ.mp q.1,q.2⟩
 gc:=λn f e=>by
  have q:=yw<|Wt.mp (ew (kB F).2.1).2 _<|fM<|show gG HB n 0=some f from e
  exact⟨mg_of X g<|agQ.mp (ew q.2.2.2).1,(ew q.2.2.2).2⟩
 kf:=λn m f e=>(yw<|Wt.mp (ew (kB F).2.1).2 _<|fM<|show gG HB n m=some f from e).2.2.1
def Np{K:Frag}(F:Vs K)(f:Nat)(G:Fn)(e:tab.fn f=some G):qN K cN (sM f) G:=by
 have q:=kB<|sW (kB F).1<|show fns[f]?=some G from e;rw[Yx] at q;exact q.1
def JN{K:Frag}(F:Vs K)(f:Nat)(G:Fn)(k:Nat)(e:tab.fn f=some G)(g:sh G.body=some k):jA K Ym cN (sM f) (GI 2) (sM k):=by
 have q:=kB<|sW (kB F).1<|show fns[f]?=some G from e;rw[Yx] at q;have q:=q.2.1;rw[g] at q;exact q
end
end
end
end Mm
namespace Mm.G
variable{U Y:Nat}{M g:List Int}{J I:Int}{G:List Nat}
def Cm(C:Nat->Cl):Prop:=∀(d:Nat)(l:List Int)(Q:V->UT->Prop),Q (.d<|.bool true) []->C (d+80) 97 [.d<|.lst<|l.map D.int] [] Q
open Classical in
@[irreducible] def C:Nat->Cl:=if h:∃C:Nat->Cl,Calls tab C/\¬Cm C then h.choose else λ_ _ _ _ _=>True
def H:Calls tab C:=by
 unfold C;by_cases h:∃C:Nat->Cl,Calls tab C/\¬Cm C
 ·rw[dif_pos h];exact h.choose_spec.1
 ·rw[dif_neg h];exact⟨λ_=>trivial,λ_ _=>trivial⟩
def H7(q:Cm C){c:Nat->Cl}(h:Calls tab c):Cm c:=ag1 λn=>by
 have e:∃C:Nat->Cl,Calls tab C/\¬Cm C:=⟨c,h,n⟩;unfold C at q;rw[dif_pos e] at q;exact e.choose_spec.2 q
def aX{b:Bool}{P N:Prop}(t:b=true->P)(f:b=false->N):(match (generalizing:=false) b with|true=>P|false=>N):=by
 cases b
 ·exact f rfl
 ·exact t rfl
def bM{b:Bool}{P N:Prop}(h:b=false)(f:N):(match (generalizing:=false) b with|true=>P|false=>N):=by
 subst h;exact f
def eB{b:Bool}{P N:Prop}(h:b=true)(f:P):(match (generalizing:=false) b with|true=>P|false=>N):=by
 subst h;exact f
def ai{k:L->Prop}(h:o=some a)(q:k a):(match (generalizing:=false) o with|some a=>k a|none=>False):=by
 subst h;exact q
def bG(h:b=true)(q:k):(match (generalizing:=false) b with|true=>k|false=>False):=by
 subst h;exact q
def qo(e:L->D)(f:L->List D)(st:dx src A t):
  ∀{b:List L}{o:List D}{Q:List D->UT->Prop},(∀x∈b,∀K:List D->UT->Prop,K (f x) t->B (e x) t K)->
   (o++b.flatMap f).length<=lim->Q (o++b.flatMap f) t->bb src A B (b.map e) o t Q:=by
 intro b
 induction b with
 |nil=>intro o Q _ _ q;rw[List.flatMap_nil,WI] at q;exact q
 |cons x b i=>
  intro o Q G h q;refine G x (Wr ..) _ ⟨st,?_⟩;rw[XO,<-Xq] at h q;exact bG (XD.mpr<|Wh (by exact aa (Wv (as:=o++f x))<|WD _ _) h) (i (λy a=>G y<|Wu _ a) h q)
def sr(f:L->a)(g:List L):g.flatMap (λx=>[f x])=g.map f:=by
 induction g with
 |nil=>rfl
 |cons x g i=>refine aa XO<|aa i ?_;rfl
def uJ{L:Type}{a:List D}{B:D->UT->(List D->UT->Prop)->Prop}{g:List L}{Q:List D->UT->Prop}(e f:L->D)(st:dx src a t)
  (G:∀x∈g,∀K:List D->UT->Prop,K [f x] t->B (e x) t K) (h:g.length<=lim) (q:Q (g.map f) t):bb src a B (g.map e) [] t Q:=
 qo e (λx=>[f x]) st G (by rw[sr,ZD,Wm];exact h) (by rw[sr];exact q)
def vg(p:L->Bool)(f:L->a)(g:List L):g.flatMap (λx=>if p x then [f x] else [])=(g.filter p).map f:=by
 induction g with
 |nil=>rfl
 |cons x g i=>refine aa XO<|aa i<|aa Zd ?_;cases p x<;>rfl
def fz{L:Type}{a:List D}{B:D->UT->(List D->UT->Prop)->Prop}{g:List L}{Q:List D->UT->Prop}(e f:L->D)(p:L->Bool)(st:dx src a t)
  (G:∀x∈g,∀K:List D->UT->Prop,(p x->K [f x] t)->(p x=false->K [] t)->B (e x) t K) (J:g.length<=lim) (q:Q ((g.filter p).map f) t):bb src a B (g.map e) [] t Q:=
 qo e (λx=>if p x then [f x] else []) st (λx i K k=>G x i K (λh=>by rw[h] at k;exact k) (λh=>by rw[h] at k;exact k)) (by rw[vg,ZD,Wm];exact Wh (Xv ..) J) (by rw[vg];exact q)
def aQ{L Y:Type}{f:L->Y}{x:List L}(h:x.length<=lim):W2 (x.map f).length lim:=XD.mpr (by rw[Wm];exact h)
def dj{L Y:Type}{f:L->Y}{p:L->Bool}{x:List L}(h:x.length<=lim):W2 ((x.filter p).map f).length lim:=aQ<|Wh (Xv ..) h
def AA{L:Type}{a:List D}{B:D->UT->(List D->UT->Prop)->Prop}{xs:List L}{Q:List D->UT->Prop}(e:L->D)(f:L->List D)
  (G:∀x∈xs,∀K:List D->UT->Prop,K (f x) t->B (e x) t K) (h:(xs.flatMap f).length<=lim) (q:Q (xs.flatMap f) t):bb .no a B (xs.map e) [] t Q:=
 qo (src:=.no) e f trivial G h q
def fh{L:Type}{a:List D}{B:D->UT->(List D->UT->Prop)->Prop}{g:List L}{Q:List D->UT->Prop}(e f:L->D)
  (G:∀x∈g,∀K:List D->UT->Prop,K [f x] t->B (e x) t K) (h:g.length<=lim) (q:Q (g.map f) t):bb .no a B (g.map e) [] t Q:=
 uJ (src:=.no) e f trivial G h q
def bh{L:Type}{a:List D}{B:D->UT->(List D->UT->Prop)->Prop}{g:List L}{Q:List D->UT->Prop}(e f:L->D)(p:L->Bool)
  (G:∀x∈g,∀K:List D->UT->Prop,(p x->K [f x] t)->(p x=false->K [] t)->B (e x) t K) (h:g.length<=lim) (q:Q ((g.filter p).map f) t):bb .no a B (g.map e) [] t Q:=
 fz (src:=.no) e f p trivial G h q
abbrev m9:=List<|Int×Int
noncomputable def iE(p:Int×Int):D:=.tup [.int p.1,.int p.2]
noncomputable def aP(d:m9):D:=.tup<|d.map iE
def JV(p:D×m9):D:=.tup [p.1,aP p.2]
noncomputable def aI(i:Int):D:=.int i
noncomputable def aH(x:Nat):D:=.int x
def bS(xs:List Nat):D:=.tup<|xs.map aH
def cC(xs:List Int):D:=.tup<|xs.map aI
structure nq where
 eq:Bool
 as:List Int
 xs:List Nat
 c:Int
noncomputable def nq.en(l:nq):D:=.tup [.str<|if l.eq then 57 else 60,cC l.as,bS l.xs,.int l.c]
set_option genCtorIdx false in
inductive Told where
 |x8 (l:nq)|dJ (b:Nat) (l:nq)|imp (b:Nat) (l:nq)
 |clause (us ds:List Nat)|diff (xs:List Nat) (s:Nat)|gZ (xs:List Nat) (vs ns:List Int)
 |xor (a b c:Nat)|elem (i:Nat) (xs:List Nat) (z:Nat)|d8 (i:Nat) (ns:List Int) (z:Nat)
 |and (xs:List Nat) (b:Nat)|or (xs:List Nat) (b:Nat)|cnt (xs:List Nat) (v:Int) (z:Nat)
def Told.en:Told->D
 |.x8 l=>l.en
 |.dJ b l=> .tup [.str 62,aH b,l.en]
 |.imp b l=> .tup [.str 68,aH b,l.en]
 |.clause us d=> .tup [.str 66,bS us,bS d]
 |.diff xs s=> .tup [.str 88,bS xs,.str s]
 |.gZ xs vs ns=> .tup [.str 106,bS xs,cC vs,cC ns,cC ns]
 |.xor a b c=> .tup [.str 53,aH a,aH b,aH c]
 |.elem i xs z=> .tup [.str 70,aH i,bS xs,aH z]
 |.d8 i ns z=> .tup [.str 69,aH i,cC ns,aH z]
 |.and xs b=> .tup [.str 65,bS xs,aH b]
 |.or xs b=> .tup [.str 63,bS xs,aH b]
 |.cnt xs v z=> .tup [.str 77,bS xs,.int v,aH z]
noncomputable def Told.vars:Told->List Nat
 |.x8 l=>l.xs
 |.dJ b l=>b::l.xs
 |.imp b l=>b::l.xs
 |.clause us d=>us++d
 |.diff xs _=>xs
 |.gZ xs _ _=>xs
 |.xor a b c=>[a,b,c]
 |.elem i xs z=>i::(xs++[z])
 |.d8 i _ z=>[i,z]
 |.and xs b=>xs++[b]
 |.or xs b=>xs++[b]
 |.cnt xs _ z=>xs++[z]
noncomputable def ah(w:List Int)(x:Nat):Int:=w.getD x 0
noncomputable def dot(as vs:List Int):Int:=((as.zip vs).map λp=>p.1*p.2).foldl (· +·) 0
def nq.holds(l:nq)(w:List Int):Bool:=
 let a:=dot l.as (l.xs.map<|ah w) - l.c
 if l.eq then a==0 else decide (a<=0)
def Told.holds(w:List Int):Told->Bool
 |.x8 l=>l.holds w
 |.dJ b l=>(ah w b==1)==l.holds w
 |.imp b l=>(ah w b==0)||l.holds w
 |.clause us ds=>us.any (λx=>ah w x==1)||ds.any (λx=>ah w x==0)
 |.diff xs _=>((xs.map (ah w)).filter λv=>decide ((1:Int)<((xs.map (ah w)).count v:Nat))).isEmpty
 |.gZ xs vs ns=>(vs.map λv=>(((xs.map (ah w)).count v:Nat):Int))==ns
 |.xor a b c=>(0+ah w a+ah w b+ah w c).fmod 2==0
 |.elem i xs z=>decide (0<ah w i)&&(decide (ah w i<=((xs.map (ah w)).length:Int))&&((xs.map (ah w)).getD (ah w i - 1).toNat 0==ah w z))
 |.d8 i ns z=>decide (0<ah w i)&&(decide (ah w i<=(ns.length:Int))&&(ns.getD (ah w i - 1).toNat 0==ah w z))
 |.and xs b=>some (ah w b)==tw (xs.map (ah w))
 |.or xs b=>some (ah w b)==nr (xs.map (ah w))
 |.cnt xs v z=>ah w z==((xs.map (ah w)).count v:Int)
structure St where
 vars:List (D×m9)
 aw:List Told
 made:List (D×D)
noncomputable def St.n(S:St):Nat:=S.vars.length
noncomputable def St.bN(S:St)(x:Nat):m9:=(S.vars.getD x (.none,[])).2
def UU(S:St)(fr:Bool)(pt:V)(W:O)(R:List O):UT:=
 W:: .inst 2 [(44,.loc 2),(45,.loc 5),(61,pt),(66,.loc 6),(67,.loc 7),(68,.d<|.bool fr)]:: .inst 0 [(7,.loc 3),(8,.loc 4),(9,.d<|.tup [.str 0,.none]),(10,.d<|.tup [])]::
 .list (S.vars.map JV):: .list (S.aw.map Told.en):: .dict 2 S.made:: .dict 0 []:: .dict 0 []:: .dict 0 [(.str 1,.tup [.str 47,.tup [.tup [.int 0,.int 1]],.int 0]),(.str 111,.tup [.str 47,.tup [.tup [.int 1,.int 1]],.int 0])]::R
def Qy{T:Va}{C:Cl}{m:Mf}{L:Ev}{Q:Kf}{v:V}{u:UT}(h:m (put L U v) u Q):Kn.as (vL T C (.t (.n U))) L (Kn.sq m Q) v u:=h
def bV{t:UT}{a:O}{r:List O}:(t++a::r)[t.length]?=some a:=by
 rw[Xs<|WC _,Yq];rfl
def Jd{t:UT}{a b:O}:(t++[a]++[b])[t.length]?=some a:=by
 rw[Xq];exact bV
def Hz{t:UT}{a b c:O}:(t++[a]++[b]).set t.length c=t++[c,b]:=by
 rw[Xq,aag (h:=WC _),Yq];rfl
def Wg{t:UT}{a:O}:t.length≠(t++[a]).length:=by
 rw[Wv];exact Xi<|WK _
def eR(σ:UT):Prop:=σ.all (O.below σ.length)=true
def lv{t:UT}{r:List O}{x:D}(h:eR t):Vg false t.length (.d x) (t++r)=some (.d x,t):=by
 show(if (((t++r).take t.length).all<|O.below t.length)=true then some (V.d x,(t++r).take t.length) else none)=_;exact aa Yn<|agO h
def jK{t:UT}{x:D}(h:eR t):Vg false t.length (.d x) t=some (.d x,t):=by
 have:=lv (r:=[]) (x:=x) h;rw[WI] at this;exact this
def TK{t:UT}{a b c:O}{x:D}(h:eR t):Vg false t.length (.d x) ((t++[a]++[b]).set t.length c)=some (.d x,t):=aa Hz<|lv h
def Ol{t:UT}{a b c:O}:((t++[a]++[b]).set t.length c)[t.length]?=some c:=aa Hz bV
def ec{o:Option Nat}{A:Nat->Prop}{b:Bool}{P:Prop}(h:o=none)(Q:b=true)(q:P):(match (generalizing:=false) o with|some c=>A c|none=>rO b P):=by
 subst h;subst Q;exact q
def oC{t:UT}{e:List (D×D)}(h:t[U]?=some (.dict Y e)):hZ t (.loc U)=some (U,Y,e):=
 agN (λo:Option O=>match o with|some (.dict Y e)=>some (U,Y,e)|_=>none) h
def dO{σ:UT}{l:List D}(h:σ[U]?=some (.list l)):dB σ (.loc U)=some (U,l):=
 agN (λo:Option O=>match o with|some (.list l)=>some (U,l)|_=>none) h
def lW{t:UT}{o:O}(h:t[U]?=some o)(g:tr (some o)=none):nu t (.loc U)=none:=by
 show(tr t[U]?).map (·.1)=none;refine aa h<|aa g ?_;rfl
def bR{t:UT}{o:O}(h:t[U]?=some o):fe tab t (.loc U)=DE (some o):=agN DE h
def Wf{t:UT}{a b c:List (D×D)}(h:t[U]?=some (.dict 0 a))(g:t[Y]?=some (.dict 0 b))(N:U≠Y)(o:dE 0 a b=some c):
  FN tab 6 (.loc U) [.loc Y] t=some (.d .none,t.set U (.dict 0 c)):=by
 show((hZ t<|.loc U).bind λp=>(some<|V.loc Y).bind λx=>(hZ t x).bind λr=>if p.1≠r.1/\p.2.1<=1/\r.2.1<=1 then (dE p.2.1 p.2.2 r.2.2).map λe=>(V.d .none,t.set p.1<|.dict p.2.1 e) else none)=_;have E:=oC h;have u:=oC g;refine aa E ?_;show((hZ t<|.loc Y).bind λr=>if U≠r.1/\0<=1/\r.2.1<=1 then (dE 0 a r.2.2).map λe=>(V.d .none,t.set U<|.dict 0 e) else none)=_;refine aa u ?_;show(if U≠Y/\0<=1/\0<=1 then (dE 0 a b).map λe=>(V.d .none,t.set U<|.dict 0 e) else none)=_;refine aa (agO ⟨N,Wz _,Wz _⟩) (aa o ?_)
 rfl
noncomputable def Told.rows:Told->List (List Nat)
 |.x8 l=>[l.xs]
 |.dJ b l=>[b::l.xs]
 |.imp b l=>[b::l.xs]
 |.clause us d=>[us,d]
 |.diff xs _=>[xs]
 |.gZ xs _ _=>[xs]
 |.xor a b c=>[[a,b,c]]
 |.elem i xs z=>[[i],xs,[z]]
 |.d8 i _ z=>[[i],[z]]
 |.and xs b=>[xs,[b]]
 |.or xs b=>[xs,[b]]
 |.cnt xs _ z=>[xs,[z]]
def oj(t:Told):t.rows.flatten=t.vars:=by
 cases t with
 |x8 l=>
  exact WI _
 |dJ b l=>
  exact WI _
 |imp b l=>
  exact WI _
 |clause u d=>
  exact agN (u++·)<|WI _
 |diff x _=>
  exact WI _
 |gZ x _ _=>
  exact WI _
 |xor _ _ _=>
  exact rfl
 |elem _ _ _=>
  exact rfl
 |d8 _ _ _=>
  exact rfl
 |and _ _=>
  exact rfl
 |or _ _=>
  exact rfl
 |cnt _ _ _=>
  exact rfl
def oy(t:Told):t.rows.flatMap (λx=>x.map aH)=t.vars.map aH:=by
 rw[<-oj,List.map_flatten];rfl
def Vm(t:Told):Prop:=t.vars.length<=1000
def cg(h:U<=1000):U<=lim:=Wh h<|ab rfl
def HE{t:Told}(h:Vm t)(g:G∈t.rows):G.length<=lim:=
 cg (Wh (oj t▸(List.sublist_flatten_of_mem g).length_le) h)
def wA{t:Told}(h:Vm t):(t.vars.map aH).length<=lim:=by
 rw[Wm];exact cg h
def GC(h:(U::G).length<=1000):[aH U].length+(G.map aH).length<=lim:=by
 rw[Wm,Xj];exact cg h
section
def iK{p:Nat}{t:Told}{l:List D}{A b z r B i w I:D}{u:UT}{Q:V->UT->Prop}(L:eR u)
  (n:Vc l 0=some (.str Y)) (h:Vc l 1=some A) (v:Vc l 2=some b) (s:Vc l (-1)=some z)
  (a:(WV 62 Y||(WV 68 Y||false))=false) (c:tab.my Y=some p) (E:WV p 114=false)
  (M:fR tab (.tup l) (some (.int 1)) (some (.int 3))=some r) (o:fR tab (.tup l) (some (.int 1)) (some (.int 2))=some B)
  (J:fR tab (.tup l) (some (.int 3)) none=some i) (T:fR tab (.tup l) (some (.int 1)) none=some w) (G:fR tab (.tup l) (some (.int 2)) none=some I)
  (m:aO (.str Y) [(.str 66,r),(.str 77,.tup [A,.tup [z]]),(.str 70,.tup [B,b,i]),(.str 69,.tup [.tup [A],i]),(.str 53,.tup [w]),(.str 106,.tup [A]),(.str 88,.tup [A]),(.str 65,.tup [A,I]),(.str 63,.tup [A,I])]=some (.tup (t.rows.map bS)))
  (e:Vm t) (q:Q (.d (bS t.vars)) u):C (U+1) 94 [.d (.tup l)] u Q:=by
 refine H.step<|ai n<|bM a<|ai (agN (W4 D.str) c)<|bM E<|ai M<|ai h<|ai s<|ai o<|ai v<|ai J<|ai h<|ai J<|ec (lW bV rfl) (agN (λx=>zN (GW x) 6) (bR bV)) (ai T<|ai h<|ai h<|ai h<|ai G<|ai h<|ai G<|ai (Wf Jd bV Wg rfl)<|ai ((agN (λx=>lF tab x<|.str Y) (bR Ol)).trans m) ((?_:bb .no _ _ (WQ bS t.rows) [] _ _)));refine AA bS (λxs=>xs.map aH) (xs:=t.rows) ?_ ?_ ?_
 ·intro xs g K Y
  refine fh aH aH ?_ (HE e g) Y;exact λx _ K Y=>Y
 ·rw[oy];exact wA e
 ·rw[oy]
  exact bG (XD.mpr<|wA e)<|ai (TK L) q
def Of{u:UT}{Q:V->UT->Prop}(L:eR u):∀{t:Told},Vm t->Q (.d (bS t.vars)) u->C (U+1) 94 [.d t.en] u Q:=by
 intro t;obtain l|_|_|_|_|_|_|_|_|_|_|_:=t
 ·obtain⟨b,a,x,c⟩:=l
  obtain _|_:=b;iterate 2 exact λ_ q=>H.step<|ai (jK L)<|q
 iterate 2 exact λh q=>H.step<|ai (agO<|GC h)<|ai (jK L)<|q
 iterate 9 exact λh q=>iK L rfl rfl rfl rfl rfl rfl rfl rfl rfl rfl rfl rfl rfl h q
end
def pg:Vc l (U:Int)=l[U]?:=by
 show(if (0:Int)<=(U:Int) then l[(U:Int).toNat]? else _)=_;rw[agO<|YD _,Y3]
def xP(h:U<w.length):Vc (w.map aI) (U:Int)=some (aI (ah w U)):=by
 rw[pg,Xh];delta ah X8;rw[WS h];rfl
def l8:Vc (l++[z]) (-1)=some z:=by
 show(if (0:Int)<= -1 then _ else if -(-1:Int)<=((l++[z]).length:Int) then (l++[z])[((-1:Int)+((l++[z]).length:Int)).toNat]? else none)=_;rw[agP<|by decide,Wv,agO (by simp only[abE];exact HD (LC<|Xz 1<|Ys l) rfl)];rw[show((-1:Int)+((l.length+[z].length:Nat):Int)).toNat=l.length from Pe];rw[Xs<|WC _,Yq];rfl
def dP(f:List Int):cP (f.map aI)=some f:=by
 induction f with
 |nil=>rfl
 |cons x f i=>exact agN (λo=>W4 (x::·) o) i
def eA(n:Nat)(x:List Int):plain (n+1) (.lst (x.map aI))/\plain (n+1) (.tup (x.map aI)):=by
 have:(x.map aI).all (plain n):=Wt.mpr λd h=>by
  refine fc h λi _ e=>?_;clear h;subst e;cases n<;>rfl
 exact⟨this,this⟩
def gp(h:plain 12 x)(a:plain 12 y):D.yL x y=some (bP x y):=by
 show(match plain 12 x&&plain 12 y with|true=>some (bP x y)|false=>none)=_;refine aa h<|aa a ?_;rfl
def mv(l:List D):lP l []=l.isEmpty:=by cases l<;>rfl
def oS:∀(f a:List Int),lP (f.map aI) (a.map aI)=(f==a):=by
 intro f
 induction f with
 |nil=>intro a;cases a<;>rfl
 |cons x f i=>
  intro a;cases a with
  |nil=>rfl
  |cons y a=>exact agN (λb=>(x==y)&&b) (i a)
def VY:D.yL (.lst (M.map aI)) (.lst [])=some M.isEmpty:=by
 exact aa (gp (eA _ _).1 rfl)<|agN some ((mv _).trans (by cases M<;>rfl))
def Fj:D.yL (.lst (M.map aI)) (.lst (g.map aI))=some (M==g):=aa (gp (eA _ _).1 (eA _ _).1)<|agN some<|oS M g
def t9(a b:Bool):bP (.bool a) (.bool b)=(a==b):=by cases a<;>cases b<;>rfl
def Vz{Q:V->UT->Prop}(e:b=c)(q:Q (.d (.bool c)) t):Q (.d (.bool b)) t:=e▸q
def Rt(h:(a==b)=false):a= !b:=by cases a<;>cases b<;>first|rfl|cases h
def VG(h:l.all (plain n)):plain (n+1) (.lst l):=h
def dh(h:l.all (plain 11)):D.yL (.lst l) (.lst [])=some l.isEmpty:=aa (gp (VG h) rfl)<|agN some<|mv l
def u4(p:L->Bool)(x:List L):((x.filter p).map f).length<=x.length:=by
 rw[Wm];exact Xv ..
def mA(n:Nat)(x:List Nat):(x.map aH).all (plain n):=Wt.mpr λd h=>by
 refine fc h λi _ e=>?_;clear h;subst e;cases n<;>rfl
def xA(x y:List Nat):(x.map aH++y.map aH).all (plain n):=by
 rw[aaO,mA,mA];rfl
def kU(p:L->Bool)(f:List L):(f.filter p).isEmpty= !f.any p:=by
 induction f with
 |nil=>rfl
 |cons x f i=>rw[Zd,W5];cases p x<;>simp [i]
def Ma(a b:Bool):(!(!a&& !b))=(a||b):=by cases a<;>cases b<;>rfl
def x9(a b:List L):(a++b).isEmpty=(a.isEmpty&&b.isEmpty):=by cases a<;>rfl
def Le(p q:Nat->Bool)(u ds:List Nat):(!((u.filter p).map aH++(ds.filter q).map aH).isEmpty)=(u.any p||ds.any q):=by
 rw[x9,YS,YS,kU,kU];exact Ma _ _
noncomputable def kg(n:Nat)(i:Int):Nat:=(max 0<|min (if i<0 then i+(n:Int) else i) (n:Int)).toNat
def Jr:kg (n+1) 1=1:=by
 show(max 0<|min (if (1:Int)<0 then _ else (1:Int)) ((n+1:Nat):Int)).toNat=_;exact aa (agP<|by decide) Qz
def zr:kg (n+1) (-1)=n:=by
 show(max 0<|min (if (-1:Int)<0 then -1+((n+1:Nat):Int) else _) ((n+1:Nat):Int)).toNat=_;exact aa (agO<|by decide) OX
def EM:V6 (x::(l++[z])) (kg (x::(l++[z])).length 1) (kg (x::(l++[z])).length (-1))=l:=by
 refine aa WZ<|aa Jr<|aa zr<|aa Wv ?_;show((x::(l++[z])).take<|l.length+1).drop 1=_;refine aa List.take_succ_cons<|aa Yn ?_;rfl
def BI:V6 (l++[z]) (0:Int).toNat (kg (l++[z]).length (-1))=l:=by
 have e:(l++[z]).length=l.length+1:=Wv;rw[e,zr];show(((l++[z]).take l.length).drop 0)=_;rw[Yn];rfl
def V0{L:Type}{l:List L}{f:L->D}{z:L}(n:decide (0<J)=true)(h:decide (J<=(l.length:Int))=true):Vc (l.map f) (J - 1)=some (f (l.getD (J - 1).toNat z)):=by
 have n:=agS n;have h:=agS h;show(if (0:Int)<=J - 1 then (l.map f)[(J - 1).toNat]? else _)=_;have o:=OF n h;rw[agO<|PO n,Xh];delta X8;rw[WS o];rfl
def lO{L Y:Type}{f:L->Y}{l:List L}(h:decide (J<=((l.map f).length:Int))=true):decide (J<=(l.length:Int))=true:=by
 rw[Wm] at h;exact h
def J9(h:a=true)(g:b=true):c=(a&&(b&&c)):=by subst h;subst g;rfl
def Gn(h:a=true)(g:(b==true)=false):b=(a&&(b&&c)):=by subst h;cases b;exact rfl;cases g
def Ho(h:a=false):false=(a&&b):=by subst h;rfl
def mm(h:a x=some m):W4 (λn=>(V.d (D.int n),t)) ((cP (x.map aI)).bind a)=some (V.d (.int m),t):=by
 rw[dP];exact agN (W4 _) h
def pw{b:Nat}{w:List Int}(h:G≠[]):(∃m,tw (G.map (ah w))=some m)/\∃m,nr (G.map (ah w))=some m:=match G,h with
 |_::_,_=>⟨⟨_,rfl⟩,⟨_,rfl⟩⟩
def zf:∀(A b:List Int),sA (A.map aI) (b.map aI)=(A.zip b).map iE:=by
 intro A
 induction A with
 |nil=>exact λ_=>rfl
 |cons a A i=>
  intro b;cases b with
  |nil=>rfl
  |cons v b=>exact agN (λl=>iE (a,v)::l) (i b)
def Jj(h:M.length=g.length):Nd (.d (.tup (M.map aI))) (.d (.lst (g.map aI)))=some ((M.zip g).map iE):=by
 show(if (M.map aI).length=(g.map aI).length then some (sA (M.map aI)<|g.map aI) else none)=_;rw[agO<|by rw[Wm,Wm,h],zf]
def ff{L Y:Type}{s:Sr}{a:List D}{B:D->UT->(List D->UT->Prop)->Prop}{t:UT}{h:List L}{Q:List D->UT->Prop}(e:L->D)(f:L->Y)(g:Y->D)(st:dx s a t)
  (G:∀x∈h,∀K:List D->UT->Prop,K [g (f x)] t->B (e x) t K) (J:h.length<=lim) (q:Q ((h.map f).map g) t):bb s a B (h.map e) [] t Q:=
 uJ e (λx=>g<|f x) st G J (by rw[Xu] at q;exact q)
def aZ{L Y:Type}{a:List D}{B:D->UT->(List D->UT->Prop)->Prop}{t:UT}{h:List L}{Q:List D->UT->Prop}(e:L->D)(f:L->Y)(g:Y->D)
  (G:∀x∈h,∀K:List D->UT->Prop,K [g (f x)] t->B (e x) t K) (J:h.length<=lim) (q:Q ((h.map f).map g) t):bb .no a B (h.map e) [] t Q:=
 ff e f g trivial G J q
structure sT (t:Told) (w:List Int):Prop where
 short:Vm t
 here:∀x∈t.vars,x<w.length
 small:∀v∈w,v.natAbs<=1000000
def kT(h:J.natAbs<=1000000):qk J:=match J with
 |.ofNat n=>XD.mpr h
 |.negSucc n=>XD.mpr<|Yo h
def rE(h:J.natAbs<=1000000)(g:I.natAbs<=1000000):(qk J&&qk I):=by
 refine aa (kT h)<|aa (kT g) ?_;rfl
def Lj{L:Type}{b:Bool}{a:L}{k:L->Prop}(h:b=true)(q:k a):(match (match b with|true=>some a|false=>none) with|some a=>k a|none=>False):=by
 subst h;exact q
section
def GO{t:UT}{Q:V->UT->Prop}(L:eR t)(i:G.length<=1000)(z:∀x∈G,x<g.length)(y:∀v∈g,v.natAbs<=1000000)(m:M.length=G.length)(l:∀a∈M,a.natAbs<=1000000)
  (s:∀{Q:V->UT->Prop},Q (.d (bS G)) t->C (U+1) 94 [.d (.tup [.str Y,cC M,bS G,.int J])] t Q)
  (u:WV Y 62=false) (j:WV Y 68=false) (n:tab.my Y=some 114)
  (o:WV Y 60->Q (.d (.bool (decide (dot M (G.map (ah g)) - J<=0)))) t)
  (b:WV Y 60=false->Q (.d (.bool ((dot M (G.map (ah g)) - J==0)==WV Y 57))) t):C (U+2) 95 [.d (.tup [.str Y,cC M,bS G,.int J]),.d (.lst (g.map aI))] t Q:=by
 refine H.step<|s<|(?_:bb .no _ _ (WQ aH G) [] _ _);refine aZ aH (ah g) aI ?_ (cg i) ?_
 ·exact λx r K Y=>ai (xP<|z x r)<|Y
 refine bG (XD.mpr (by rw[Wm,Wm];exact cg i))<|bM u (bM j<|ai (agN (W4 D.str) n)<|ai (Jj<|m.trans (Wm ..).symm)<|ff iE (λp=>p.1*p.2) aI bV ?_ ?_ ?_)
 ·intro p n K Y
  have h:=List.of_mem_zip n;refine Lj (rE (l _ h.1) ?_) ?_
  ·refine fc h.2 λx r e=>?_
   rw[<-e];delta ah X8;rw[WS<|z x r];exact y _<|acn _
  ·exact Y
 ·rw[acw,Wm,m,ada];exact cg i
 refine bG (XD.mpr (by rw[Wm,Wm,acw,Wm,m,ada];exact cg i))<|ai (agN (W4 _)<|dP _) (aX (λh=>?_) (λh=>?_))
 ·exact ai (lv L) (o h)
 ·exact ai (lv L) (Vz (t9 _ _)<|b h)
def pZ{l:nq}{t:UT}{Q:V->UT->Prop}(L:eR t)(f:sT (.x8 l) M)(h:l.as.length=l.xs.length)(G:∀a∈l.as,a.natAbs<=1000000)
  (q:Q (.d (.bool (l.holds M))) t):C (U+2) 95 [.d l.en,.d (.lst (M.map aI))] t Q:=by
 obtain⟨b,A,x,c⟩:=l;obtain _|_:=b
 ·exact GO L f.short f.here f.small h G (λq=>Of L f.short q) rfl rfl rfl (λ_=>q) nofun
 ·exact GO L f.short f.here f.small h G (λq=>Of L f.short q) rfl rfl rfl nofun (λ_=>Vz (beq_true _) q)
def eo{t:Told}{l:List D}{u:UT}{Q:V->UT->Prop}(L:eR u)(f:sT t M)(e:t.en=.tup l)(n:Vc l 0=some (.str Y))
  (q:da tab (C (U+1)) RE.tail [(13,.d t.en),(94,.d (.lst (M.map aI))),(11,.d (.str Y)),(25,.d (.lst ((t.vars.map (ah M)).map aI)))] u (Kn.en u.length false Q)):
  C (U+2) 95 [.d t.en,.d (.lst (M.map aI))] u Q:=by
 refine H.step<|aa e<|ai n<|av e<|Of L f.short<|(?_:bb .no _ _ (WQ aH t.vars) [] _ _);refine aZ aH (ah M) aI ?_ (cg f.short) ?_
 ·exact λx h K Y=>ai (xP<|f.here x h)<|Y
 exact bG (XD.mpr (by rw[Wm,Wm];exact cg f.short)) q
def B5{l:nq}{t:UT}{Q:V->UT->Prop}(L:eR t)(f:sT (.dJ Y l) M)(J:l.as.length=l.xs.length)(G:∀a∈l.as,a.natAbs<=1000000)
  (q:Q (.d (.bool ((Told.dJ Y l).holds M))) t):C (U+3) 95 [.d (Told.dJ Y l).en,.d (.lst (M.map aI))] t Q:=eo L f rfl rfl<|ai (xP<|f.here Y (Wr ..))<|pZ L ⟨Yo f.short,λx h=>f.here x<|Wu _ h,f.small⟩ J G (ai (jK L)<|Vz (t9 _ _) q)
def Df{l:nq}{t:UT}{Q:V->UT->Prop}(L:eR t)(f:sT (.imp Y l) M)(J:l.as.length=l.xs.length)(G:∀a∈l.as,a.natAbs<=1000000)
  (q:Q (.d (.bool ((Told.imp Y l).holds M))) t):C (U+3) 95 [.d (Told.imp Y l).en,.d (.lst (M.map aI))] t Q:=by
 refine eo L f rfl rfl<|ai (xP<|f.here Y (Wr ..))<|aX (λh=>?_) (λh=>?_)
 ·exact pZ L ⟨Yo f.short,λx g=>f.here x<|Wu _ g,f.small⟩ J G (ai (jK L)<|Vz ((agN (· ||l.holds M)<|eq_of_beq h).symm) q)
 ·exact ai (jK L) (Vz ((Rt h).trans (agN (· ||l.holds M)<|Rt h).symm) q)
def tC{T:List Nat}{t:UT}{Q:V->UT->Prop}(L:eR t)(f:sT (.clause G T) M)
  (q:Q (.d (.bool ((Told.clause G T).holds M))) t):C (U+2) 95 [.d (Told.clause G T).en,.d (.lst (M.map aI))] t Q:=by
 refine eo L f rfl rfl ?_;have i:=λx g=>f.here x<|W6 _ g;have Y:=λx g=>f.here x<|XE _ g;have l:G.length+T.length<=lim:=by exact av Wv<|cg f.short
 refine(?_:bb .no _ _ (WQ aH G) [] _ _);refine bh aH aH (λx=>ah M x==1) ?_ (Wh (WD ..) l) ?_
 ·exact λx g K a k=>ai (xP<|i x g)<|aX (λh=>a h) (λh=>k h)
 refine bG (dj<|Wh (WD ..) l)<|(?_:bb .no _ _ (WQ aH T) [] _ _);refine bh aH aH (λx=>ah M x==0) ?_ (Wh (Xz ..) l) ?_
 ·exact λx g K a k=>ai (xP<|Y x g)<|aX (λh=>a h) (λh=>k h)
 exact bG (dj<|Wh (Xz ..) l)<|ai (agO<|Wh (Yh (u4 _ _)<|u4 _ _) l)<|ai (agN (W4 (!·))<|dh<|xA _ _)<|ai (jK L)<|Vz (Le _ _ _ _) q
def Bf{t:UT}{Q:V->UT->Prop}(L:eR t)(f:sT (.diff G Y) M)
  (q:Q (.d (.bool ((Told.diff G Y).holds M))) t):C (U+2) 95 [.d (Told.diff G Y).en,.d (.lst (M.map aI))] t Q:=by
 refine eo L f rfl rfl ?_;have J:(G.map<|ah M).length<=lim:=by rw[Wm];exact cg f.short
 refine(?_:bb .no _ _ (WQ aI<|G.map<|ah M) [] _ _);refine bh aI aI (λv=>decide<|(1:Int)<((G.map<|ah M).count v:Nat)) ?_ J ?_
 ·exact λx i K a A=>ai (agN (W4 _)<|dP _)<|aX (λh=>a h) (λh=>A h)
 exact bG (dj J)<|ai VY<|ai (jK L) q
def Ad{w:List Int}{t:UT}{Q:V->UT->Prop}(L:eR t)(f:sT (.gZ G M g) w)(Y:M.length<=1000)
  (q:Q (.d (.bool ((Told.gZ G M g).holds w))) t):C (U+2) 95 [.d (Told.gZ G M g).en,.d (.lst (w.map aI))] t Q:=by
 refine eo L f rfl rfl<|(?_:bb .no _ _ (WQ aI M) [] _ _);refine aZ aI (λv=>(((G.map<|ah w).count v:Nat):Int)) aI ?_ (cg Y) ?_
 ·exact λx i K k=>ai (agN (W4 _)<|dP _)<|k
 exact bG (aQ (by rw[Wm];exact cg Y))<|ai Fj (ai (jK L) q)
def F4{b c:Nat}{t:UT}{Q:V->UT->Prop}(h:eR t)(f:sT (.xor Y b c) M)
  (q:Q (.d (.bool ((Told.xor Y b c).holds M))) t):C (U+2) 95 [.d (Told.xor Y b c).en,.d (.lst (M.map aI))] t Q:=eo h f rfl rfl<|ai (jK h) q
def CM{z:Nat}{t:UT}{Q:V->UT->Prop}(L:eR t)(f:sT (.elem Y G z) M)
  (q:Q (.d (.bool ((Told.elem Y G z).holds M))) t):C (U+2) 95 [.d (Told.elem Y G z).en,.d (.lst (M.map aI))] t Q:=by
 refine eo L f rfl rfl<|aa (show(Told.elem Y G z).vars=Y::(G++[z]) from rfl) (aa X3<|aa W8<|aa X3<|aa W8<|aX (λh=>?_) (λh=>?_))
 ·have e:=EM (x:=aI<|ah M Y) (z:=aI<|ah M z) (l:=(G.map<|ah M).map aI)
  refine aX (λg=>?_) (λg=>?_)
  ·have a:decide (ah M Y<=(((G.map<|ah M).map aI).length:Int))=true:=by refine av e ?_;exact eq_of_beq g
   exact ai ((agN (λl=>Vc l<|ah M Y - 1) e).trans (V0 (z:=0) h<|lO a)) (ai (l8 (l:=aI (ah M Y)::(G.map<|ah M).map aI))<|ai (jK L)<|Vz (J9 h<|lO a) q)
  ·have a:=(agN (λl:List D=>decide (ah M Y<=(l.length:Int))==true) e).symm.trans g
   refine ai (jK L)<|Vz (agN (λl:List D=>decide<|ah M Y<=(l.length:Int)) e) (Vz (Gn (c:=((G.map<|ah M).getD (ah M Y - 1).toNat 0==ah M z)) h a) ?_);rw[Wm];exact q
 ·exact ai (jK L) (Vz (Ho h) q)
def An{z:Nat}{t:UT}{Q:V->UT->Prop}(L:eR t)(f:sT (.d8 Y M z) g)
  (q:Q (.d (.bool ((Told.d8 Y M z).holds g))) t):C (U+2) 95 [.d (Told.d8 Y M z).en,.d (.lst (g.map aI))] t Q:=by
 refine eo L f rfl rfl<|aX (λh=>?_) (λh=>?_)
 ·refine aX (λa=>?_) (λa=>?_)
  ·have G:=lO<|eq_of_beq a
   exact ai (V0 h G)<|ai (jK L)<|Vz (J9 h G) q
  ·refine ai (jK L) (Vz (Gn (c:=(M.getD (ah g Y - 1).toNat 0==ah g z)) h a) ?_)
   rw[Wm];exact q
 ·exact ai (jK L) (Vz (Ho h) q)
def lK{b:Nat}{t:Told}{u:UT}{Q:V->UT->Prop}(L:eR u)(f:sT t M)(o:t.vars=G++[b]){ac al:Int}{l:List D}(j:t.en=.tup l)
  (p:Vc l 0=some (.str Y)) (h:Vc l 2=some (.int J))
  (a:WV Y 62=false) (y:WV Y 68=false) (s:WV Y 66=false) (T:WV Y 88=false) (A:WV Y 106=false) (B:WV Y 53=false) {c:Nat} (ap:tab.my Y=some c) (ag:WV c 114=false) (am:WV c 70=false)
  (E:tw (G.map (ah M))=some ac) (v:nr (G.map (ah M))=some al)
  (m:aO (.str Y) [(.str 65,.int ac),(.str 63,.int al),(.str 77,.int (((G.map (ah M)).count J:Nat):Int))]=some (.int I))
  (q:Q (.d (.bool (ah M b==I))) u):C (U+2) 95 [.d t.en,.d (.lst (M.map aI))] u Q:=by
 refine eo L f j p<|aa j<|bM a<|bM y<|ai (agN (W4 D.str) ap)<|bM ag<|bM s<|bM T<|bM A<|bM B<|ai (agN (W4 D.str) ap)<|bM am<|aa o<|aa W8<|aa W8 ?_;have e:=BI (z:=aI<|ah M b) (l:=(G.map<|ah M).map aI);exact ai ((agN (λl=>W4 (λn=>(V.d<|D.int n,u)) ((cP l).bind tw)) e).trans (mm E)) (ai ((agN (λl=>W4 (λn=>(V.d<|D.int n,u)) ((cP l).bind nr)) e).trans (mm v)) (ai h<|ai ((agN (λl=>W4 (λN:List Int=>(V.d<|D.int (N.count J:Nat),u)) (cP l)) e).trans (agN (W4 _)<|dP _)) (ai (l8)<|ai ((agN (λx=>lF tab x<|.str Y) (bR bV)).trans m) (ai (lv L) q))))
def Dl{t:UT}{Q:V->UT->Prop}(L:eR t)(f:sT (.and G Y) M)(h:G≠[])
  (q:Q (.d (.bool ((Told.and G Y).holds M))) t):C (U+2) 95 [.d (Told.and G Y).en,.d (.lst (M.map aI))] t Q:=ak (pw (b:=Y) (w:=M) h) λz a=>by
 obtain⟨m,e⟩:=z;obtain⟨c,E⟩:=a;refine lK L f rfl rfl rfl rfl rfl rfl rfl rfl rfl rfl rfl rfl rfl e E rfl<|Vz ?_ q;show _=(some (ah M Y)==tw (G.map<|ah M));refine aa e ?_;rfl
def Jb{t:UT}{Q:V->UT->Prop}(L:eR t)(f:sT (.or G Y) M)(h:G≠[])
  (q:Q (.d (.bool ((Told.or G Y).holds M))) t):C (U+2) 95 [.d (Told.or G Y).en,.d (.lst (M.map aI))] t Q:=ak (pw (b:=Y) (w:=M) h) λz a=>by
 obtain⟨m,e⟩:=z;obtain⟨c,E⟩:=a;refine lK L f rfl rfl rfl rfl rfl rfl rfl rfl rfl rfl rfl rfl rfl e E rfl<|Vz ?_ q;show _=(some (ah M Y)==nr (G.map<|ah M));refine aa E ?_;rfl
def C7{t:UT}{Q:V->UT->Prop}(L:eR t)(f:sT (.cnt G J Y) M)(h:G≠[])
  (q:Q (.d (.bool ((Told.cnt G J Y).holds M))) t):C (U+2) 95 [.d (Told.cnt G J Y).en,.d (.lst (M.map aI))] t Q:=ak (pw (b:=Y) (w:=M) h) λa I=>by
 obtain⟨m,e⟩:=a;obtain⟨c,E⟩:=I;exact lK L f rfl rfl rfl rfl rfl rfl rfl rfl rfl rfl rfl rfl rfl e E rfl q
end
def Told.cJ:Told->Prop
 |.x8 l=>l.as.length=l.xs.length/\∀a∈l.as,a.natAbs<=1000000
 |.dJ _ l=>l.as.length=l.xs.length/\∀a∈l.as,a.natAbs<=1000000
 |.imp _ l=>l.as.length=l.xs.length/\∀a∈l.as,a.natAbs<=1000000
 |.gZ _ vs _=>vs.length<=1000
 |.and xs _=>xs≠[]
 |.or xs _=>xs≠[]
 |.cnt xs _ _=>xs≠[]
 |.clause _ _=>True
 |.diff _ _=>True
 |.xor _ _ _=>True
 |.elem _ _ _=>True
 |.d8 _ _ _=>True
def RH(L:eR u):∀{t:Told},sT t w->t.cJ->Q (.d (.bool (t.holds w))) u->C (d+3) 95 [.d t.en,.d (.lst (w.map aI))] u Q:=by
 intro t;obtain _|_|_|_|_|_|_|_|_|_|_|_:=t
 ·exact λf h q=>pZ L f h.1 h.2 q
 ·exact λf h q=>B5 L f h.1 h.2 q
 ·exact λf h q=>Df L f h.1 h.2 q
 ·exact λf _ q=>tC L f q
 ·exact λf _ q=>Bf L f q
 ·exact λf h q=>Ad L f h q
 ·exact λf _ q=>F4 L f q
 ·exact λf _ q=>CM L f q
 ·exact λf _ q=>An L f q
 ·exact λf h q=>Dl L f h q
 ·exact λf h q=>Jb L f h q
 ·exact λf h q=>C7 L f h q
def bw:UY (put L x v) x=some v:=by
 induction L with
 |nil=>show(if (x==x)=true then some v else none)=_;rw[agO<|agW x]
 |cons p L i=>
  obtain⟨y,u⟩:=p;show UY (if (y==x)=true then (y,v)::L else (y,u)::put L x v) x=_;by_cases h:(y==x)=true
  ·rw[agO h];show(if (y==x)=true then some v else UY L x)=_;rw[agO h]
  ·rw[agP h];show(if (y==x)=true then some u else UY (put L x v) x)=_;exact aa (agP h)<|aa i rfl
def fQ(n:(y==x)=false):UY (put L y v) x=UY L x:=by
 induction L with
 |nil=>show(if (y==x)=true then some v else none)=_;rw[agP<|ne_true_of_eq_false n];rfl
 |cons p L i=>
  obtain⟨z,u⟩:=p;show UY (if (z==y)=true then (z,v)::L else (z,u)::put L y v) x=_;by_cases h:(z==y)=true
  ·rw[agO h,eq_of_beq h];show(if (y==x)=true then some v else UY L x)=(if (y==x)=true then some u else UY L x)
   rw[agP<|ne_true_of_eq_false n,agP<|ne_true_of_eq_false n]
  ·rw[agP h];show(if (z==x)=true then some u else UY (put L y v) x)=(if (z==x)=true then some u else UY L x);exact aa i rfl
def Jz(e:L->D)(E:T->Ev->Ev)(st:T->UT)(f:T->L->T):
  ∀{b:List L},(∀s,dx src a (st s))->(∀x∈b,∀s t K,(∀j,K .next (E (f s x) j) (st (f s x)))->B (e x) (E s t) (st s) K)->
   ∀s t,(∀j,Q .next (E (b.foldl f s) j) (st (b.foldl f s)))->Vb src a B (b.map e) (E s t) (st s) Q:=by
 intro b I
 induction b with
 |nil=>exact λ_ s t q=>q t
 |cons x b i=>
  exact λG s t q=>G x (Wr ..) s t _ λj=>⟨I _,i (λy h=>G y<|Wu _ h) _ j q⟩
def tQ{L T:Type}{a:List D}{B:D->Ev->UT->(Fl->Ev->UT->Prop)->Prop}{Q:Fl->Ev->UT->Prop}{g:List L}(e:L->D)(E:T->Ev->Ev)(f:T->L->T)(s:T)(M:Ev)
  (h:∀x∈g,∀s M K,(∀i,K .next (E (f s x) i) t)->B (e x) (E s M) t K)
  (q:∀i,Q .next (E (g.foldl f s) i) t):Vb .no a B (g.map e) (E s M) t Q:=
 Jz (src:=.no) (T:=T) e E (λ_=>t) f (λ_=>trivial) h s M q
def TQ(n:f.contains x=false):UY (Vp L f) x=UY L x:=by
 induction L with
 |nil=>rfl
 |cons p L i=>
  obtain⟨y,u⟩:=p;show UY (ade (λp=> !f.contains p.1) ((y,u)::L)) x=(if (y==x)=true then some u else UY L x);rw[Zd];by_cases h:(y==x)=true
  ·rw[eq_of_beq h,n];show(if (x==x)=true then some u else _)=_;rw[agO<|agW x,agO<|agW x]
  ·rw[agP h,<-i]
   by_cases g:(!f.contains y)=true
   ·rw[agO g];show(if (y==x)=true then some u else _)=_;rw[agP h];rfl
   ·rw[agP g];rfl
def kQ{L:Type}{l:List L}{f:L->D}{z:L}(h:U<l.length):Vc (l.map f) (U:Int)=some (f (l.getD U z)):=by
 rw[pg,Xh];delta X8;rw[WS h];rfl
def iG{L:Type}(p:L->Bool)(f:List L):(f.filter λx=> !p x).isEmpty=f.all p:=by
 rw[kU,abl,aaA];congr 1;funext x;exact aaA _
noncomputable def eO(a:Int):Nat->List Int
 |0=>[]
 |n+1=>a::eO (a+1) n
def yQ(a:Int)(n:Nat):aU a n=(eO a n).map aI:=by
 induction n generalizing a with
 |zero=>rfl
 |succ n i=>exact agN (aI a::·)<|i _
def fk(h:v∈eO a n):a<=v/\v<a+n:=by
 induction n generalizing a with
 |zero=>cases h
 |succ n i=>
  obtain rfl|h:=Wo.mp h
  ·exact L7
  ·exact KP (i h)
def strip(p:Int×Int):List Int:=eO p.1 (p.2+1 - p.1).toNat
def lU(G:a.natAbs<=500000)(h:b.natAbs<=500000):iA [.d (.int a),.d (.int b)]=some ((eO a (b - a).toNat).map aI):=by
 show(if a.natAbs<=500000/\b.natAbs<=500000 then some (aU a (b - a).toNat) else none)=_;rw[agO ⟨G,h⟩,yQ]
def xl(n:Nat)(x:List Int):(x.map aI).all (plain n):=Wt.mpr λd h=>by
 refine fc h λi _ e=>?_;clear h;subst e;cases n<;>rfl
def EN:plain (n+1) (bS x):=mA n x
def NY:plain (n+1) (cC x):=xl n x
def fu{l:nq}:plain (U+2) l.en:=by
 show(plain (U+1) (.str<|if l.eq then 57 else 60)&&(plain (U+1) (cC l.as)&&(plain (U+1) (bS l.xs)&&(plain (U+1) (.int l.c)&&true))))=true;refine aa NY<|aa EN ?_;rfl
def td:∀t:Told,plain 11 t.en:=by
 intro I;cases I with
 |x8 l=>
  exact fu
 |dJ b l=>
  show(true&&(plain 10 (aH b)&&(plain 10 l.en&&true)))=true;refine aa fu ?_;rfl
 |imp b l=>
  show(true&&(plain 10 (aH b)&&(plain 10 l.en&&true)))=true;refine aa fu ?_;rfl
 |clause u d=>
  show(true&&(plain 10 (bS u)&&(plain 10 (bS d)&&true)))=true;refine aa EN<|aa EN ?_;rfl
 |diff x s=>
  show(true&&(plain 10 (bS x)&&(true&&true)))=true;refine aa EN ?_;rfl
 |gZ x g n=>
  show(true&&(plain 10 (bS x)&&(plain 10 (cC g)&&(plain 10 (cC n)&&(plain 10 (cC n)&&true)))))=true;refine aa EN<|aa NY<|aa NY ?_;rfl
 |xor a b c=>
  exact rfl
 |elem i x z=>
  show(true&&(true&&(plain 10 (bS x)&&(true&&true))))=true;refine aa EN ?_;rfl
 |d8 i n z=>
  show(true&&(true&&(plain 10 (cC n)&&(true&&true))))=true;refine aa NY ?_;rfl
 |and x b=>
  show(true&&(plain 10 (bS x)&&(true&&true)))=true;refine aa EN ?_;rfl
 |or x b=>
  show(true&&(plain 10 (bS x)&&(true&&true)))=true;refine aa EN ?_;rfl
 |cnt x v z=>
  show(true&&(plain 10 (bS x)&&(true&&(true&&true))))=true;refine aa EN ?_;rfl
def j6(T:List Told):(T.map Told.en).all (plain 11):=Wt.mpr λd h=>by
 refine fc h λt _ e=>?_;clear h;subst e;exact td t
def ways(S:St)(rd:List (List Told)):Nat->List Int->Int
 |0,_=>1
 |k+1,w=>(S.bN w.length).foldl (λs p=>(strip p).foldl (λs v=>if (rd.getD w.length []).all (Told.holds (w++[v])) then s+ways S rd k (w++[v]) else s) s) 0
def mF(l:List Told):D:=.lst<|l.map Told.en
section
variable{S:St}{b:Bool}{c:V}{W:O}{R:List O}
def f8(q:Q (.d (.int S.n)) (UU S b c W R)):C (d+1) 8 [.loc 2] (UU S b c W R) Q:=by
 refine H.step ?_;have e:((S.vars.map JV).length:Int)=(S.n:Int):=by rw[Wm];rfl
 rw[<-e] at q;exact q
def f9(h:x<S.n)(q:Q (.d (aP (S.bN x))) (UU S b c W R)):C (d+1) 9 [.loc 2,.d (aH x)] (UU S b c W R) Q:=by
 refine H.step ?_;have e:Vc (S.vars.map JV) (x:Int)=some (JV<|S.vars.getD x (.none,[])):=by
  rw[pg,Xh];delta X8;rw[WS h];rfl
 exact ai e<|q
def SF{rd:List (List Told)}(U:eR (UU S b c W R))(l:rd.length=S.n)(m:S.n<=1000)
  (g:∀x<S.n,∀p∈S.bN x,p.1.natAbs<=1000/\p.2.natAbs<=1000) (L:∀x,∀t∈rd.getD x [],t.cJ/\Vm t/\∀y∈t.vars,y<=x) (J:∀x,(rd.getD x []).length<=1000):
  ∀{k d:Nat}{w:List Int}{Q:V->UT->Prop},w.length+k=S.n->(∀v∈w,v.natAbs<=1000000)->Q (.d (.int (ways S rd k w))) (UU S b c W R)->
   C (d+k+4) 96 [.loc 2,.d (.lst (rd.map mF)),.d (.lst (w.map aI))] (UU S b c W R) Q:=by
 intro k
 induction k with
 |zero=>
  intro d w Q M z q;exact H.step<|f8<|eB (agQ.mpr<|agN adq<|(Wm ..).trans M) q
 |succ k i=>
  intro d w Q M z q;have el:(w.map aI).length=w.length:=Wm ..;have E:=uG M;refine H.step<|f8 ?_;refine bM (agV.mpr λh=>by rw[el] at h;have:=Z6 h;exact GQ (K4 this E)<|WC<|Mm.G.St.n S)<|f9 (by exact aa el E)<|aa el ((?_:Vb .no _ _ (WQ iE<|S.bN w.length) _ _ _));refine tQ iE (λs N=>(44,.loc 2)::(103,.d<|.lst<|rd.map mF)::(94,.d<|.lst<|w.map aI)::(62,.d<|.int w.length)::(3,.d<|.int s)::N)
   (λs p=>(strip p).foldl (λs v=>if (rd.getD w.length []).all (Told.holds<|w++[v]) then s+ways S rd k (w++[v]) else s) s) 0 [] ?_ ?_
  ·intro p Y s N K B
   have T:=g _ E p Y;refine ai ((fQ rfl).trans bw)<|ai bw<|ai (lU (cy (aan T) rfl)<|PM T.2)<|(?_:Vb .no _ _ (WQ aI<|strip p) _ _ _);refine tQ aI (λs N=>(44,.loc 2)::(103,.d<|.lst<|rd.map mF)::(94,.d<|.lst<|w.map aI)::(62,.d<|.int w.length)::(3,.d<|.int s)::N)
    (λs v=>if (rd.getD w.length []).all (Told.holds<|w++[v]) then s+ways S rd k (w++[v]) else s) s _ ?_ ?_
   ·intro v f s N K B
    have ac:=ND T<|fk f;have ag:∀u∈w++[v],u.natAbs<=1000000:=λu j=>(WH.mp j).elim (z u) λh=>by exact aa (Wj.mp h)<|cy ac rfl
    refine ai bw<|ai (a:=.lst<|(w++[v]).map aI) ?_ ?_
    ·exact aa W8<|agO (by exact aa el<|cg (Wh (uG M) m))
    refine ai (kQ<|l▸E)<|(?_:bb .no _ _ (WQ Told.en<|rd.getD w.length []) [] _ _);refine bh Told.en Told.en (λt=> !(t.holds<|w++[v])) ?_ (cg<|J _) ?_
    ·intro t o K r A
     have h:=L _ t o;refine ai bw<|ai ((fQ rfl).trans<|(TQ rfl).trans bw)<|RH U ⟨h.2.1,λy e=>?_,ag⟩ h.1 ?_
     ·have:=h.2.2 y e;exact aa Wv<|XA this
     ·exact aX (λh=>ai bw<|r h) (λh=>A h)
    refine bG (dj<|cg<|J _)<|ai (dh<|j6 _)<|aX (λh=>?_) (λh=>?_)
    ·rw[YS,iG] at h
     refine ai bw<|i (by refine aa Wv ?_;show w.length+1+k=_;exact Cy M) ag ?_;rw[agO h] at B;exact B _
    ·rw[YS,iG] at h
     rw[agP<|ne_true_of_eq_false h] at B;exact B _
   ·exact λI=>B I
  ·intro N
   exact q
end
abbrev UW:=List<|Nat×Int
def dk(p:Nat×Int):D:=.tup [aH p.1,.int p.2]
set_option genCtorIdx false in
inductive UX where
 |int (i:Int)|sum (ps:UW) (c:Int)|bit (x:Nat) (s:Bool)
def UX.en:UX->D
 |.int i=> .int i
 |.sum ps c=> .tup [.str 47,.tup (ps.map dk),.int c]
 |.bit x s=> .tup [.str 46,aH x,.bool s]
set_option genCtorIdx false in
inductive Tr where
 |tf (b:Bool)|bit (x:Nat) (s:Bool)
def Tr.en:Tr->D
 |.tf b=> .bool b
 |.bit x s=> .tup [.str 46,aH x,.bool s]
noncomputable def Tr.neg:Tr->Tr
 |.tf b=> .tf (!b)
 |.bit x s=> .bit x (!s)
noncomputable def UX.ps:UX->UW
 |.int _=>[]
 |.sum ps _=>ps
 |.bit x s=>[(x,if s then 1 else -1)]
noncomputable def UX.c:UX->Int
 |.int i=>i
 |.sum _ c=>c
 |.bit _ s=>if s then 0 else 1
def m7(ps:UW)(c:Int):D:=.tup [.str 47,.tup<|ps.map dk,.int c]
noncomputable def bp(w:List Int):UW->Int
 |[]=>0
 |p::ps=>p.2*ah w p.1+bp w ps
def UX.ev(w:List Int)(v:UX):Int:=bp w v.ps+v.c
noncomputable def Tr.ev(w:List Int):Tr->Bool
 |.tf b=>b
 |.bit x s=>(ah w x==1)==s
def bI(r:List (Int×Int))(vs:List UX):D:=.tup [.tup<|r.map iE,.lst<|vs.map UX.en]
noncomputable def UX.known:UX->Bool
 |.int _=>true
 |_=>false
noncomputable def UX.sG:UX->Bool
 |.bit _ _=>true
 |_=>false
section
variable{g:UT}{Q:V->UT->Prop}
def f0(t:a<=b->Q (.d (aP [(a,b)])) g)(f:b<a->Q (.d (aP [])) g):C (d+1) 0 [.d (.int a),.d (.int b)] g Q:=
 H.step (aX (λh=>t<|agS h) (λh=>f<|Yp.mp<|agZ h))
def tZ{v:UX}(q:Q (.d (.bool (match v with|.int _=>false|.sum _ _=>WV 47 Y|.bit _ _=>WV 46 Y))) g):C (U+1) 31 [.d v.en,.d (.str Y)] g Q:=
 match v,q with
 |.int _,q=>H.step q
 |.sum _ _,q=>H.step q
 |.bit _ _,q=>H.step q
def HJ{v:UX}(q:Q (.d (m7 v.ps v.c)) g):C (U+2) 34 [.d v.en] g Q:=
 match v,q with
 |.int _,q=>H.step<|tZ<|tZ q
 |.sum _ _,q=>H.step<|tZ q
 |.bit _ true,q=>H.step<|tZ<|tZ q
 |.bit _ false,q=>H.step<|tZ<|tZ q
def qg{t:Tr}(q:Q (.d t.neg.en) g):C (U+1) 36 [.d t.en] g Q:=
 match t,q with
 |.tf _,q=>H.step q
 |.bit _ _,q=>H.step q
def E0{v:UX}(q:Q (.d (.bool false)) g):C (U+1) 15 [.d v.en] g Q:=
 match v,q with
 |.int _,q=>H.step q
 |.sum _ _,q=>H.step q
 |.bit _ _,q=>H.step q
def iB(q:Q (.d (.bool true)) g):C (d+1) 15 [.d (bI r v)] g Q:=H.step q
def CU{v:UX}(q:Q (.d (.bool v.known)) g):C (U+2) 33 [.d v.en] g Q:=
 match v,q with
 |.int _,q=>H.step<|E0<|tZ<|tZ q
 |.sum _ _,q=>H.step<|E0<|tZ q
 |.bit _ _,q=>H.step<|E0<|tZ<|tZ q
def Mi{v:UX}(q:Q (.d (.bool v.sG)) g):C (U+2) 32 [.d v.en] g Q:=
 match v,q with
 |.int _,q=>H.step<|tZ q
 |.sum _ _,q=>H.step<|tZ q
 |.bit _ _,q=>H.step<|tZ q
def Og(h:i.natAbs<=1000000)(q:Q (.d (.int i)) g):C (d+1) 22 [.d (.int i)] g Q:=
 H.step (bM (agY<|Yp.mpr<|XX.mpr<|WJ h<|by decide+kernel) q)
def NW(q:Q (.d (bI [(1,vs.length)] vs)) g):C (d+1) 20 [.d (.lst (vs.map UX.en))] g Q:=by
 refine H.step ?_;have e:((vs.map UX.en).length:Int)=vs.length:=by rw[Wm]
 rw[show bI [(1,vs.length)] vs=.tup [.tup [.tup [.int 1,.int ((vs.map UX.en).length:Int)]],.lst<|vs.map UX.en] by refine aa e ?_;rfl] at q;exact q
def f3(q:Q (.d (.int a)) g):C (d+1) 3 [.d (aP ((a,b)::r))] g Q:=H.step q
end
def L8{k:List Int->Prop}(h:o=some a)(q:k a):(match (generalizing:=false) o with|some a=>k a|none=>N):=by
 subst h;exact q
def pd(e:L->D)(E:T->Ev->Ev)(st:T->UT)(f:T->L->T)(I:List L->T->Prop):
  ∀{b:List L},(∀s,dx src a (st s))->(∀x r s,I (x::r) s->I r (f s x))->(∀x r s t K,I (x::r) s->(∀j,K .next (E (f s x) j) (st (f s x)))->B (e x) (E s t) (st s) K)->
   ∀s t,I b s->(∀j,Q .next (E (b.foldl f s) j) (st (b.foldl f s)))->Vb src a B (b.map e) (E s t) (st s) Q:=by
 intro b G hI h
 induction b with
 |nil=>exact λs t _ q=>q t
 |cons x b k=>
  exact λs t i q=>h x b s t _ i λj=>⟨G _,k _ j (hI _ _ _ i) q⟩
def iy(p:Nat×Int):D×D:=(aH p.1,aI p.2)
noncomputable def nf(x:Nat)(a:Int):UW->UW
 |[]=>[(x,a)]
 |p::r=>match (p.1:Int)==(x:Int) with
  |true=>(p.1,a)::r
  |false=>p::nf x a r
noncomputable def ee(x:Nat):UW->Option Int
 |[]=>none
 |p::r=>match (p.1:Int)==(x:Int) with
  |true=>some p.2
  |false=>ee x r
def uX(x:Nat)(a:Int)(M:UW):fV (aH x) (aI a) (M.map iy)=(nf x a M).map iy:=by
 induction M with
 |nil=>rfl
 |cons p r i=>
  show(match (p.1:Int)==(x:Int) with|true=>(aH p.1,aI a)::r.map iy|false=>iy p::fV (aH x) (aI a) (r.map iy))=(match (p.1:Int)==(x:Int) with|true=>(p.1,a)::r|false=>p::nf x a r).map iy;refine aa i ?_;cases (p.1:Int)==(x:Int)<;>rfl
def uW(x:Nat)(M:UW):aO (aH x) (M.map iy)=(ee x M).map aI:=by
 induction M with
 |nil=>rfl
 |cons p r i=>
  show(match (p.1:Int)==(x:Int) with|true=>some (aI p.2)|false=>aO (aH x)<|r.map iy)=(match (p.1:Int)==(x:Int) with|true=>some p.2|false=>ee x r).map aI;refine aa i ?_;cases (p.1:Int)==(x:Int)<;>rfl
def Cn(M:UW):fK (M.map dk)=some (M.map iy):=by
 induction M with
 |nil=>rfl
 |cons p r i=>exact agN (λo=>W4 (iy p::·) o) i
def dX(h:U≠Y):((U:Int)==(Y:Int))=false:=agV.mpr λe=>h<|Z6 e
def U8(x:Nat):((x:Int)==(x:Int)):=agW _
def C3(h:U∉b.map (·.1)):nf U J b=b++[(U,J)]:=by
 induction b with
 |nil=>rfl
 |cons p r i=>
  show(match (p.1:Int)==(U:Int) with|true=>(p.1,J)::r|false=>p::nf U J r)=_;refine aa (dX λe=>h (by rw[<-e];exact Wr ..)) (aa (i λg=>h<|Wu _ g) ?_);rfl
def DF:∀(b a:UW),((a++b).map (·.1)).Nodup->(a++b).length<lim->dE 1 (a.map iy) (b.map iy)=some ((a++b).map iy):=by
 intro z
 induction z with
 |nil=>
  intro a _ _;rw[WI];rfl
 |cons p r i=>
  intro a m J;show(if kd (aH p.1)=1/\(a.map iy).length<lim then dE 1 (fV (aH p.1) (aI p.2)<|a.map iy) (r.map iy) else none)=_;have g:p.1∉a.map (·.1):=by
   rw[W8,Zq] at m;exact λh=>m.2.2 _ h _ (Yd (Wr ..)) rfl
  rw[agO ⟨rfl,by rw[Wm];exact WJ (by rw[Wv];exact WD ..) J⟩,uX,C3 g];have e:a++p::r=a++[p]++r:=(acp ..);rw[e] at m J ⊢;exact i (a++[p]) m J
noncomputable def cN(x:Nat):Int:=x
noncomputable def yc(x:Nat):List Nat->List Nat
 |[]=>[x]
 |y::ys=>if (x:Int)<(y:Int) then x::y::ys else y::yc x ys
def jc:List Nat->List Nat
 |[]=>[]
 |x::xs=>yc x (jc xs)
def yl(x:Nat)(Y:List Nat):insI (x:Int) (Y.map cN)=(yc x Y).map cN:=by
 induction Y with
 |nil=>rfl
 |cons y Y i=>
  show(if (x:Int)<(y:Int) then _ else (y:Int)::insI (x:Int) (Y.map cN))=(if (x:Int)<(y:Int) then _ else y::yc x Y).map _;refine aa i ?_;by_cases h:(x:Int)<(y:Int)
  ·refine aa (agO h) (aa (agO h) ?_);rfl
  ·refine aa (agP h) (aa (agP h) ?_);rfl
def mj(f:List Nat):U7 (f.map cN)=(jc f).map cN:=by
 induction f with
 |nil=>rfl
 |cons x f i=>exact(agN (insI (x:Int)) i).trans<|yl x _
def xj(x:Nat)(Y:List Nat):(yc x Y).Perm (x::Y):=by
 induction Y with
 |nil=>exact .refl _
 |cons y Y i=>
  show(if (x:Int)<(y:Int) then x::y::Y else y::yc x Y).Perm _;by_cases h:(x:Int)<(y:Int)
  ·rw[agO h]
  ·rw[agP h];exact(i.cons y).trans (.swap ..)
def cR(f:List Nat):(jc f).Perm f:=by
 induction f with
 |nil=>exact .refl _
 |cons x f i=>exact(xj x _).trans<|i.cons x
def ib(P:UW):UW:=((jc<|P.map (·.1)).filter λx=> !((ee x P).getD 0==0)).map λx=>(x,(ee x P).getD 0)
noncomputable def n6(f:UW)(c:Int):UX:=match f.isEmpty with
 |true=> .int c
 |false=> .sum f c
def step(k:Int)(s:UW)(p:Nat×Int):UW:=nf p.1 ((ee p.1 s).getD 0+k*p.2) s
def cj(a b:UX)(k:Int):UX:=n6 (ib<|b.ps.foldl (step k) a.ps)<|a.c+k*b.c
def D3(h:t[n]?=some (.dict kk e))(g:kd i=kk)(l:e.length<lim):zF t (.loc n) i (.d x)=some (t.set n (.dict kk (fV i x e))):=by
 show t[n]?.bind (λo=>Jt t n o i x)=_;rw[h];show(if kd i=kk/\e.length<lim then _ else none)=_;exact aa (agO ⟨g,l⟩) rfl
def uf:(t++[a]).set t.length b=t++[b]:=by
 rw[aag (h:=WC _),Yq];rfl
def wg(h:l.all (plain 11)):D.yL (.tup l) (.tup [])=some l.isEmpty:=by
 rw[gp (show plain 12 (.tup l)=true from h) rfl];exact agN some<|mv l
def jE(n:Nat)(p:UW):(p.map dk).all (plain (n+1)):=Wt.mpr λd h=>by
 refine fc h λi _ e=>?_;clear h;subst e;cases n<;>rfl
def Fz(h:U∈P.map (·.1)):∃a,ee U P=some a:=by
 induction P with
 |nil=>cases h
 |cons p r i=>
  by_cases e:p.1=U
  ·exact⟨p.2,by show(match (p.1:Int)==(U:Int) with|true=>some p.2|false=>ee U r)=_;rw[e,U8]⟩
  ·exact af (i<|(Wo.mp h).resolve_left λh=>e h.symm) λa G=>⟨a,by show(match (p.1:Int)==(U:Int) with|true=>some p.2|false=>ee U r)=_;exact aa (dX e) G⟩
def uV:(nf x a P).length<=P.length+1:=by
 induction P with
 |nil=>exact WC _
 |cons p r i=>
  show(match (p.1:Int)==(x:Int) with|true=>(p.1,a)::r|false=>p::nf x a r).length<=_;cases (p.1:Int)==(x:Int)
  ·exact WB i
  ·exact W9 _
def FJ:ee Y (nf U J P)=if U=Y then some J else ee Y P:=by
 induction P with
 |nil=>
  show(match (U:Int)==(Y:Int) with|true=>some J|false=>none)=_;by_cases e:U=Y
  ·rw[agO e,e,U8]
  ·rw[agP e,dX e];rfl
 |cons p r i=>
  show ee Y (match (p.1:Int)==(U:Int) with|true=>(p.1,J)::r|false=>p::nf U J r)=(if U=Y then some J else match (p.1:Int)==(Y:Int) with|true=>some p.2|false=>ee Y r);by_cases e:p.1=U
  ·rw[e,U8]
   show(match (U:Int)==(Y:Int) with|true=>some J|false=>ee Y r)=_;by_cases g:U=Y
   ·rw[agO g,g,U8]
   ·rw[agP g,dX g]
  ·rw[dX e]
   show(match (p.1:Int)==(Y:Int) with|true=>some p.2|false=>ee Y<|nf U J r)=_;rw[i];by_cases g:U=Y
   ·rw[agO g,agO g,dX λh=>e<|h.trans g.symm]
   ·exact aa (agP g) (aa (agP g) rfl)
structure w6 (k:Nat) (v:UX):Prop where
 len:v.ps.length<=24
 r8:(v.ps.map (·.1)).Nodup
 co:∀p∈v.ps,p.2.natAbs<=10
 c:v.c.natAbs<=k
def LM{P:UW}(h:∀p∈P,p.2.natAbs<=U)(x:Nat):((ee x P).getD 0).natAbs<=U:=by
 induction P with
 |nil=>exact Wz _
 |cons p r i=>
  show(abo (match (p.1:Int)==(x:Int) with|true=>some p.2|false=>ee x r) 0).natAbs<=U;cases (p.1:Int)==(x:Int)
  ·exact i λp Y=>h p<|Wu _ Y
  ·exact h p (Wr ..)
structure kn (r:UW) (s:UW):Prop where
 sP:∀x,((ee x s).getD 0).natAbs+100*r.length<=5000
 len:s.length+r.length<=48
 co:∀p∈r,p.2.natAbs<=10
def uM{b:Int}(G:J.natAbs<=5000)(M:I.natAbs<=10)(Q:b.natAbs<=10):(J+I*b).natAbs<=J.natAbs+100:=by
 have h:(I*b).natAbs<=100:=by rw[abb];exact acR M Q
 have:=XQ J<|I*b;exact NQ this h
def kn.go(M:J.natAbs<=10){p:Nat×Int}{r s:UW}(h:kn (p::r) s):kn r (step J s p):=by
 have Y:=h.co p (Wr ..);have c:=h.len;have u:=uV (x:=p.1) (a:=(ee p.1 s).getD 0+J*p.2) (P:=s);refine⟨λx=>?_,?_,λq t=>h.co q<|Wu _ t⟩
 ·have h1:=h.sP x
  have h2:=h.sP p.1;have b:=uM (Wh (WD ..) h2) M Y;delta step;rw[FJ];rw[WZ] at h1 h2;by_cases e:p.1=x
  ·exact aa (agO e)<|MY h2 b
  ·exact aa (agP e)<|La h1
 ·rw[WZ] at c;show(nf _ _ _).length+_<=_;exact NU (mz c) u
def kn.all(M:J.natAbs<=10){r s:UW}(h:kn r s):kn [] (r.foldl (step J) s):=by
 induction r generalizing s with
 |nil=>exact h
 |cons p r i=>exact i<|h.go M
def pS{p:UW}{t:UT}(m:(p.map (·.1)).Nodup)(h:p.length<lim):ER tab 3 [.d (.tup (p.map dk))] t=some (.loc t.length,t++[.dict 1 (p.map iy)]):=by
 show(fK<|p.map dk).bind (λe=>(dE 1 [] e).map λE=>(V.loc t.length,t++[O.dict 1 E]))=_;rw[Cn];show(dE 1 (([]:UW).map iy)<|p.map iy).map (λE=>(V.loc t.length,t++[O.dict 1 E]))=_;refine aa (DF p [] m h) ?_;rfl
def BC{s:UW}{t:UT}:Bs (fe tab (t++[.dict 1 (s.map iy)]) (.loc t.length)) [.d (aH U),.d (.int 0)] (t++[.dict 1 (s.map iy)])=some (.d (.int ((ee U s).getD 0)),t++[.dict 1 (s.map iy)]):=by
 refine aa (bR bV) ?_;show some (V.d<|(aO (aH U)<|s.map iy).getD<|.int 0,_)=_;rw[uW];cases ee U s<;>rfl
def CP{s:UW}{t:UT}(h:s.length<lim):zF (t++[.dict 1 (s.map iy)]) (.loc t.length) (aH U) (.d (.int J))=some (t++[.dict 1 ((nf U J s).map iy)]):=by
 refine aa (D3 (kk:=1) (x:=.int J) bV rfl (by rw[Wm];exact h)) (aa uf ?_);exact agN (λl=>some<|t++[O.dict 1 l]) (uX ..)
def su{s:UW}{t:UT}(h:ee U s=some J):lF tab (fe tab (t++[.dict 1 (s.map iy)]) (.loc t.length)) (aH U)=some (.int J):=by
 refine aa (bR bV) ?_;show aO (aH U) (s.map iy)=_;rw[uW,h];rfl
def Ca{s:UW}{t:UT}:((one [V.loc t.length]).bind λv=>jU (fe tab (t++[.dict 1 (s.map iy)]) v))=some (2,(s.map (·.1)).map aH):=by
 show jU (fe tab (t++[.dict 1<|s.map iy])<|.loc t.length)=_;rw[bR bV];show some (2,(s.map iy).map (·.1))=_;refine aa Xu<|aa Xu ?_;rfl
def Gs(f:List Nat):cP (f.map aH)=some (f.map cN):=by
 induction f with
 |nil=>rfl
 |cons x f i=>exact agN (λo=>W4 (cN x::·) o) i
def x6(h:U<=48):U<lim:=WJ h<|ab rfl
def yu{f:UW}(h:(!(f.map dk).isEmpty)):(n6 f J).en=m7 f J:=by
 obtain _|⟨p,f⟩:=f
 ·cases h
 ·rfl
def xe{f:UW}(h:(!(f.map dk).isEmpty)=false):(n6 f J).en=.int J:=by
 obtain _|⟨p,f⟩:=f
 ·rfl
 ·cases h
section
variable{f:UT}{Q:V->UT->Prop}
def Cu{a b:UX}(N:eR f)(G:w6 100000 a)(u:w6 100000 b)(M:J.natAbs<=10)(m:(a.c+J*b.c).natAbs<=1000000)(q:Q (.d (cj a b J).en) f):C (U+3) 35 [.d a.en,.d b.en,.d (.int J)] f Q:=by
 refine H.step<|HJ<|HJ ?_;refine ai (pS G.r8<|x6 (by have:=G.len;exact cy this rfl))<|Lj (rE (cy M rfl) (by have:=u.c;exact cy this rfl)) (Og m ?_);refine(?_:Vb .no _ _ (WQ dk b.ps) _ _ _);have v:kn b.ps a.ps:=⟨λx=>Bc (LM G.co x) u.len rfl,zC G.len u.len rfl,u.co⟩;have I:=v.all M;refine pd (src:=.no) (T:=UW) dk (λs t=>(16,.d<|m7 a.ps a.c)::(21,.d<|m7 b.ps b.c)::(37,.d<|.int J)::(35,.loc f.length)::(36,.d<|.int<|a.c+J*b.c)::t)
  (λs=>f++[.dict 1<|s.map iy]) (step J) kn (λ_=>trivial) (λ_ _ _ h=>h.go M) ?_ a.ps [] v ?_
 ·intro p r s t K hI j
  have Y:=hI.co p (Wr ..);have L:=hI.sP p.1;have o:=hI.len;refine ec (lW bV rfl) (agN (λx=>zN (GW x) 5) (bR bV)) (ai ((fQ rfl).trans bw)<|ai BC<|ai bw<|Lj (rE (cy M rfl)<|cy Y rfl)<|Og ?_ ?_)
  ·exact L6 L (uM (tM L) M Y) rfl
  exact ai ((fQ rfl).trans bw)<|ai (CP<|x6<|tM o)<|j _
 ·intro t
  let P:=b.ps.foldl (step J) a.ps
  have l:P.length<=48:=by have:=I.len;exact this
  refine ai Ca<|L8 (Gs _)<|bG ?_ ?_
  ·exact XD.mpr (by rw[Wm,Wm];show P.length+1<=64;exact mZ l rfl)
  rw[mj,Xu];refine(?_:bb .no _ _ (WQ aH<|jc<|P.map (·.1)) [] _ _);have M:∀x∈jc (P.map (·.1)),ee x P=some ((ee x P).getD 0):=λx g=>by
   refine af (Fz<|(cR _).mem_iff.mp g) λa G=>aa G ?_;rfl
  have n:(jc<|P.map (·.1)).length<=lim:=by rw[(cR _).length_eq,Wm];exact Yz<|x6 l
  refine bh aH (λx=>dk (x,(ee x P).getD 0)) (λx=> !((ee x P).getD 0==0)) ?_ n ?_
  ·intro x g K i A
   refine ai bw<|ai (su<|M x g)<|aX (λh=>?_) (λh=>?_)
   ·exact ai bw (ai bw<|ai (su<|M x g)<|i h)
   ·exact A h
  refine bG (dj n) ?_;have e:((jc<|P.map (·.1)).filter λx=> !((ee x P).getD 0==0)).map (λx=>dk (x,(ee x P).getD 0))=(ib P).map dk:=by
   delta ib;rw[Xu];rfl
  refine aa e<|ai bw<|ai (agN (W4 _)<|wg<|jE _ _)<|aX (λh=>?_) (λh=>?_)
  ·refine ai bw (ai (lv N) ?_)
   rw[cj,yu h] at q;exact q
  ·refine ai (lv N) ?_
   rw[cj,xe h] at q;exact q
end
def zm(w:List Int)(x:Nat)(a:Int)(s:UW):bp w (nf x ((ee x s).getD 0+a) s)=bp w s+a*ah w x:=by
 induction s with
 |nil=>show(0+a)*ah w x+0=0+a*ah w x;rw[XB,XJ]
 |cons p r i=>
  show bp w (match (p.1:Int)==(x:Int) with|true=>(p.1,(abo (match (p.1:Int)==(x:Int) with|true=>some p.2|false=>ee x r) 0)+a)::r|false=>p::nf x ((abo (match (p.1:Int)==(x:Int) with|true=>some p.2|false=>ee x r) 0)+a) r)=p.2*ah w p.1+bp w r+a*ah w x;by_cases e:p.1=x
  ·rw[e,U8]
   show(p.2+a)*ah w x+bp w r=_;rw[Int.add_mul,Xc,XJ<|a*ah w x,<-Xc]
  ·rw[dX e]
   show p.2*ah w p.1+bp w (nf x ((ee x r).getD 0+a) r)=_;rw[i,Xc]
def oQ(w:List Int)(k:Int)(b:UW):∀a,bp w (b.foldl (step k) a)=bp w a+k*bp w b:=by
 induction b with
 |nil=>intro a;show bp w a=bp w a+k*0;rw[ZM,XI]
 |cons p r i=>
  intro a;show bp w (r.foldl (step k)<|step k a p)=bp w a+k*(p.2*ah w p.1+bp w r);rw[i];delta step;rw[zm,adk,Int.mul_assoc,Xc]
def xF(w:List Int)(h:a.Perm b):bp w a=bp w b:=by
 induction h with
 |nil=>rfl
 |cons p _ i=>exact agN (_+·) i
 |swap p q l=>show q.2*_+(p.2*_+bp w l)=p.2*_+(q.2*_+bp w l);rw[<-Xc,<-Xc,XJ<|q.2*_]
 |trans _ _ m t=>exact m.trans t
def r9(h:y∈(nf x a s).map (·.1)):y=x\/y∈s.map (·.1):=by
 induction s with
 |nil=>exact .inl<|Wj.mp h
 |cons p r i=>
  by_cases e:p.1=x
  ·rw[nf,e,U8] at h
   obtain h|h:=Wo.mp h
   ·exact .inl h
   ·exact .inr (Wu _ h)
  ·rw[nf,dX e] at h
   obtain h|h:=Wo.mp h
   ·exact .inr (h▸Wr ..)
   ·exact(i h).imp_right (Wu _)
def EK(h:(s.map (·.1)).Nodup):((nf x a s).map (·.1)).Nodup:=by
 induction s with
 |nil=>exact WO.mpr ⟨WW,Xr⟩
 |cons p r i=>
  have h:=WO.mp h;by_cases e:p.1=x
  ·rw[nf,e,U8];exact WO.mpr ⟨e▸h.1,h.2⟩
  ·rw[nf,dX e];exact WO.mpr ⟨λg=>(r9 g).elim e h.1,i h.2⟩
def xE{b:UW}:∀{a:UW}{y:Nat},y∈(b.foldl (step J) a).map (·.1)->y∈a.map (·.1)\/y∈b.map (·.1):=by
 induction b with
 |nil=>exact λh=> .inl h
 |cons p r i=>
  intro a y h;obtain h|h:=i h
  ·obtain h|h:=r9 h
   ·exact .inr (h▸Wr ..)
   ·exact .inl h
  ·exact .inr (Wu _ h)
def k6{k:Int}{b:UW}:∀{a:UW},(a.map (·.1)).Nodup->((b.foldl (step k) a).map (·.1)).Nodup:=by
 induction b with
 |nil=>exact λh=>h
 |cons p r i=>exact λh=>i<|EK h
def zR{b:UW}:∀{a:UW},(b.foldl (step J) a).length<=a.length+b.length:=by
 induction b with
 |nil=>exact WC _
 |cons p r i=>
  intro a;have:=i (a:=step J a p);have h:=uV (x:=p.1) (a:=(ee p.1 a).getD 0+J*p.2) (P:=a);rw[WZ];have e:=h;exact yR this e
def DL{P:UW}(h:(P.map (·.1)).Nodup):(P.map (·.1)).map (λx=>(x,(ee x P).getD 0))=P:=by
 induction P with
 |nil=>rfl
 |cons p r i=>
  have h:=WO.mp h;have e:∀x∈r.map (·.1),(x,(ee x<|p::r).getD 0)=(x,(ee x r).getD 0):=λx g=>by
   have n:p.1≠x:=λe=>h.1<|show p.1∈_ from e.symm▸g;rw[ee,dX n]
  show(p.1,(ee p.1<|p::r).getD 0)::(r.map (·.1)).map _=_;rw[YN e,i h.2,ee,U8];rfl
def oI(w:List Int){P:UW}(h:(P.map (·.1)).Nodup):bp w (ib P)=bp w P:=by
 have e:∀l:List Nat,bp w ((l.filter λx=> !((ee x P).getD 0==0)).map λx=>(x,(ee x P).getD 0))=bp w (l.map λx=>(x,(ee x P).getD 0)):=by
  intro l
  induction l with
  |nil=>rfl
  |cons x l i=>
   rw[Zd,X3];by_cases g:((ee x P).getD 0==0)=true
   ·rw[g,agP<|by decide,i]
    show _=(ee x P).getD 0*ah w x+bp w (l.map _);rw[eq_of_beq g,Int.zero_mul,XB]
   ·rw[eq_false_of_ne_true g,agO<|by rfl,X3]
    exact agN (_+·) i
 rw[ib,e,xF w<|(cR _).map _,DL h]
def Bw(h:x∈(ib P).map (·.1)):x∈P.map (·.1):=by
 delta ib at h;rw[Xu] at h;refine fc h λy a e=>?_;clear h;subst e;exact(cR _).mem_iff.mp (Xl.mp a).1
def qJ(h:(P.map (·.1)).Nodup):((ib P).map (·.1)).Nodup:=by
 delta ib;rw[Xu];show(WQ id _).Nodup;rw[adb];exact((cR _).nodup_iff.mpr h).filter _
def Du(h:p∈ib P):p.2≠0:=by
 delta ib at h;refine ae (YH.mp h) λx g E=>?_;obtain rfl:=E;have:=(Xl.mp g).2;intro e;rw[show(ee x P).getD 0=0 from e] at this;cases this
def B9:(ib P).length<=P.length:=by
 delta ib;rw[Wm];refine Wh (Xv ..) ?_;rw[(cR _).length_eq,Wm];exact WC _
noncomputable def Vk(x:Nat):List Int:=Yg x 0++[1]
def gC(x y:Nat):ah (Vk x) y=if y=x then 1 else 0:=by
 delta ah X8 Vk;by_cases h:y<x
 ·refine aa (Yc (by rw[Y1];exact h)) (aa List.getElem?_replicate<|aa (agO h)<|aa (agP<|Xi h) ?_);rfl
 ·refine aa (Xs (by rw[Y1];exact Zu.mp h)) (aa Y1 ?_)
  by_cases e:y=x
  ·rw[e,Yq,agO rfl];rfl
  ·refine aa (agP e) ?_
   have:y - x=(y - x - 1)+1:=Lc h e;refine aa this ?_;rfl
def UX.cf(v:UX)(x:Nat):Int:=bp (Vk x) v.ps
def AL(h:(P.map (·.1)).Nodup)(Y:p∈P):bp (Vk p.1) P=p.2:=by
 have z:∀{r:UW}{x:Nat},x∉r.map (·.1)->bp (Vk x) r=0:=by
  intro r x g
  induction r with
  |nil=>rfl
  |cons q r i=>
   show q.2*ah (Vk x) q.1+bp (Vk x) r=0;have n:q.1≠x:=λe=>g (e▸Wr ..);rw[i λh=>g<|Wu _ h,gC,agP n,ZM];rfl
 induction P with
 |nil=>cases Y
 |cons q r i=>
  have h:=WO.mp h;show q.2*ah (Vk p.1) q.1+bp (Vk p.1) r=p.2;obtain rfl|Y:=Wo.mp Y
  ·rw[z h.1,gC,agO rfl,aaP,XI]
  ·have n:q.1≠p.1:=λe=>h.1<|show q.1∈r.map (·.1) from e.symm▸Yd Y
   rw[i h.2 Y,gC,agP n,ZM,XB]
structure km (n:Nat) (v:UX):Prop where
 r8:(v.ps.map (·.1)).Nodup
 lt:∀p∈v.ps,p.1<n
 un:∀p∈v.ps,p.2=1\/p.2= -1
 len:v.ps.length<=24
def km.slim(h:km n v)(m:v.c.natAbs<=k):w6 k v:=
 ⟨h.len,h.r8,λp Y=>by rcases h.un p Y with e|e<;>refine aa e ?_<;>decide,m⟩
def eJ(f:UW)(c:Int):(n6 f c).ps=f:=by cases f<;>rfl
def wy(f:UW)(c:Int):(n6 f c).c=c:=by cases f<;>rfl
def we(w:List Int){a b:UX}(h:(a.ps.map (·.1)).Nodup):(cj a b J).ev w=a.ev w+J*b.ev w:=by
 rw[UX.ev,cj,eJ,wy,oI w<|k6 h,oQ,UX.ev,UX.ev,adk];exact M7 ..
def jL:(cj a b k).c=a.c+k*b.c:=wy _ _
def u9{a b:UX}(h:(a.ps.map (·.1)).Nodup)(x:Nat):(cj a b J).cf x=a.cf x+J*b.cf x:=by
 rw[UX.cf,cj,eJ,oI _<|k6 h,oQ];rfl
def o8{a b:UX}(G:km U a)(Q:km U b)(c:a.ps.length+b.ps.length<=24)(i:∀x,-1<=a.cf x+J*b.cf x/\a.cf x+J*b.cf x<=1):
  km U (cj a b J)/\(cj a b J).ps.length<=a.ps.length+b.ps.length:=by
 have m:=k6 (k:=J) (b:=b.ps) G.r8;have T:(cj a b J).ps.length<=a.ps.length+b.ps.length:=by delta cj;rw[eJ];exact Wh B9 zR
 refine⟨⟨?_,?_,?_,Wh T c⟩,T⟩
 ·delta cj;rw[eJ];exact qJ m
 ·intro p Y
  rw[cj,eJ] at Y;obtain h|h:=xE<|Bw<|Yd Y
  ·exact fc h λq r e=>e▸G.lt q r
  ·exact fc h λq r e=>e▸Q.lt q r
 ·intro p Y
  have e:=i p.1;rw[<-u9 G.r8] at e;delta UX.cf at e;rw[AL (by rw[cj,eJ];exact qJ m) Y] at e;rw[cj,eJ] at Y;have:=Du Y;exact J8 e this
def iD(v:Int)(d:m9):Prop:=∃p∈d,p.1<=v/\v<=p.2
noncomputable def vq(d:m9):Int:=(d.headD (0,0)).1
noncomputable def yK(d:m9):Int:=(d.getLastD (0,0)).2
structure iF (d:m9):Prop where
 ne:d≠[]
 bd:∀v,iD v d->vq d<=v/\v<=yK d
 le:vq d<=yK d
 small:∀p∈d,p.1.natAbs<=1000/\p.2.natAbs<=1000
 r8:(d.flatMap strip).Nodup
structure bH (S:St) (w:List Int):Prop where
 len:w.length=S.n
 box:∀x<S.n,iD (ah w x) (S.bN x)
 all:∀t∈S.aw,t.holds w
noncomputable def Tr.vs:Tr->List Nat
 |.tf _=>[]
 |.bit x _=>[x]
inductive U5 where
 |sum (ps:UW) (c:Int)|dJ (l:nq)|or (xs:List Nat)|all (ts:List (Nat×Bool))|xor (a b:Nat)
 |d8 (i:Nat) (ns:List Int)|elem (i:Nat) (xs:List Nat)|cnt (xs:List Nat) (v:Int)|aS (y:Nat) (t:Tr) (d:m9)
def J4(t:Nat×Bool):D:=.tup [.str 46,aH t.1,.bool t.2]
def U5.en:U5->D
 |.sum ps c=>m7 ps c
 |.dJ l=> .tup [.str 62,l.en]
 |.or xs=> .tup [.str 63,bS xs]
 |.all ts=> .tup [.str 64,.tup (ts.map J4)]
 |.xor a b=> .tup [.str 53,aH a,aH b]
 |.d8 i ns=> .tup [.str 69,aH i,cC ns]
 |.elem i xs=> .tup [.str 70,aH i,bS xs]
 |.cnt xs v=> .tup [.str 77,bS xs,.int v]
 |.aS y t d=> .tup [.str 67,aH y,t.en,aP d]
noncomputable def Cw(w:List Int)(t:Nat×Bool):Bool:=(ah w t.1==1)==t.2
def U5.says(w:List Int)(z:Nat):U5->Prop
 |.sum ps c=>ah w z=bp w ps+c
 |.dJ l=>Told.holds w (.dJ z l)=true
 |.or xs=>Told.holds w (.or xs z)=true
 |.all ts=>(ah w z==1)=ts.all (Cw w)
 |.xor a b=>Told.holds w (.xor a b z)=true
 |.d8 i ns=>Told.holds w (.d8 i ns z)=true
 |.elem i xs=>Told.holds w (.elem i xs z)=true
 |.cnt xs v=>Told.holds w (.cnt xs v z)=true
 |.aS y t d=>ah w z=if t.ev w then ah w y else vq d
noncomputable def U5.bool:U5->Bool
 |.dJ _=>true
 |.or _=>true
 |.all _=>true
 |.xor _ _=>true
 |_=>false
noncomputable def U5.vars:U5->List Nat
 |.sum ps _=>ps.map (·.1)
 |.dJ l=>l.xs
 |.or xs=>xs
 |.all ts=>ts.map (·.1)
 |.xor a b=>[a,b]
 |.d8 i _=>[i]
 |.elem i xs=>i::xs
 |.cnt xs _=>xs
 |.aS y t _=>y::t.vs
def fm{E:L->D}(h:∀x y,bP (E x) (E y)->x=y):∀{f a:List L},lP (f.map E) (a.map E)->f=a:=by
 intro f
 induction f with
 |nil=>
  intro a e;cases a with
  |nil=>rfl
  |cons=>exact Ws e
 |cons x f i=>
  intro a e;cases a with
  |nil=>exact Ws e
  |cons y a=>
   have e:=WE.mp e;exact aa (h x y e.1)<|aa (i e.2) rfl
def jP(h:(a&&b)):a=true/\b=true:=WE.mp h
def qT(h:bP (.int x) (.int y)):x=y:=eq_of_beq h
def rX(x y:Nat)(h:bP (aH x) (aH y)):x=y:=Z6<|qT h
def uK(h:bP (bS x) (bS y)):x=y:=fm rX h
def G9(h:bP (cC x) (cC y)):x=y:=fm (λ_ _=>qT) h
def Kg(x y:Nat×Bool)(h:bP (J4 x) (J4 y)):x=y:=by
 obtain⟨a,s⟩:=x;obtain⟨b,t⟩:=y;have h:=jP<|show(bP (aH a) (aH b)&&lP [.bool s] [.bool t])=true from h;have e:=rX a b h.1;have g:=(jP h.2).1;refine aa e ?_;cases s<;>cases t<;>first|rfl|cases g
def Mt(x y:Int×Int)(h:bP (iE x) (iE y)):x=y:=by
 obtain⟨a,s⟩:=x;obtain⟨b,t⟩:=y;have h:=jP h;have e:a=b:=qT h.1;have g:s=t:=qT (jP h.2).1;exact aa e<|aa g rfl
def KQ(x y:Nat×Int)(h:bP (dk x) (dk y)):x=y:=by
 obtain⟨a,s⟩:=x;obtain⟨b,t⟩:=y;have h:=jP h;have e:a=b:=rX _ _ h.1;have g:s=t:=qT (jP h.2).1;exact aa e<|aa g rfl
def OW(x y:nq)(h:bP x.en y.en):x=y:=by
 obtain⟨a,A,f,c⟩:=x;obtain⟨b,bs,r,m⟩:=y;have h:=jP h;have t:=jP h.2;have Y:=jP t.2;have e:A=bs:=G9 t.1;have E:f=r:=uK Y.1;have o:c=m:=qT (jP Y.2).1;refine aa e<|aa E<|aa o ?_;have:=h.1;clear h t Y;cases a<;>cases b<;>first|rfl|cases this
def NR{t u:Tr}(h:bP t.en u.en):t=u:=by
 obtain a|⟨x,s⟩:=t
 ·obtain b|⟨y,s⟩:=u
  ·have:(a==b):=(t9 a b).symm.trans h;rw[eq_of_beq this]
  ·exact Ws (show false=true by cases a<;>exact h)
 ·obtain b|⟨y,T⟩:=u
  ·exact Ws (show false=true from h)
  ·have:=Kg (x,s) (y,T) h
   exact aa ((Yr this).1)<|aa ((Yr this).2) rfl
def U5.L(b:U5)(n:Nat):Prop:=(Zv n [(47,∃ps c,b=.sum ps c),(62,∃l,b=.dJ l),(63,∃xs,b=.or xs),(64,∃ts,b=.all ts),(53,∃x y,b=.xor x y),(69,∃i ns,b=.d8 i ns),(70,∃i xs,b=.elem i xs),(77,∃xs v,b=.cnt xs v),(67,∃y t d,b=.aS y t d)]).getD False
def U5.pk(b:U5):∃n r,b.en=.tup (.str n::r)/\b.L n:=by
 cases b with
 |sum ps c=>exact⟨_,_,rfl,ps,c,rfl⟩
 |dJ l=>exact⟨_,_,rfl,l,rfl⟩
 |or f=>exact⟨_,_,rfl,f,rfl⟩
 |all f=>exact⟨_,_,rfl,f,rfl⟩
 |xor x y=>exact⟨_,_,rfl,x,y,rfl⟩
 |d8 x y=>exact⟨_,_,rfl,x,y,rfl⟩
 |elem x y=>exact⟨_,_,rfl,x,y,rfl⟩
 |cnt x y=>exact⟨_,_,rfl,x,y,rfl⟩
 |aS x y z=>exact⟨_,_,rfl,x,y,z,rfl⟩
def U5.tg{x r:List D}{e:D}(g:bP (.tup (.str U::x)) e)(h:e=.tup (.str Y::r)):Y=U:=by
 subst h;exact(WY (jP g).1).symm
def Ae{x y:D}(h:bP (.tup [.str U,x]) (.tup [.str U,y])):bP x y:=(jP (jP h).2).1
def hU{x y u v:D}(h:bP (.tup [.str U,x,u]) (.tup [.str U,y,v])):bP x y/\bP u v:=⟨(jP (jP h).2).1,(jP (jP (jP h).2).2).1⟩
def CG{x y u v a b:D}(h:bP (.tup [.str U,x,u,a]) (.tup [.str U,y,v,b])):bP x y/\bP u v/\bP a b:=⟨(jP (jP h).2).1,(jP (jP (jP h).2).2).1,(jP (jP (jP (jP h).2).2).2).1⟩
def U5.inj{a b:U5}(h:bP a.en b.en):a=b:=cF b.pk λn r e v=>by
 cases a with
 |sum ps c=>
  have q:=U5.tg h e;subst q;refine XY (show ∃x y,b=.sum x y from v) λx q=>XY q λy q=>?_;clear e v;subst q;rw[show _=_ from fm KQ (hU h).1,qT (hU h).2]
 |dJ l=>
  have q:=U5.tg h e;subst q;refine XY (show ∃x,b=.dJ x from v) λx q=>?_;clear e v;subst q;rw[OW _ _<|Ae h]
 |or l=>
  have q:=U5.tg h e;subst q;refine XY (show ∃x,b=.or x from v) λx q=>?_;clear e v;subst q;rw[uK<|Ae h]
 |all l=>
  have q:=U5.tg h e;subst q;refine XY (show ∃x,b=.all x from v) λx q=>?_;clear e v;subst q;rw[show _=_ from fm Kg (Ae h)]
 |xor x y=>
  have q:=U5.tg h e;subst q;refine XY (show ∃x y,b=.xor x y from v) λx q=>XY q λy q=>?_;clear e v;subst q;rw[rX _ _ (hU h).1,rX _ _ (hU h).2]
 |d8 x y=>
  have q:=U5.tg h e;subst q;refine XY (show ∃x y,b=.d8 x y from v) λx q=>XY q λy q=>?_;clear e v;subst q;rw[rX _ _ (hU h).1,G9 (hU h).2]
 |elem x y=>
  have q:=U5.tg h e;subst q;refine XY (show ∃x y,b=.elem x y from v) λx q=>XY q λy q=>?_;clear e v;subst q;rw[rX _ _ (hU h).1,uK (hU h).2]
 |cnt x y=>
  have q:=U5.tg h e;subst q;refine XY (show ∃x y,b=.cnt x y from v) λx q=>XY q λy q=>?_;clear e v;subst q;rw[uK (hU h).1,qT (hU h).2]
 |aS x y z=>
  have q:=U5.tg h e;subst q;refine XY (show ∃x y z,b=.aS x y z from v) λx q=>XY q λy q=>XY q λz q=>?_;clear e v;subst q;exact aa (rX _ _ (CG h).1)<|aa (NR (CG h).2.1)<|aa (show _=_ from fm Mt (CG h).2.2) rfl
def gr{L:Type}{e:L->D}(h:∀x,D.ao U (e x))(f:List L):(f.map e).all (D.ao U):=Wt.mpr λd Y=>by
 refine fc Y λi _ E=>?_;clear Y;subst E;exact h i
def hX(x:Nat):D.ao n (aH x):=by cases n<;>rfl
def hI(x:Int):D.ao n (aI x):=by cases n<;>rfl
def Ob(x:List Nat):D.ao (n+1) (bS x):=gr hX x
def Q0(x:List Int):D.ao (n+1) (cC x):=gr hI x
def hL(l:nq):D.ao 7 l.en:=by
 show(D.ao 6 (.str<|if l.eq then 57 else 60)&&(D.ao 6 (cC l.as)&&(D.ao 6 (bS l.xs)&&(D.ao 6 (.int l.c)&&true))))=true;rw[Q0,Ob];rfl
def ki(h:l.all (D.ao 7)):kd (.tup l)=2:=by
 show(match l.all (D.ao 7) with|true=>2|false=>3)=2;rw[h]
def U5.kd:∀N:U5,Mm.kd N.en=2:=by
 intro z;cases z with
 |sum ps c=>
  exact ki (by
  show(true&&(D.ao 7 (.tup<|ps.map dk)&&(true&&true)))=true;refine aa (show D.ao 7 (.tup<|ps.map dk)=true from gr (λ_=>rfl) ps) ?_;rfl)
 |dJ l=>
  exact ki (by show(true&&(D.ao 7 l.en&&true))=true;rw[hL];rfl)
 |or x=>
  exact ki (by show(true&&(D.ao 7 (bS x)&&true))=true;rw[Ob];rfl)
 |all T=>
  exact ki (by
  show(true&&(D.ao 7 (.tup<|T.map J4)&&true))=true;refine aa (show D.ao 7 (.tup<|T.map J4)=true from gr (λ_=>rfl) T) ?_;rfl)
 |xor a b=>
  exact rfl
 |d8 i n=>
  exact ki (by show(true&&(true&&(D.ao 7 (cC n)&&true)))=true;rw[Q0];rfl)
 |elem i x=>
  exact ki (by show(true&&(true&&(D.ao 7 (bS x)&&true)))=true;rw[Ob];rfl)
 |cnt x v=>
  exact ki (by show(true&&(D.ao 7 (bS x)&&(true&&true)))=true;rw[Ob];rfl)
 |aS y t d=>
  exact ki (by
  show(true&&(true&&(D.ao 7 t.en&&(D.ao 7 (aP d)&&true))))=true;refine aa (show D.ao 7 (aP d)=true from gr (λ_=>rfl) d) (aa (show D.ao 7 t.en=true by cases t<;>rfl) ?_);rfl)
section
def au(h:x<n):ah (w.take n) x=ah w x:=by
 delta ah;rw[X8,X8,ab2,agO h]
def eh{xs:List Nat}(h:∀x∈xs,ah M x=ah g x):xs.map (ah M)=xs.map (ah g):=YN h
def fx{l:nq}(h:∀x∈l.xs,ah M x=ah g x):l.holds M=l.holds g:=by
 delta nq.holds;rw[eh h]
def Vj{p q:Nat->Bool}{xs:List Nat}(h:∀x∈xs,p x=q x):xs.any p=xs.any q:=by
 induction xs with
 |nil=>rfl
 |cons x xs i=>rw[W5,W5,h x (Wr ..),i λy a=>h y<|Wu _ a]
def bD:∀{t:Told},(∀x∈t.vars,ah M x=ah g x)->t.holds M=t.holds g:=by
 intro I;cases I with
 |x8 l=>
  intro h;exact fx h
 |dJ b l=>
  intro h;show((ah M b==1)==l.holds M)=((ah g b==1)==l.holds g);rw[h b (Wr ..),fx λx j=>h x<|Wu _ j]
 |imp b l=>
  intro h;show((ah M b==0)||l.holds M)=((ah g b==0)||l.holds g);rw[h b (Wr ..),fx λx j=>h x<|Wu _ j]
 |clause u ds=>
  intro h;show(u.any (λx=>ah M x==1)||ds.any λx=>ah M x==0)=(u.any (λx=>ah g x==1)||ds.any λx=>ah g x==0);exact aa (Vj λx j=>by rw[h x<|W6 _ j]) (aa (Vj (xs:=ds) λx j=>by rw[h x<|XE _ j]) rfl)
 |diff xs _=>
  intro h;delta Told.holds;dsimp only;rw[eh (xs:=xs) h]
 |gZ xs d n=>
  intro h;delta Told.holds;dsimp only;rw[eh (xs:=xs) h]
 |xor a b c=>
  intro h;delta Told.holds;dsimp only;rw[h a<|.head _,h b<|.tail _<|.head _,h c<|.tail _<|.tail _<|.head _]
 |elem i xs z=>
  intro h;delta Told.holds;dsimp only;rw[eh λx j=>h x<|Wu _<|W6 _ j,h i<|.head _,h z<|Wu _<|XE _<|.head _]
 |d8 i n z=>
  intro h;delta Told.holds;dsimp only;rw[h i<|.head _,h z<|.tail _<|.head _]
 |and xs b=>
  intro h;delta Told.holds;dsimp only;rw[eh λx j=>h x<|W6 _ j,h b<|XE _<|.head _]
 |or xs b=>
  intro h;delta Told.holds;dsimp only;rw[eh λx j=>h x<|W6 _ j,h b<|XE _<|.head _]
 |cnt xs v z=>
  intro h;delta Told.holds;dsimp only;rw[eh λx j=>h x<|W6 _ j,h z<|XE _<|.head _]
def fI(h:∀p∈a,ah w p.1=ah A p.1):bp w a=bp A a:=by
 induction a with
 |nil=>rfl
 |cons p r i=>show p.2*ah w p.1+bp w r=p.2*ah A p.1+bp A r;rw[h p<|.head _,i λq s=>h q<|.tail _ s]
def Ct{v:UX}(h:∀p∈v.ps,ah M p.1=ah g p.1):v.ev M=v.ev g:=by
 delta UX.ev;rw[fI h]
def wN(h:ah w t.1=ah A t.1):Cw w t=Cw A t:=by delta Cw;rw[h]
def Cj{t:Tr}(h:∀x∈t.vs,ah M x=ah g x):t.ev M=t.ev g:=by
 obtain b|⟨x,s⟩:=t
 ·rfl
 ·delta Tr.ev;dsimp only;rw[h x<|.head _]
def VJ{T:List (Nat×Bool)}(h:∀t∈T,ah M t.1=ah g t.1):T.all (Cw M)=T.all (Cw g):=by
 induction T with
 |nil=>rfl
 |cons p r i=>rw[Zi,Zi,wN<|h p<|.head _,i λq s=>h q<|.tail _ s]
def mK(u:ah M U=ah g U):∀{N:U5},(∀x∈N.vars,ah M x=ah g x)->N.says M U->N.says g U:=by
 intro I;cases I with
 |sum j c=>
  intro h s;show ah g U=bp g j+c;refine av u<|av (fI λp Y=>h p.1<|Yd Y) ?_;exact s
 |dJ l=>
  intro h s;exact(bD λx k=>(Wo.mp k).elim (λe=>e▸u) (h x)).symm.trans s
 |or f=>
  intro h s;exact(bD λx k=>(WH.mp k).elim (h x) λe=>Wj.mp e▸u).symm.trans s
 |all T=>
  intro h s;show(ah g U==1)=T.all (Cw g);refine av u<|av (VJ λt o=>h t.1<|Yd o) ?_;exact s
 |xor a b=>
  intro h s;exact(bD λx k=>by
   clear s;obtain rfl|k:=Wo.mp k
   ·exact h _ (.head _)
   ·obtain rfl|k:=Wo.mp k
    ·exact h _ (.tail _<|.head _)
    ·exact aa (Wj.mp k) u).symm.trans s
 |d8 i n=>
  intro h s;exact(bD λx k=>by
   clear s;obtain rfl|k:=Wo.mp k
   ·exact h _ (.head _)
   ·exact aa (Wj.mp k) u).symm.trans s
 |elem i f=>
  intro h s;exact(bD λx k=>by
   clear s;obtain rfl|k:=Wo.mp k
   ·exact h _ (.head _)
   ·exact(WH.mp k).elim (λe=>h x<|.tail _ e) λe=>Wj.mp e▸u).symm.trans s
 |cnt f v=>
  intro h s;exact(bD λx k=>(WH.mp k).elim (h x) λe=>Wj.mp e▸u).symm.trans s
 |aS y t d=>
  intro h s;show ah g U=if t.ev g then ah g y else vq d
  refine av u<|av (Cj λx k=>h x<|.tail _ k) (av (h y<|.head _) ?_);exact s
noncomputable def TR:m9:=[(0,1)]
structure Nk (S:St) (κ:U5) (z:Nat):Prop where
 lt:z<S.n
 vars:∀x∈κ.vars,x<S.n
 bool:κ.bool->S.bN z=TR
 says:∀w,bH S w->κ.says w z
structure CY (n:Nat) (t:Told):Prop where
 cJ:t.cJ
 short:Vm t
 lt:∀x∈t.vars,x<n
structure Inv (P:U5->Prop) (S:St):Prop where
 bN:∀x<S.n,iF (S.bN x)
 aw:∀t∈S.aw,CY S.n t
 made:∀κ d,aO κ.en S.made=some d->∃z,d=aH z/\(P κ->Nk S κ z)
 two:2<=S.n
 kJ:S.made.length<=S.n
structure Rm (k:Nat) (S:St):Prop where
 n:S.n+k<=63
 t:S.aw.length+k<=63
structure U4 (k:Nat) (o:List Int->Prop) (S j:St):Prop where
 cnt:j.n<=S.n+k
 nz:j.aw.length<=S.aw.length+k
 pre:∃ds,j.vars=S.vars++ds
 keep:∀x d,aO x S.made=some d->aO x j.made=some d
 fwd:∀w,bH S w->o w->∃w',bH j w'/\w'.take S.n=w
 bwd:∀w',bH j w'->bH S (w'.take S.n)/\o (w'.take S.n)
 one:∀w w',bH j w->bH j w'->w.take S.n=w'.take S.n->w=w'
variable{S j B E:St}{P:U5->Prop}{k k':Nat}{o A χ:List Int->Prop}
def U4.le(h:U4 k o S j):S.n<=j.n:=af h.pre λd e=>by
 rw[St.n,St.n,e,Wv];exact WD ..
def U4.bN(h:U4 k o S j)(g:x<S.n):j.bN x=S.bN x:=af h.pre λd e=>by
 delta St.bN;rw[e,X8,X8,Yc g]
def U4.more(h:U4 k o S j)(M:k<=k'):U4 k' o S j:={h with cnt:=Wh h.cnt<|WL M _,nz:=Wh h.nz (WL M _)}
def Rm.after(r:Rm (k+k') S)(e:U4 k o S j):Rm k' j:=⟨GH r.n e.cnt,GH r.t e.nz⟩
def Rm.less(r:Rm k S)(h:k'<=k):Rm k' S:=⟨by have:=r.n;exact nM this h,by have:=r.t;exact nM this h⟩
def bH.dv(h:bH S w):w.take S.n=w:=by exact av h.len Zb
def U4.refl:U4 0 (λ_=>True) S S:=
 ⟨WC _,WC _,⟨[],(WI _).symm⟩,λ_ _ h=>h,λw h _=>⟨w,h,h.dv⟩,λw h=>⟨h.dv.symm▸h,trivial⟩,λw I h G e=>by rw[h.dv,G.dv] at e;exact e⟩
def dn(h:U<=Y):(M.take Y).take U=M.take U:=aa acF<|aa (X6 h) rfl
def U4.trans(a:U4 k o S B)(b:U4 k' A B E)(h:∀w,bH B w->(A w↔χ (w.take S.n))):U4 (k+k') (λw=>o w/\χ w) S E where
 cnt:=Gr a.cnt b.cnt
 nz:=Gr a.nz b.nz
 pre:=by
  exact af a.pre λds e=>af b.pre λds' e'=>⟨ds++ds',by rw[e',e,Xq]⟩
 keep:=λx d h=>b.keep x d (a.keep x d h)
 fwd:=λw hw hp=>by
  exact ae (a.fwd w hw hp.1) λw1 h1 e1=>ae (b.fwd w1 h1<|(h w1 h1).mpr<|e1.symm▸hp.2) λw2 h2 e2=>⟨w2,h2,av (dn a.le)<|aa e2<|aa e1 rfl⟩
 bwd:=λw2 h2=>by
  have⟨h1,p1⟩:=b.bwd w2 h2;have⟨h0,p0⟩:=a.bwd _ h1;rw[dn a.le] at h0 p0;exact⟨h0,p0,dn a.le▸(h _ h1).mp p1⟩
 one:=λw w' h h' e=>b.one w w' h h'<|a.one _ _ (b.bwd w h).1 (b.bwd w' h').1<|aa (dn a.le)<|aa (dn a.le)<|aa e rfl
def U4.iff(a:U4 k o S j)(h:∀w,bH S w->(o w↔A w)):U4 k A S j:=
 {a with fwd:=λw hw p=>a.fwd w hw<|(h w hw).mpr p,bwd:=λw hw=>⟨(a.bwd w hw).1,(h _ (a.bwd w hw).1).mp (a.bwd w hw).2⟩}
abbrev Tt:List Int->Prop:=λ_=>True
def U4.tt(a:U4 k Tt S B)(b:U4 k' Tt B E):U4 (k+k') Tt S E:=
 (a.trans b λ_ _=>aaq).iff λ_ _=>⟨λ_=>trivial,λ_=>⟨trivial,trivial⟩⟩
noncomputable def St.push(S:St)(p:D×m9)(ts:List Told)(m:List (D×D)):St:=⟨S.vars++[p],S.aw++ts,m⟩
def bA{t m}:(S.push p t m).n=S.n+1:=by
 show(S.vars++[p]).length=_;refine aa Wv ?_;rfl
def eE{t m}(h:x<S.n):(S.push p t m).bN x=S.bN x:=by
 show((S.vars++[p]).getD x _).2=_;rw[X8,Yc h];rfl
def eY{t m}:(S.push p t m).bN S.n=p.2:=by
 show((S.vars++[p]).getD S.vars.length _).2=_;rw[X8,Xs<|WC _,Yq];rfl
def bx(h:x<w.length):ah (w++u) x=ah w x:=by
 delta ah;rw[X8,X8,Yc h]
def bC:ah (w++[v]) w.length=v:=by
 rw[ah,X8,Xs<|WC _,Yq];rfl
def dD(I:Inv P S){T m}(J:w.length=S.n):bH (S.push p T m) (w++[v])↔(bH S w/\iD v p.2/\∀t∈T,t.holds (w++[v])):=by
 have u:∀t∈S.aw,t.holds (w++[v])=t.holds w:=λt r=>bD λx i=>bx (by rw[J];exact(I.aw t r).lt x i);constructor
 ·intro h
  refine⟨⟨J,λx i=>?_,λt r=>(u t r).symm.trans<|h.all t<|W6 _ r⟩,?_,λt r=>h.all t<|XE _ r⟩
  ·have:=h.box x (by exact aa bA<|XA (Yz i))
   rw[bx<|jq J i,eE i] at this;exact this
  ·have:=h.box S.n (by exact aa bA<|acS (Mm.G.St.n S))
   rw[eY,<-J,bC] at this;exact this
 ·intro ⟨h,Y,r⟩
  refine⟨by refine aa bA<|aa Wv<|aa J ?_;rfl,λx i=>?_,λt L=>(WH.mp L).elim (λg=>(u t g).trans<|h.all t g) (r t)⟩;rw[bA] at i;by_cases e:x=S.n
  ·refine aa e (aa eY<|av J<|aa bC ?_);exact Y
  ·refine aa (bx<|jq J<|lA i e) (aa (eE<|lA i e) ?_);exact h.box x<|lA i e
def dR{t m}(h:bH (S.push p t m) w):∃u v,w=u++[v]/\u.length=S.n/\w.take S.n=u:=by
 have J:=h.len;rw[bA] at J;refine⟨w.take S.n,ah w S.n,?_,by exact aa YA<|X6 (Yz<|GU J),rfl⟩;rw[ah,X8,WS<|GU J];show w=w.take S.n++[w[S.n]];rw[List.take_append_getElem,X7<|Xf J]
def Ej(I:Inv P S){ts m}(hts:ts.length<=1)(hm:∀x d,aO x S.made=some d->aO x m=some d)(f:List Int->Int)(h:∀w,bH S w->iD (f w) p.2/\∀v,iD v p.2->((∀t∈ts,t.holds (w++[v]))↔v=f w)):U4 1 Tt S (S.push p ts m) where
 cnt:=by rw[bA];exact WC _
 nz:=by show(S.aw++ts).length<=_;rw[Wv];exact WL hts _
 pre:=⟨[p],rfl⟩
 keep:=hm
 fwd:=λw hw _=>⟨w++[f w],(dD I hw.len).mpr ⟨hw,(h w hw).1,((h w hw).2 _ (h w hw).1).mpr rfl⟩,by rw[<-hw.len,Yn]⟩
 bwd:=λw hw=>by
  refine aq (dR hw) λu v e₁ hl e=>?_;subst e₁;rw[e];exact⟨((dD I hl).mp hw).1,trivial⟩
 one:=λw w' h1 h2 e=>by
  refine aq (dR h1) λu v e₁ hl e1=>?_;subst e₁;refine aq (dR h2) λu' v' e₁ hl' e2=>?_;subst e₁;rw[e1,e2] at e;clear hl' e2;subst e;have a:=(dD I hl).mp h1;have b:=(dD I hl).mp h2;exact aa (((h u a.1).2 v a.2.1).mp a.2.2)<|aa (((h u a.1).2 v' b.2.1).mp b.2.2) rfl
noncomputable def St.ask(S:St)(t:Told):St:=⟨S.vars,S.aw++[t],S.made⟩
def kX:bH (S.ask t) w↔(bH S w/\t.holds w):=
 ⟨λh=>⟨⟨h.len,h.box,λt p=>h.all t<|W6 _ p⟩,h.all t<|XE _<|.head _⟩,
  λh=>⟨h.1.len,h.1.box,λT p=>(WH.mp p).elim (h.1.all T) λe=>Wj.mp e▸h.2⟩⟩
def fJ:U4 1 (λw=>t.holds w=true) S (S.ask t) where
 cnt:=W9 _
 nz:=by show(S.aw++[t]).length<=_;exact aa Wv<|WC _
 pre:=⟨[],(WI _).symm⟩
 keep:=λ_ _ h=>h
 fwd:=λw h p=>⟨w,kX.mpr ⟨h,p⟩,h.dv⟩
 bwd:=λw h=>by
  have h:=kX.mp h;exact aa h.1.dv h
 one:=λw w' h h' e=>by
  rw[(kX.mp h).1.dv,(kX.mp h').1.dv] at e;exact e
def Nk.ext(h:Nk S N z)(e:U4 k o S j):Nk j N z:=
 ⟨Ww h.lt e.le,λx g=>Ww (h.vars x g) e.le,λb=>(e.bN h.lt).trans<|h.bool b,
  λw hw=>mK (au h.lt) (λx g=>au<|h.vars x g) (h.says _ (e.bwd w hw).1)⟩
def gQ(I:Inv P S)(h:CY S.n t):Inv P (S.ask t):=
 ⟨I.bN,λT r=>(WH.mp r).elim (I.aw T) λe=>Wj.mp e▸h,
  λN d g=>(I.made N d g).imp λz s=>⟨s.1,λp=>(s.2 p).ext fJ⟩,I.two,I.kJ⟩
def d7{x:D}{e:List (D×D)}{k v:D}:aO x (e++[(k,v)])=match aO x e with
  |some d=>some d
  |none=>match bP k x with
   |true=>some v
   |false=>none:=by
 induction e with
 |nil=>rfl
 |cons p r i=>
  obtain⟨y,u⟩:=p;show(match bP y x with|true=>some u|false=>aO x<|r++[(k,v)])=(match (match bP y x with|true=>some u|false=>aO x r) with|some d=>some d|none=>_);refine aa i ?_;cases bP y x<;>rfl
def ox(h:aO x i=none):fV x v i=i++[(x,v)]:=by
 induction i with
 |nil=>rfl
 |cons p r I=>
  obtain⟨y,u⟩:=p;change (match bP y x with|true=>some u|false=>aO x r)=none at h;show(match bP y x with|true=>(y,v)::r|false=>(y,u)::fV x v r)=_;rcases e:bP y x with _|_
  ·rw[e] at h;exact agN ((y,u)::·)<|I h
  ·rw[e] at h;exact nomatch h
def CF(I:Inv P S){ts:List Told}(hd:iF p.2)(ht:∀t∈ts,CY (S.n+1) t)
  (e:U4 1 o S (S.push p ts (S.made++[(κ.en,aH S.n)]))) (hv:∀x∈κ.vars,x<S.n) (hb:κ.bool->p.2=TR)
  (hs:P κ->∀w,bH (S.push p ts (S.made++[(κ.en,aH S.n)])) w->κ.says w S.n):Inv P (S.push p ts (S.made++[(κ.en,aH S.n)])) where
 bN:=λx hx=>by
  rw[bA] at hx;by_cases h:x=S.n
  ·refine aa h (aa eY ?_);exact hd
  ·exact aa (eE<|lA hx h)<|I.bN x (lA hx h)
 aw:=λt h=>by
  refine aa bA ?_;obtain h|h:=WH.mp h
  ·have:=I.aw t h;exact⟨this.cJ,this.short,λx hx=>WM<|this.lt x hx⟩
  ·exact ht t h
 made:=λκ' d g=>by
  change aO κ'.en (S.made++[(κ.en,aH S.n)])=some d at g;rw[d7] at g;rcases h:aO κ'.en S.made with _|d'
  ·rw[h] at g
   clear h;rcases q:bP κ.en κ'.en with _|_
   ·rw[q] at g;exact nomatch g
   ·rw[q] at g
    have:=U5.inj q;subst this;exact⟨S.n,(Wn g).symm,λp=>⟨by exact aa bA<|WK _,λx hx=>by exact aa bA<|WM (hv x hx),λb=>eY.trans<|hb b,hs p⟩⟩
  ·rw[h] at g
   exact ae (I.made κ' d' h) λz hz hm=>⟨z,(Wn g).symm.trans hz,λp=>(hm p).ext e⟩
 two:=by exact aa bA<|Y2 I.two
 kJ:=by
  exact aa bA<|aa Wv<|WB I.kJ
end
structure Lo (pt:V) (W:O) (R:List O):Prop where
 pt:pt=.d .none\/∃k,k<R.length+9/\pt=.loc k
 W:∀n,W.below n
 R:∀o∈R,∀n,o.below n
noncomputable def My(n:Nat)(v:V):Bool:=match v with|.loc k=>decide (k<n)|.d _=>true
def Lo.low{S:St}{fr:Bool}{pt:V}{W:O}{R:List O}(h:Lo pt W R):eR (UU S fr pt W R):=by
 have Q:∀n,R.all (O.below n):=λn=>Wt.mpr λo f=>h.R o f n;have Y:My (R.length+9) pt:=by
  obtain e|⟨k,M,e⟩:=h.pt
  ·refine aa e ?_;rfl
  ·exact aa e<|agT M
 have d2:∀k,k<9->decide (k<R.length+9)=true:=λk M=>agT<|Pp M rfl;show(W.below (R.length+9)&&((decide (2<R.length+9)&&(decide (5<R.length+9)&&(My (R.length+9) pt&&(decide (6<R.length+9)&&(decide (7<R.length+9)&&(true&&true))))))&&
  ((decide (3<R.length+9)&&(decide (4<R.length+9)&&(true&&(true&&true))))&&(true&&(true&&(true&&(true&&(true&&(true&&R.all (O.below<|R.length+9))))))))))=true
 rw[h.W,Y,Q,d2 2<|ab rfl,d2 3<|ab rfl,d2 4<|ab rfl,d2 5<|ab rfl,d2 6<|ab rfl,d2 7<|ab rfl]
 rfl
def Lo.more{pt:V}{W:O}{R:List O}(h:Lo pt W R){o:O}(f:∀n,o.below n):Lo pt W (R++[o]):=
 ⟨h.pt.imp id λz=>ae z λk M e=>⟨k,by rw[Wv];exact(WM M),e⟩,h.W,λx g=>(WH.mp g).elim (h.R x) λe=>Wj.mp e▸f⟩
def HZ{Q:V->UT->Prop}(e:i=j)(q:Q (.d (.int j)) t):Q (.d (.int i)) t:=e▸q
def OB{Q:V->UT->Prop}(e:t=N)(q:Q v N):Q v t:=e▸q
def oz(h:∀d∈l,bP d d):lP l l:=by
 induction l with
 |nil=>rfl
 |cons x l i=>exact WE.mpr ⟨h x<|.head _,i λd Y=>h d<|.tail _ Y⟩
def nQ:∀(n:Nat)(d:D),D.ao n d->bP d d:=by
 intro n
 induction n with
 |zero=>
  intro d h;cases d with
  |bool b=>cases b<;>rfl
  |int i=>exact agW i
  |str k=>exact aaD k
  |_=>exact Ws h
 |succ n I=>
  intro d h;cases d with
  |bool b=>cases b<;>rfl
  |int i=>exact agW i
  |str k=>exact aaD k
  |tup l=>exact oz λd Y=>I d<|Wt.mp h d Y
  |_=>exact Ws h
def pX(h:kd d=2):bP d d:=by
 obtain _|_|_|_|_|_|l|_:=d;iterate 6 cases h
 ·change (match l.all (D.ao 7) with|true=>2|false=>3)=2 at h
  rcases e:l.all (D.ao 7) with _|_
  ·rw[e] at h;cases h
  ·exact oz λd Y=>nQ 7 d<|Wt.mp e d Y
 cases h
section
variable{S:St}{f:Bool}{g:V}{W:O}{R:List O}
def De:(UU S f g W R).set 3 (.list (S.vars.map JV++[JV p]))=UU ⟨S.vars++[p],S.aw,S.made⟩ f g W R:=by
 delta UU;rw[W8];rfl
def FX:(UU S f g W R).set 4 (.list (S.aw.map Told.en++[t.en]))=UU (S.ask t) f g W R:=by
 delta UU St.ask;rw[W8];rfl
def si(h:d≠[]):Vc (d.map iE) (-1)=some (iE (d.getLastD (0,0))):=by
 have e:d=d.dropLast++[d.getLastD (0,0)]:=by
  rw[aba,aaJ h];exact(List.dropLast_concat_getLast h).symm
 rw[e,W8];exact l8.trans<|av e rfl
noncomputable def mn(a b:Int):Int:=if b<a then b else a
noncomputable def mx(a b:Int):Int:=if a<b then b else a
def pK(S:St)(s:Int×Int)(p:Nat×Int):Int×Int:=(s.1+mn (p.2*vq (S.bN p.1)) (p.2*yK (S.bN p.1)),s.2+mx (p.2*vq (S.bN p.1)) (p.2*yK (S.bN p.1)))
def eU(S:St)(v:UX):Int×Int:=v.ps.foldl (pK S) (v.c,v.c)
def vd{N:U5}{e:List (D×D)}:(bF (.kj 2 e) N.en).map (!·)=some (!(aO N.en e).isSome):=by
 show(match WV (kd N.en) 2 with|true=>some (aO N.en e).isSome|false=>none).map (!·)=_;refine aa N.kd ?_;rfl
def wx{N:U5}{e:List (D×D)}{d:D}(h:aO N.en e=some d):lF tab (.kj 2 e) N.en=some d:=by
 show(match WV (kd N.en) 2 with|true=>aO N.en e|false=>none)=_;exact aa N.kd h
def BF(h:iF d):(vq d).natAbs<=1000/\(yK d).natAbs<=1000:=by
 have m:=h.ne;refine⟨?_,?_⟩
 ·obtain _|⟨p,r⟩:=d
  ·exact agR rfl m
  ·exact(h.small p<|.head _).1
 ·delta yK;rw[aba,aaJ m]
  exact(h.small _<|List.getLast_mem m).2
section
variable{Q:V->UT->Prop}
def RK(h:m≠[])(q:Q (.d (.int (vq m))) t):C (d+1) 3 [.d (aP m)] t Q:=match m,h,q with
 |(_,_)::_,_,q=>f3 q
def TZ(h:m≠[])(q:Q (.d (.int (yK m))) t):C (d+1) 4 [.d (aP m)] t Q:=
 H.step (ai (si h)<|q)
def f7(r:S.aw.length<63)(q:Q (.d .none) (UU (S.ask t) f g W R)):C (d+1) 7 [.loc 2,.d t.en] (UU S f g W R) Q:=by
 refine H.step<|ai (agO (by rw[Wm];exact ZL r<|ab rfl)) ?_;exact OB FX q
def f6(r:S.n<63)(q:Q (.d (aH S.n)) (UU ⟨S.vars++[(N,m)],S.aw,S.made⟩ f g W R)):C (d+1) 6 [.loc 2,.d N,.d (aP m)] (UU S f g W R) Q:=by
 refine H.step<|ai (agO (by rw[Wm];exact ZL r<|ab rfl)) ?_;refine OB ?_<|HZ ?_ q
 ·exact De (p:=(N,m))
 rw[Wv,Wm];exact MU
def jm{κ:U5}{m:m9}{x:D}(h:aO κ.en S.made=some x)(q:Q (.d (.tup [x,.bool false])) (UU S f g W R)):C (U+1) 43 [.loc 1,.d κ.en,.d (aP m)] (UU S f g W R) Q:=by
 refine H.step<|ai vd ?_;refine bM (by refine aa h ?_;rfl) (ai (wx h) ?_);refine toQ2 ?_ q;refine aa h ?_;rfl
where toQ2 {b c:Bool} {x:D} {σ:UT} (e:b=c) (q:Q (.d (.tup [x,.bool c])) σ):Q (.d (.tup [x,.bool b])) σ:=e▸q
def jg{κ:U5}{m:m9}(h:aO κ.en S.made=none)(T:∀p∈m,p.1.natAbs<=1000/\p.2.natAbs<=1000)(r:S.n<63)(J:S.made.length<=S.n)
  (q:Q (.d (.tup [aH S.n,.bool true])) (UU (S.push (.hash S.n,m) [] (S.made++[(κ.en,aH S.n)])) f g W R)):C (U+2) 43 [.loc 1,.d κ.en,.d (aP m)] (UU S f g W R) Q:=by
 refine H.step<|ai vd ?_;refine eB (by rw[h];rfl) (?_:Vb .no _ _ (WQ iE m) _ _ _);refine tQ iE (λ(s:Unit) t=>(0,.loc 1)::(47,.d κ.en)::(12,.d<|aP m)::(46,.d<|.bool<|!(aO κ.en S.made).isSome)::t) (λ_ _=>()) () [] ?_ ?_
 ·intro p Y s t K k
  have:=T p Y;refine ai ((fQ rfl).trans bw)<|ai bw<|Og ?_ ?_
  ·show(mx (p.1.natAbs)<|p.2.natAbs).natAbs<=1000000
   by_cases c:(p.1.natAbs:Int)<(p.2.natAbs:Int)
   ·rw[mx,agO c];exact cy (uI<|ZQ this) rfl
   ·rw[mx,agP c];exact cy (uI<|aan this) rfl
  ·exact k _
 intro t;refine f8<|bG (agT<|XA<|uI<|E5 r rfl)<|f6 r<|ai (agO ⟨κ.kd,WJ J<|ZL r<|ab rfl⟩)<|ai (wx (d:=aH S.n) ?_) ?_
 ·rw[ox h,d7,h]
  exact aa (pX κ.kd) rfl
 ·refine toQ2 (by refine aa h ?_;first|done|rfl) ?_
  refine OB ?_ q;refine av (ox h) ?_;show _=UU ⟨S.vars++[(.hash S.n,m)],S.aw++[],fV κ.en (aH S.n) S.made⟩ f g W R;rw[WI];rfl
where toQ2 {b c:Bool} {x:D} {σ:UT} (e:b=c) (q:Q (.d (.tup [x,.bool c])) σ):Q (.d (.tup [x,.bool b])) σ:=e▸q
end
end
def Sl(G:J.natAbs<=U)(h:I.natAbs<=Y):(J*I).natAbs<=U*Y:=by
 rw[abb];exact acR G h
def ID(h:a=1\/a= -1):a*b=b\/a*b= -b:=by
 rcases h with e|e<;>refine aa e ?_
 ·exact .inl (Xm _)
 ·exact .inr (by rw[Zp,Xm])
def y7(G:a=1\/a= -1)(m:l<=v)(t:v<=h):mn (a*l) (a*h)<=a*v/\a*v<=mx (a*l) (a*h):=by
 delta mn mx;rcases G with e|e<;>subst e
 ·rw[Xm,Xm,Xm]
  by_cases c:h<l
  ·exact(wJ c<|WG m t).elim
  ·refine aa (agP c) ?_
   by_cases n:l<h
   ·exact aa (agO n) ⟨m,t⟩
   ·exact aa (agP n) ⟨m,GK (Ay n c) t⟩
 ·rw[Zp,Zp,Zp,Xm,Xm,Xm]
  by_cases c: -h< -l
  ·refine aa (agO c) ?_
   by_cases n: -l< -h
   ·exact(Z7 _<|abJ c n).elim
   ·exact aa (agP n) ⟨uY t,uY m⟩
  ·refine aa (agP c) ?_
   by_cases n: -l< -h
   ·exact(wJ n<|ZT<|WG m t).elim
   ·exact aa (agP n) ⟨(Ay n c)▸(uY t),uY m⟩
def Ko(I:Inv P S)(v:bH S w):∀{a:UW}{s:Int×Int}{c:Int},(∀p∈a,p.1<S.n)->(∀p∈a,p.2=1\/p.2= -1)->s.1<=c->c<=s.2->
  (a.foldl (pK S) s).1<=c+bp w a/\c+bp w a<=(a.foldl (pK S) s).2:=by
 intro a
 induction a with
 |nil=>intro s c _ _ h t;exact⟨WG h<|W0 jG.symm,WG (W0 jG) t⟩
 |cons p r i=>
  intro s c J j h t;have Y:=J p<|.head _;have b:=(I.bN p.1 Y).bd _<|v.box p.1 Y;have m:=y7 (j p<|.head _) b.1 b.2;have:=i (s:=pK S s p) (c:=c+p.2*ah w p.1) (λq u=>J q<|.tail _ u) (λq u=>j q<|.tail _ u) (by show s.1+_<=_;exact abd h<|aan m) (by show _<=s.2+_;exact abd t<|ZQ m);rw[Xc] at this;exact this
def qh(I:Inv P S)(x:bH S w)(h:km S.n v):(eU S v).1<=v.ev w/\v.ev w<=(eU S v).2:=by
 have:=Ko I x (s:=(v.c,v.c)) (c:=v.c) h.lt h.un (WT _)<|WT _;rw[XJ] at this;exact this
structure DJ (S:St) (r:UW) (s:Int×Int):Prop where
 Qh:s.1.natAbs+1000*r.length<=200000
 Ar:s.2.natAbs+1000*r.length<=200000
 ok:∀p∈r,p.1<S.n/\(p.2=1\/p.2= -1)
def Ck(h:a=1\/a= -1):(a*b).natAbs=b.natAbs:=by
 rcases ID h with e|e<;>rw[e]
 exact Y9 b
def Cb(G:a.natAbs<=k)(h:b.natAbs<=k):(mn a b).natAbs<=k:=by
 unfold mn;by_cases c:b<a
 ·exact aa (agO c) h
 ·exact aa (agP c) G
def zT(G:a.natAbs<=k)(h:b.natAbs<=k):(mx a b).natAbs<=k:=by
 unfold mx;by_cases c:a<b
 ·exact aa (agO c) h
 ·exact aa (agP c) G
def DJ.go(I:Inv P S)(h:DJ S (p::r) s):DJ S r (pK S s p):=by
 have Y:=h.ok p<|.head _;have d:=BF<|I.bN p.1 Y.1;have a1:(p.2*vq (S.bN p.1)).natAbs<=1000:=by exact aa (Ck Y.2) d.1
 have a:(p.2*yK (S.bN p.1)).natAbs<=1000:=by exact aa (Ck Y.2) d.2
 have h1:=h.Qh;have h2:=h.Ar;rw[WZ] at h1 h2;refine⟨?_,?_,λq t=>h.ok q<|.tail _ t⟩
 ·exact He h1 (Cb a1 a)
 ·exact He h2 (zT a1 a)
section
variable{Q:V->UT->Prop}{S:St}{a:Bool}{b:V}{W:O}{R:List O}{P:U5->Prop}
def JP(I:Inv P S)(h:km S.n v)(m:v.c.natAbs<=100000)(q:Q (.d (iE (eU S v))) (UU S a b W R)):C (d+3) 44 [.loc 1,.d v.en] (UU S a b W R) Q:=by
 refine H.step<|HJ<|(?_:Vb .no _ _ (WQ dk v.ps) _ _ _);refine pd (src:=.no) dk (λ(s:Int×Int) t=>(0,.loc 1)::(23,.d v.en)::(48,.d<|m7 v.ps v.c)::(1,.d<|.int s.1)::(2,.d<|.int s.2)::t) (λ_=>UU S a b W R) (pK S) (DJ S)
  (λ_=>trivial) (λ_ _ _ h=>h.go I) ?_ (v.c,v.c) [] ?_ ?_
 ·intro p r s t K hI k
  have Y:=hI.ok p<|.head _;have f:=I.bN p.1 Y.1;have dl:=BF f;have i:p.2.natAbs<=1000000:=by rcases Y.2 with e|e<;>refine aa e ?_<;>decide
  exact ai bw<|ai ((fQ rfl).trans bw)<|f9 Y.1<|RK f.ne<|Lj (rE i<|cy (aan dl) rfl)<|ai bw<|ai ((fQ rfl).trans bw)<|f9 Y.1<|TZ f.ne<|Lj (rE i<|cy (ZQ dl) rfl)<|ai bw<|ai bw<|k _
 ·have:=h.len
  exact⟨Bc m this rfl,Bc m this rfl,λp Y=>⟨h.lt p Y,h.un p Y⟩⟩
 ·intro t
  exact q
end
def foldl_add(l:List Int):∀a,l.foldl (· +·) a=a+l.foldl (· +·) 0:=by
 induction l with
 |nil=>intro a;exact(XI a).symm
 |cons x l i=>
  intro a;show l.foldl (· +·) (a+x)=a+l.foldl (· +·) (0+x);rw[i<|a+x,i<|0+x,XB,Xc]
def l7(a v:Int)(A g:List Int):dot (a::A) (v::g)=a*v+dot A g:=by
 show(((A.zip g).map λp=>p.1*p.2).foldl (· +·) (0+a*v))=_;rw[foldl_add,XB];rfl
def HN(w:List Int)(M:UW):dot (M.map (·.2)) ((M.map (·.1)).map (ah w))=bp w M:=by
 induction M with
 |nil=>rfl
 |cons p r i=>
  show dot (p.2::r.map (·.2)) (ah w p.1::(r.map (·.1)).map (ah w))=_;rw[l7,i];rfl
def Fp(w:List Int)(M:UW)(b:Int)(z:Nat):dot (M.map (·.2)++[b]) ((M.map (·.1)++[z]).map (ah w))=bp w M+b*ah w z:=by
 induction M with
 |nil=>show 0+b*ah w z=0+b*ah w z;rfl
 |cons p r i=>
  show dot (p.2::(r.map (·.2)++[b])) (ah w p.1::(r.map (·.1)++[z]).map (ah w))=_;rw[l7,i,<-Xc];rfl
noncomputable def Jo(ps:UW)(c:Int)(z:Nat):Told:=.x8 ⟨true,ps.map (·.2)++[-1],ps.map (·.1)++[z],-c⟩
def t5:(Jo p c z).holds w↔ah w z=bp w p+c:=by
 show((dot (p.map (·.2)++[-1]) ((p.map (·.1)++[z]).map<|ah w) - (-c))==0)=true↔_;rw[Fp,agQ];exact MQ
def wH(a:Int):∀n,(eO a n).Nodup:=by
 intro n
 induction n generalizing a with
 |zero=>exact Xr
 |succ n i=>exact WO.mpr ⟨λh=>Km (fk h).1,i _⟩
def cZ(h:a<=b)(ha:a.natAbs<=1000)(hb:b.natAbs<=1000):iF [(a,b)] where
 ne:=Z8 _ _
 bd:=λv ⟨p,hp,h⟩=>Wj.mp hp▸h
 le:=h
 small:=λp hp=>Wj.mp hp▸⟨ha,hb⟩
 r8:=by show(strip (a,b)++[]).Nodup;rw[WI];exact wH _ _
def dW:iD v [(a,b)]↔a<=v/\v<=b:=⟨λz=>ae z λp Y h=>by rw[Wj.mp Y] at h;exact h,λh=>⟨_,.head _,h⟩⟩
def Ij(I:Inv P S):∀{a:UW}{s:Int×Int},(∀p∈a,p.1<S.n)->(∀p∈a,p.2=1\/p.2= -1)->s.1<=s.2->(a.foldl (pK S) s).1<=(a.foldl (pK S) s).2:=by
 intro a
 induction a with
 |nil=>exact λ_ _ h=>h
 |cons p r i=>
  intro s J j h;have d:=(I.bN p.1<|J p<|.head _).le;have:=y7 (j p<|.head _) (WT<|vq<|S.bN p.1) d;exact i (λq t=>J q<|.tail _ t) (λq t=>j q<|.tail _ t) (by show s.1+_<=s.2+_;exact abd h<|WG (aan this)<|ZQ this)
def ft{S:St}{p:D×m9}{t:Told}{m:List (D×D)}:(S.push p [] m).ask t=S.push p [t] m:=by
 show(⟨_,(S.aw++[])++[t],_⟩:St)=_;rw[WI];rfl
structure OT (P:U5->Prop) (S S':St) (f:List Int->Int):Prop where
 I:Inv P S'
 e:U4 1 Tt S S'
 lt:S.n<S'.n
 val:∀w,bH S' w->ah w S.n=f (w.take S.n)
def iX(I:Inv P S)(A:ts.length<=1)(b:iF p.2)(o:∀t∈ts,CY (S.n+1) t)(Y:∀x∈κ.vars,x<S.n)(Q:κ.bool->p.2=TR)
  (f:List Int->Int) (L:∀w,bH S w->iD (f w) p.2/\∀v,iD v p.2->((∀t∈ts,t.holds (w++[v]))↔v=f w)) (j:P κ->∀w,bH S w->κ.says (w++[f w]) S.n):
  OT P S (S.push p ts (S.made++[(κ.en,aH S.n)])) f:=by
 have e:U4 1 Tt S (S.push p ts<|S.made++[(κ.en,aH S.n)]):=Ej I A (λx d h=>by rw[d7,h]) f L;have g:∀w,bH (S.push p ts<|S.made++[(κ.en,aH S.n)]) w->∃u,w=u++[f u]/\bH S u/\w.take S.n=u:=λw y=>by
  refine aq (dR y) λu v E J G=>?_;clear G;subst E;have a:=(dD I J).mp y;rw[((L u a.1).2 v a.2.1).mp a.2.2];exact⟨u,rfl,a.1,by rw[<-J,Yn]⟩
 refine⟨CF I b o e Y Q λp w y=>?_,e,by rw[bA];exact WK _,λw y=>?_⟩
 ·refine aj (g w y) λu z i _=>?_
  rw[z];exact j p u i
 ·refine aj (g w y) λu E i G=>?_;clear y;subst E
  exact aa G<|av i.len<|aa bC rfl
structure A4 (P:U5->Prop) (S S':St) (v:UX) (z:Nat):Prop where
 I:Inv P S'
 e:U4 1 Tt S S'
 lt:z<S'.n
 ev:∀w,bH S' w->ah w z=v.ev w
section
variable{Q:V->UT->Prop}{S:St}{f:Bool}{i:V}{W:O}{R:List O}{P:U5->Prop}
def MW{d n:Nat}{M:UW}{x:V}(I:Inv P S)(U:P (.sum M J))(r:Rm 1 S)(h:km S.n (.sum M J))(o:J.natAbs<=100000)
  (T:(eU S (.sum M J)).1.natAbs<=1000/\(eU S (.sum M J)).2.natAbs<=1000)
  (q:∀s z,A4 P S s (.sum M J) z->Q (.d (aH z)) (UU s f i W R)):
  da tab (C (d+3)) (Pc.drop 2) [(0,.loc 1),(23,x),(48,.d (m7 M J))] (UU S f i W R) (Kn.en n true Q):=by
 refine JP I h o<|f0 (λN=>?_) (λgt=>?_)
 ·rcases e:aO (U5.en<|.sum M J) S.made with _|y
  ·refine jg e (λp Y=>Wj.mp Y▸T) (by have:=r.n;exact fg this) I.kJ ?_
   have ag:∀(w:List Int)(v:Int),bH S w->bp (w++[v]) M=bp w M:=λw v A=>fI λp Y=>bx (by rw[A.len];exact h.lt p Y);have al:(M.map λp:Nat×Int=>aI p.2)++[D.int<|-1]=(WQ (λp:Nat×Int=>p.2) M++[-1]).map aI:=by rw[W8,Xu];rfl
   have am:(M.map λp:Nat×Int=>aH p.1)++[aH S.n]=(WQ (λp:Nat×Int=>p.1) M++[S.n]).map aH:=by rw[W8,Xu];rfl
   have L:=h.len;have ac:∀w,bH S w->iD (bp w M+J) [((eU S<|.sum M J).1,(eU S<|.sum M J).2)]:=λw A=>dW.mpr<|qh I A h;refine ai (agN (W4 _)<|wg<|jE _ _)<|aX (λg=>?_) (λg=>?_)
   ·refine(?_:bb .no _ _ (WQ dk M) [] _ _)
    refine fh dk (λp:Nat×Int=>aI p.2) (λp Y K k=>k) (Wh L<|ab rfl)<|bG (aQ<|Wh L<|ab rfl) (ai (a:=.lst<|(WQ (λp:Nat×Int=>p.2) M++[-1]).map aI) ?_ ?_)
    ·rw[<-al];exact agO (by rw[Wm];exact Wh (WB L)<|ab rfl)
    refine(?_:bb .no _ _ (WQ dk M) [] _ _);refine fh dk (λp:Nat×Int=>aH p.1) (λp Y K k=>k) (Wh L<|ab rfl)<|bG (aQ<|Wh L<|ab rfl) (ai (a:=.lst<|(WQ (λp:Nat×Int=>p.1) M++[S.n]).map aH) ?_ ?_)
    ·rw[<-am];exact agO (by rw[Wm];exact Wh (WB L)<|ab rfl)
    refine f7 (S:=S.push (.hash S.n,[((eU S<|.sum M J).1,(eU S<|.sum M J).2)]) []<|S.made++[((U5.sum M J).en,aH S.n)]) (t:=Jo M J S.n) (by have:=r.t;show(S.aw++[]).length<63;rw[WI];exact fg this) ?_;rw[ft];have K:=iX I (κ:=.sum M J) (p:=(.hash S.n,[((eU S<|.sum M J).1,(eU S<|.sum M J).2)])) (ts:=[Jo M J S.n]) (WC _) (cZ N T.1 T.2) ?_ ?_ (λb=>nomatch b) (λw=>bp w M+J) ?_ ?_
    ·exact q _ S.n ⟨K.I,K.e,K.lt,λw A=>(K.val w A).trans<|agN (· +J)<|fI λp Y=>au<|h.lt p Y⟩
    ·intro t u
     rw[Wj.mp u];refine⟨⟨by show(WQ (λp:Nat×Int=>p.2) M++[-1]).length=(WQ (λp:Nat×Int=>p.1) M++[S.n]).length;rw[Wv,Wv,Wm,Wm];rfl,λa G=>?_⟩,?_,λx j=>?_⟩
     ·obtain G|G:=WH.mp G
      ·refine fc G λp Y E=>?_;clear G;subst E
       rcases h.un p Y with e|e<;>rw[e]<;>decide
      ·rw[Wj.mp G];decide
     ·show(WQ (λp:Nat×Int=>p.1) M++[S.n]).length<=1000
      rw[Wv,Wm];exact Wh (WB L)<|ab rfl
     ·obtain j|j:=WH.mp j
      ·refine fc j λp Y E=>?_;clear j;subst E
       exact WM<|h.lt p Y
      ·rw[Wj.mp j];exact WK _
    ·intro x j
     refine fc j λp Y E=>?_;clear j;subst E;exact h.lt p Y
    ·intro w A
     refine⟨ac w A,λv _=>?_⟩;rw[ZV,t5,<-A.len,bC,ag w v A]
    ·intro _ w A
     show ah _ _=bp _ M+J;rw[<-A.len,bC,ag w _ A]
   ·have B:M=[]:=by clear U h T q N e ag al am L ac;cases M with
     |nil=>rfl
     |cons p r=>cases g
    clear U h e ag al am L ac g;subst B;have K:=iX I (κ:=.sum [] J) (p:=(.hash S.n,[((eU S<|.sum [] J).1,(eU S<|.sum [] J).2)])) (ts:=[]) (Wz _) (cZ N T.1 T.2) (λ_ h=>nomatch h) (λ_ h=>nomatch h) (λb=>nomatch b) (λw=>J) ?_ ?_
    ·exact q _ S.n ⟨K.I,K.e,K.lt,λw A=>(K.val w A).trans (XB J).symm⟩
    ·intro w A
     refine⟨dW.mpr ⟨WT J,WT J⟩,λv l=>⟨λ_=>?_,λ_ _ h=>nomatch h⟩⟩;have:=dW.mp l;exact Xa this.2 this.1
    ·intro _ w A
     show ah _ _=0+J;rw[<-A.len,bC,XB]
  ·refine jm e (ae (I.made (.sum M J) y e) λz ap m=>?_)
   clear e;subst ap;exact q S z ⟨I,U4.refl.more<|Wz _,(m U).lt,(m U).says⟩
 ·exact agR (Ij I h.lt h.un<|WT J) (Yp.mpr gt)
def iO(I:Inv P S)(L:P (.sum a c))(r:Rm 1 S)(h:km S.n (.sum a c))(m:c.natAbs<=100000)
  (U:(eU S (.sum a c)).1.natAbs<=1000/\(eU S (.sum a c)).2.natAbs<=1000)
  (q:∀s z,A4 P S s (.sum a c) z->Q (.d (aH z)) (UU s f i W R)):
  da tab (C (d+3)) (Pc.drop 1) [(0,.loc 1),(23,x),(48,.d (m7 a c))] (UU S f i W R) (Kn.en n true Q):=by
 have T:=MW (d:=d) (n:=n) (x:=x) I L r h m U q;clear U L;obtain _|⟨p,a⟩:=a
 ·exact T
 obtain _|_:=a
 ·refine aX (λg=>?_) (λg=>?_)
  ·refine aX (λG=>?_) (λG=>?_)
   ·refine q S p.1 ⟨I,U4.refl.more<|Wz _,h.lt p<|.head _,λw v=>?_⟩
    show ah w p.1=p.2*ah w p.1+0+c;rw[eq_of_beq<|eq_of_beq g,eq_of_beq G,Xm,XI,XI]
   ·exact T
  ·exact bM (eqF g) T
 ·exact T
where eqF {b:Bool} (h:(b==true)=false):b=false:=by cases b;rfl;exact h
def PW(I:Inv P S)(L:P (.sum v.ps v.c))(r:Rm 1 S)(h:km S.n v)(m:v.c.natAbs<=100000)
  (T:(eU S v).1.natAbs<=1000/\(eU S v).2.natAbs<=1000)
  (q:∀s z,A4 P S s v z->Q (.d (aH z)) (UU s f i W R)):C (d+4) 45 [.loc 1,.d v.en] (UU S f i W R) Q:=
 H.step (HJ<|iO I L r ⟨h.r8,h.lt,h.un,h.len⟩ m T λs z R=>q s z ⟨R.I,R.e,R.lt,R.ev⟩)
end
structure n9 (S:St) (v:UX):Prop where
 ok:km S.n v
 c:v.c.natAbs<=100000
structure fj (S:St) (v:UX):Prop extends n9 S v where
 lo:(eU S v).1.natAbs<=1000
 hi:(eU S v).2.natAbs<=1000
def Dh(e:U4 k l S j):∀{a:UW}{s:Int×Int},(∀p∈a,p.1<S.n)->a.foldl (pK j) s=a.foldl (pK S) s:=by
 intro a
 induction a with
 |nil=>exact λ_=>rfl
 |cons p r i=>
  intro s h;have:pK j s p=pK S s p:=by delta pK;rw[e.bN<|h p<|.head _]
  show r.foldl (pK j) (pK j s p)=_;exact aa this<|i λq t=>h q<|.tail _ t
def km.more(h:km n v)(l:n<=m):km m v:=⟨h.r8,λp Y=>Ww (h.lt p Y) l,h.un,h.len⟩
def n9.ext(h:n9 S v)(e:U4 k j S s):n9 s v:=⟨h.ok.more e.le,h.c⟩
def fj.ext(h:fj S v)(e:U4 k j S s):fj s v:=by
 have b:eU s v=eU S v:=Dh e h.ok.lt;exact⟨h.ton9.ext e,by exact aa b<|h.lo,by exact aa b h.hi⟩
def aB(h:km n v):v.ev (w.take n)=v.ev w:=Ct λp Y=>au<|h.lt p Y
abbrev Al:U5->Prop:=λ_=>True
structure Au (S S':St) (vs:List UX) (zs:List Nat):Prop where
 I:Inv Al S'
 e:U4 vs.length Tt S S'
 lt:∀z∈zs,z<S'.n
 len:zs.length=vs.length
 ev:∀w,bH S' w->zs.map (ah w)=vs.map (UX.ev w)
def yD{B:D->UT->(List D->UT->Prop)->Prop}{Q:List D->UT->Prop}{st:St->UT}(G:∀S v K,Inv Al S->Rm 1 S->fj S v->(∀s z,A4 Al S s v z->K [aH z] (st s))->B v.en (st S) K):
  ∀{c:List UX}{S:St}{A:List D},Inv Al S->Rm c.length S->(∀v∈c,fj S v)->A.length+c.length<=1000->(∀s b,Au S s c b->Q (A++b.map aH) (st s))->bb .no a B (c.map UX.en) A (st S) Q:=by
 intro c
 induction c with
 |nil=>
  intro S A I r h J q;have:=q S [] ⟨I,U4.refl,λ_ h=>(nomatch h),rfl,λ_ _=>rfl⟩;rw[List.map_nil,WI] at this;exact this
 |cons v c k=>
  intro S A I r h J q;refine G S v _ I (r.less (Xz ..)) (h v<|.head _) λm z V=>⟨trivial,bG ?_ ?_⟩
  ·refine XD.mpr (cg<|Wh ?_ J)
   rw[Wv,WZ];exact WL (Xz _ _) _
  ·refine k V.I (Rm.after (r.less<|Xf (Xj ..)) V.e) (λu j=>(h u<|.tail _ j).ext V.e) ?_ ?_
   ·rw[Wv,W3];show A.length+(1+c.length)<=_;rw[Xj 1];exact J
   ·intro U b R
    have:=q U (z::b) ⟨R.I,?_,?_,?_,?_⟩
    ·rw[X3,acp] at this;exact this
    ·have:=V.e.tt R.e;rw[Xj] at this;exact this
    ·intro x i
     obtain rfl|i:=Wo.mp i
     ·exact Ww V.lt R.e.le
     ·exact R.lt x i
    ·rw[WZ,WZ,R.len]
    ·intro w y
     exact aa X3<|aa X3<|aa (R.ev w y)<|av (au V.lt)<|aa (V.ev _ (R.e.bwd w y).1)<|aa (aB<|(h v<|.head _).ok.more V.e.le) rfl
def wq(h:v.ps=[]):eU S v=(v.c,v.c):=by rw[eU,h];rfl
def We{K:List D->UT->Prop}(e:i=j)(k:K [aI j] t):K [aI i] t:=e▸k
section
variable{Q:V->UT->Prop}{S:St}{f:Bool}{j:V}{W:O}{R:List O}
def OA(I:Inv Al S)(r:Rm b.length S)(h:∀v∈b,fj S v)(J:b.length<=100)
  (q:∀s a,Au S s b a->Q (.d (bS a)) (UU s f j W R)):C (d+5) 46 [.loc 1,.d (.lst (b.map UX.en))] (UU S f j W R) Q:=by
 refine H.step<|(?_:bb .no _ _ (WQ UX.en b) [] _ _);refine yD (st:=λS=>UU S f j W R) ?_ I r h (by show 0+b.length<=1000;exact gy J rfl) ?_
 ·intro S v K I r F k
  exact PW I trivial r F.ok F.c ⟨F.lo,F.hi⟩ λs z V=>k s z V
 ·intro s a V
  exact bG (aQ<|cg (by exact aa V.len<|cy J rfl))<|q s a V
def SM(h:A≠[])(k:∀a∈A,a=1\/a= -1)(q:Q (.d (.int 1)) t):C (d+1) 37 [.d (.lst (A.map aI))] t Q:=by
 refine H.step<|(?_:Vb .no _ _ (WQ aI A) _ _ _);refine pd (src:=.no) aI (λ(s:Bool) T=>(5,.d<|.lst<|A.map aI)::(3,.d<|.int<|if s then 1 else 0)::T) (λ_=>t) (λ_ _=>true) (λr s=>∀a∈r,a=1\/a= -1) (λ_=>trivial) (λ_ _ _ h a G=>h a<|.tail _ G) ?_ false [] k ?_
 ·intro a r s T K hI U
  rcases hI a (.head _) with e|e<;>subst e
  ·cases s
   ·exact ai bw ⟨1,ai bw<|U _⟩
   ·exact ai bw ⟨2,ai bw<|ai bw<|ai bw<|ai bw<|U _⟩
  ·cases s
   ·exact ai bw ⟨1,ai bw<|U _⟩
   ·exact ai bw ⟨2,ai bw<|ai bw<|ai bw<|ai bw<|U _⟩
 ·intro T
  have:∀(l:List Int)(b:Bool),l≠[]->l.foldl (λ_ _=>true) b=true:=by
   intro l
   induction l with
   |nil=>exact λ_ h=>agR rfl h
   |cons a l i=>
    intro b _;obtain _|⟨c,l⟩:=l
    ·rfl
    ·exact i true (Z8 _ _)
  exact aa (this A false h) q
def Gj(F:n9 S v)(m:v.ps≠[])(q:Q (.d (.tup [.str k,cC (v.ps.map (·.2)),bS (v.ps.map (·.1)),.int (-v.c)])) (UU S f j W R)):
  da tab (C (d+3)) (QW.drop 2) [(0,.loc 1),(18,.d (.str k)),(23,x),(1,l),(2,h),(48,.d (m7 v.ps v.c))] (UU S f j W R) (Kn.en n true Q):=by
 have J:=F.ok.len;refine(?_:bb .no _ _ (WQ dk v.ps) [] _ _);refine aZ dk (λp:Nat×Int=>p.2) aI (λp Y K k=>k) (Wh J<|ab rfl)<|bG (aQ (by rw[Wm];exact Wh J<|ab rfl)) (SM (λe=>m<|Yu.mp e) ?_ ?_)
 ·intro a G
  refine fc G λp Y E=>?_;clear G;subst E;exact F.ok.un p Y
 have e:(-v.c).fdiv 1= -v.c:=adg ..;have t:∀L:Ev,L=[(0,.loc 1),(18,.d<|.str k),(23,x),(1,l),(2,h),(48,.d<|m7 v.ps v.c),(52,.d<|.int 1),(53,.d<|.int<|-v.c)]->
   da tab (C<|d+3) (QW.drop 4) L (UU S f j W R) (Kn.en n true Q):=by
  intro L T;subst T;refine(?_:bb .no _ _ (WQ dk v.ps) [] _ _);refine aZ dk (λp:Nat×Int=>p.2) aI (λp Y K k=>?_) (Wh J<|ab rfl) ?_
  ·exact We (adg p.2) k
  refine bG (aQ (by rw[Wm];exact Wh J<|ab rfl)) (?_:bb .no _ _ (WQ dk v.ps) [] _ _);refine aZ dk (λp:Nat×Int=>p.1) aH (λp Y K k=>k) (Wh J<|ab rfl)<|bG (aQ (by rw[Wm];exact Wh J<|ab rfl)) ?_;rw[<-e] at q;exact q
 refine aX (λg=>?_) (λg=>?_)
 ·refine bM ?_ (t _ rfl)
  rw[Int.fmod_one];rfl
 ·refine bM ?_ (t _ rfl)
  exact iO.eqF g
structure IK (S:St) (v:UX) (b:Bool):Prop where
 ne:v.ps≠[]
 le:b=false->0<(eU S v).2/\(eU S v).1<=0
 eq:b=true->(eU S v).1<=0/\0<=(eU S v).2/\(eU S v).1≠(eU S v).2
noncomputable def rV(v:UX)(b:Bool):nq:=⟨b,v.ps.map (·.2),v.ps.map (·.1),-v.c⟩
noncomputable def VI(b:Bool)(i:Int):Bool:=if b then i==0 else decide (i<=0)
def jS(I:Inv Al S)(F:n9 S v)(o:∀b,(∀w,bH S w->b=VI false (v.ev w))->Q (.d (.bool b)) (UU S f j W R))(Y:IK S v false->Q (.d (rV v false).en) (UU S f j W R)):
  C (d+4) 48 [.loc 1,.d (.str 60),.d v.en] (UU S f j W R) Q:=by
 refine H.step<|JP I F.ok F.c<|HJ ?_;have B:=λw y=>qh (w:=w) I y F.ok;have T:=λn x h G l t=>Gj (d:=d) (n:=n) (k:=60) (x:=x) (l:=l) (h:=t) F h<|Y G;refine aX (λg=>?_) (λg=>?_)
 ·have g:=agZ<|eq_of_beq g
  refine aX (λi=>?_) (λi=>?_)
  ·refine o _ λw y=>?_
   have:=B w y;have i:=agS i;exact(agY g).trans (agY<|Yp.mpr<|X5 i<|aan this).symm
  ·have i:=agZ i
   have m:v.ps≠[]:=λe=>by rw[wq e] at g i;exact g<|X4.mp i
   exact T _ _ m ⟨m,λ_=>⟨Yp.mp g,X4.mp i⟩,λe=>nomatch e⟩ _ _
 ·have g:=agS<|not_false_eq_true' g
  refine eB (agT g)<|o _ λw y=>?_;have:=B w y;exact(agT g).trans (agT<|WG (ZQ this) g).symm
where not_false_eq_true' {b:Bool} (h:(b==false)=false):b=true:=by cases b;cases h;rfl
def Iw(I:Inv Al S)(F:n9 S v)(o:∀b,(∀w,bH S w->b=VI true (v.ev w))->Q (.d (.bool b)) (UU S f j W R))(Y:IK S v true->Q (.d (rV v true).en) (UU S f j W R)):
  C (d+4) 48 [.loc 1,.d (.str 57),.d v.en] (UU S f j W R) Q:=by
 refine H.step<|JP I F.ok F.c<|HJ ?_;have B:=λw y=>qh (w:=w) I y F.ok;have T:=λn x h G l t=>Gj (d:=d) (n:=n) (k:=57) (x:=x) (l:=l) (h:=t) F h<|Y G;refine aX (λg=>?_) (λg=>?_)
 ·have g:=agZ<|eq_of_beq g
  refine aX (λi=>?_) (λi=>?_)
  ·refine o _ λw y=>?_
   have:=B w y;have i:=agS i;exact(agV.mpr<|Int.ne_of_lt<|Zo (ZQ this) i).symm
  ·have i:=agZ i
   refine aX (λJ=>?_) (λJ=>?_)
   ·refine o _ λw y=>?_
    have:=B w y;have J:=eq_of_beq J;exact(agQ.mpr<|LG g i this J).symm
   ·have J:=agV.mp J
    have m:v.ps≠[]:=λe=>by rw[wq e] at J;exact J rfl
    exact T _ _ m ⟨m,λe=>(nomatch e),λ_=>⟨X4.mp g,X4.mp i,J⟩⟩ _ _
 ·have g:=agS<|jS.not_false_eq_true' g
  refine eB (agT g)<|o _ λw y=>?_;have:=B w y;exact(agV.mpr<|abI<|X5 g<|aan this).symm
end
def aW(S:St):Tr->Prop
 |.tf _=>True
 |.bit x _=>x<S.n/\S.bN x=TR
structure dK (k:Nat) (S S':St) (t:Tr) (φ:List Int->Bool):Prop where
 I:Inv Al S'
 e:U4 k Tt S S'
 ok:aW S' t
 ev:∀w,bH S' w->t.ev w=φ w
def rG:iD v TR↔v=0\/v=1:=by
 delta TR;rw[dW];exact vM (by decide) (by decide)
def aW.ext(h:aW S t)(e:U4 k l S j):aW j t:=by
 obtain b|⟨x,s⟩:=t
 ·trivial
 ·exact⟨Ww h.1 e.le,(e.bN h.1).trans h.2⟩
def aN(h:aW S t):t.ev (w.take S.n)=t.ev w:=by
 obtain b|⟨x,s⟩:=t
 ·rfl
 ·delta Tr.ev;dsimp only;rw[au h.1]
def gw(v:bH S w)(h:x<S.n/\S.bN x=TR):ah w x=0\/ah w x=1:=by
 have:=v.box x h.1;rw[h.2] at this;exact rG.mp this
def F6:iF TR:=cZ (by decide) (ab rfl) (ab rfl)
def iM{S:St}(I:Inv Al S){N:U5}{t:Told}(d:List Int->Bool)(o:CY (S.n+1) t)(Y:∀x∈N.vars,x<S.n)
  (z:∀w v,bH S w->iD v TR->(t.holds (w++[v])↔(v==1)=d w)) (f:∀w v,bH S w->iD v TR->t.holds (w++[v])->N.says (w++[v]) S.n)
  (U:∀w,d (w.take S.n)=d w):dK 1 S (S.push (.hash S.n,TR) [t] (S.made++[(N.en,aH S.n)])) (.bit S.n true) d:=by
 have i:∀w,iD (if d w then 1 else 0) TR:=λw=>rG.mpr (by cases d w;exact .inl rfl;exact .inr rfl);have E:∀w,((if d w then (1:Int) else 0)==1)=d w:=λw=>by cases d w<;>rfl
 have K:=iX I (p:=(.hash S.n,TR)) (ts:=[t]) (WC _) F6 (λT h=>Wj.mp h▸o) Y (λ_=>rfl) (λw=>if d w then 1 else 0)
  (λw y=>⟨i w,λv Y=>by
   rw[ZV,z w v y Y];rcases rG.mp Y with e|e<;>subst e<;>cases d w<;>decide⟩)
  (λ_ w y=>f w _ y (i w)<|(z w _ y<|i w).mpr<|E w)
 refine⟨K.I,K.e,⟨K.lt,eY⟩,λw y=>?_⟩;show((ah w S.n==1)==true)=d w;rw[K.val w y,E,U];cases d w<;>rfl
def AW:D.yL (cC x) (cC ys)=some (x==ys):=by
 delta cC;rw[gp (eA _ _).2 (eA _ _).2];exact agN some<|oS x ys
def jB(n:Nat)(d:m9):plain (n+2) (aP d):=Wt.mpr λx h=>by
 refine fc h λi _ e=>?_;clear h;subst e;cases n<;>rfl
def IW:D.yL (aP d) (aP e)=some (bP (aP d) (aP e)):=gp (jB _ _)<|jB _ _
def mU:(rV v b).holds w=VI b (v.ev w):=by
 have e:dot (v.ps.map (·.2)) ((v.ps.map (·.1)).map<|ah w) - -v.c=v.ev w:=by rw[HN];delta UX.ev;exact aal ..
 obtain _|_:=b
 ·show decide (dot (v.ps.map (·.2)) ((v.ps.map (·.1)).map<|ah w) - -v.c<=0)=decide (v.ev w<=0);exact aa e rfl
 ·show(dot (v.ps.map (·.2)) ((v.ps.map (·.1)).map<|ah w) - -v.c==0)=(v.ev w==0);rw[e]
noncomputable def Ga(v:UX)(b:Bool)(c:Int):nq:=⟨b,v.ps.map (-·.2),v.ps.map (·.1),c⟩
def vz(w:List Int)(M:UW):dot (M.map (-·.2)) ((M.map (·.1)).map (ah w))= -bp w M:=by
 induction M with
 |nil=>rfl
 |cons p r i=>
  show dot (-p.2::r.map (-·.2)) (ah w p.1::(r.map (·.1)).map (ah w))= -(p.2*ah w p.1+bp w r);rw[l7,i,Zp,Int.neg_add]
def ck{t:Tr}:t.neg.ev M= !t.ev M:=by
 obtain b|⟨x,s⟩:=t
 ·rfl
 ·show((ah M x==1)== !s)= !((ah M x==1)==s);cases (ah M x==1)<;>cases s<;>rfl
def dp(h:aW S t):aW S t.neg:=by
 obtain b|⟨x,s⟩:=t
 ·trivial
 ·exact h
section
variable{Q:V->UT->Prop}{S:St}{f:Bool}{i:V}{W:O}{R:List O}
def GJ{l:nq}{a b c e:V}(I:Inv Al S)(r:Rm 1 S)(T:CY S.n (.x8 l))(B:l.xs.length<=100)
  (q:∀s t,dK 1 S s t l.holds->Q (.d t.en) (UU s f i W R)):
  da tab (C (U+2)) (Rv.drop 2) [(0,.loc 1),(13,.d l.en),(18,a),(50,b),(25,c),(53,e)] (UU S f i W R) (Kn.en Y true Q):=by
 have J:∀w:List Int,l.holds (w.take S.n)=l.holds w:=λw=>fx λx j=>au<|T.lt x j;rcases g:aO (U5.dJ l).en S.made with _|y
 ·refine jg (m:=TR) g (λp k=>Wj.mp k▸⟨by decide,by decide⟩) (by have:=r.n;exact fg this) I.kJ ?_
  refine f7 (t:=.dJ S.n l) (by have:=r.t;show(S.aw++[]).length<63;rw[WI];exact fg this) ?_;rw[ft];have G:∀(w:List Int)(v:Int),bH S w->(Told.dJ S.n l).holds (w++[v])=((v==1)==l.holds w):=λw v A=>by
   show((ah (w++[v]) S.n==1)==l.holds (w++[v]))=_;exact av A.len<|aa bC<|aa (fx λx j=>bx (by rw[A.len];exact T.lt x j)) rfl
  refine q _ (.bit S.n true)<|iM I l.holds ⟨T.cJ,?_,?_⟩ T.lt ?_ ?_ J
  ·show l.xs.length+1<=1000;exact mZ B rfl
  ·intro x j
   obtain rfl|j:=Wo.mp j
   ·exact WK _
   ·exact WM (T.lt x j)
  ·intro w v A _
   rw[G w v A,agQ]
  ·intro w v _ _ h
   exact h
 ·refine jm (κ:=.dJ l) (m:=TR) g (ae (I.made (.dJ l) y g) λz u m=>?_)
  clear g;subst u;have m:=m trivial;refine q S (.bit z true) ⟨I,U4.refl.more<|Wz _,⟨m.lt,m.bool rfl⟩,λw A=>?_⟩;have:=m.says w A;change ((ah w z==1)==l.holds w)=true at this;show((ah w z==1)==true)=l.holds w;rw[eq_of_beq this];cases l.holds w<;>rfl
def Q3(I:Inv Al S)(r:Rm 1 S)(T:CY S.n (.x8 l))(B:l.xs.length<=100)(k:∀x,l.as=[1]->l.xs=[x]->S.bN x=TR->l.c=0\/(l.c=1/\l.eq))
  (q:∀s t,dK 1 S s t l.holds->Q (.d t.en) (UU s f i W R)):C (d+3) 50 [.loc 1,.d l.en] (UU S f i W R) Q:=by
 refine H.step<|ai (AW (ys:=[1]))<|aX (λg=>?_) (λg=>?_)
 ·have g:l.as=[1]:=eq_of_beq<|eq_of_beq g
  obtain⟨b,a,j,c⟩:=l;have g:a=[1]:=g;subst g;have L:[(1:Int)].length=j.length:=T.cJ.1;refine XY (abq.mp<|show j.length=1 from L.symm) λx e=>?_;subst e;have z:x<S.n:=T.lt x<|.head _;refine f9 z<|ai (IW (e:=TR))<|aX (λg=>?_) (λg=>?_)
  ·have Y:S.bN x=TR:=fm Mt g
   have m:=k x rfl rfl Y;have e:∀w,bH S w->(ah w x=0\/ah w x=1):=λw v=>gw v ⟨z,Y⟩;clear T B k;obtain _|_:=b
   ·refine q S (.bit x false) ⟨I,U4.refl.more<|Wz _,⟨z,Y⟩,λw v=>?_⟩
    have m:c=0:=m.elim id λh=>nomatch h.2;subst m;show((ah w x==1)==false)=decide (0+1*ah w x - 0<=0);rcases e w v with e|e<;>refine aa e ?_<;>rfl
   ·refine q S (.bit x<|c==1) ⟨I,U4.refl.more<|Wz _,⟨z,Y⟩,λw v=>?_⟩
    show((ah w x==1)==(c==1))=(0+1*ah w x - c==0);rcases m with m|⟨m,_⟩<;>subst m<;>rcases e w v with e|e<;>refine aa e ?_<;>rfl
  ·exact GJ I r T B q
 ·exact bM (iO.eqF g) (GJ I r T B q)
def Gi(I:Inv Al S)(r:Rm 1 S)(F:n9 S v)(U:IK S v b)
  (q:∀j t,dK 1 S j t (λw=>VI b (v.ev w))->Q (.d t.en) (UU j f i W R)):
  da tab (C (d+3)) (Q4.drop 1) [(0,.loc 1),(18,.d (.str (if b then 57 else 60))),(23,x),(13,.d (rV v b).en)] (UU S f i W R) (Kn.en n true Q):=by
 obtain⟨p,M,e⟩:∃p M,v.ps=p::M:=by
  rcases e:v.ps with _|⟨p,M⟩
  ·exact agR e U.ne
  ·exact⟨p,M,rfl⟩
 have J:=F.ok.len;have h0:Vc ((v.ps.map (·.2)).map aI) 0=some (aI p.2):=by rw[e];rfl
 have Y:=F.ok.un p<|e▸ .head _;have ac:∀y∈v.ps.map (·.1),y<S.n:=λy l=>by
  refine fc l λu L E=>?_;clear l;subst E;exact F.ok.lt u L
 have x6:(v.ps.map (·.1)).length<=100:=by rw[Wm];exact cy J rfl
 have one:∀{y:Nat}{a:Int},v.ps=[(y,a)]->S.bN y=TR->eU S v=(v.c+mn (a*0) (a*1),v.c+mx (a*0) (a*1)):=λ{y a} h N=>by
  rw[eU,h];show pK S (v.c,v.c) (y,a)=_;delta pK;rw[N];rfl
 have turn:∀{c:Int}{Q':V->UT->Prop},(∀y,v.ps=[(y,-1)]->S.bN y=TR->c=0\/(c=1/\b=true))->(∀j t,dK 1 S j t (Ga v b c).holds->Q' (.d t.en) (UU j f i W R))->C (d+3) 50 [.loc 1,.d (Ga v b c).en] (UU S f i W R) Q':=λ{c Q'} o q'=>
  Q3 I r ⟨⟨by show(v.ps.map _).length=(v.ps.map _).length;rw[Wm,Wm],λa G=>by
   refine fc G λu L E=>?_;clear G;subst E;rcases F.ok.un u L with e|e<;>rw[e]<;>decide⟩,by show(v.ps.map _).length<=1000;rw[Wm];exact cy J rfl,ac⟩ x6 (λy m z N=>by
    have m:v.ps.map (-·.2)=[1]:=m;have z:v.ps.map (·.1)=[y]:=z;rw[e] at m z;have hs:=Xk m;have hr:M=[]:=Yu.mp hs.2;clear m;subst hr;refine o y ?_ N;rw[e];clear h0 Y e m;obtain⟨p1,p2⟩:=p;have a1:p1=y:=(Xk z).1;have a2: -p2=1:=hs.1;rw[a1,show p2= -1 from Kl a2]) q'
 refine bM (by clear U q turn;cases b<;>rfl) (?_:bb .no _ _ (WQ aI<|v.ps.map (·.2)) [] _ _);refine aZ aI (-·) aI (λp Y K k=>k) (by rw[Wm];exact Wh J<|ab rfl)<|bG (aQ (by rw[Wm,Wm];exact Wh J<|ab rfl)) ?_;rw[show(v.ps.map (·.2)).map (-·)=v.ps.map (-·.2) from Xu];refine ai h0<|aX (λg=>?_) (λg=>?_)
 ·have g:p.2<0:=agS<|eq_of_beq g
  obtain _|_:=b
  ·refine turn (λy l N=> .inl ?_) λj t T=>?_
   ·have:=U.le rfl
    rw[one l N,show mx ((-1:Int)*0) (-1*1)=0 from rfl,show mn ((-1:Int)*0) (-1*1)= -1 from rfl] at this;have m:0<v.c+0:=this.1;have z:v.c+ -1<=0:=this.2;exact Qb m z
   ·refine qg (q j t.neg ⟨T.I,T.e,?_,λw A=>?_⟩)
    ·obtain b|⟨y,s⟩:=t
     ·trivial
     ·exact T.ok
    ·rw[ck,T.ev w A]
     show(!decide (dot (v.ps.map (-·.2)) ((v.ps.map (·.1)).map<|ah w) - (-(-v.c) - 1)<=0))=decide (v.ev w<=0);rw[vz];delta UX.ev;rw[<-decide_not];exact decide_eq_decide.mpr Pk
  ·refine ai h0 (bM (agY<|j9<|XH g)<|turn (λy l N=>?_) λj t T=>?_)
   ·have:=U.eq rfl
    rw[one l N,show mx ((-1:Int)*0) (-1*1)=0 from rfl,show mn ((-1:Int)*0) (-1*1)= -1 from rfl] at this;have m:v.c+ -1<=0:=this.1;have z:0<=v.c+0:=this.2.1;obtain h|h:=abK 0 v.c
    ·exact .inr ⟨Qi h m,rfl⟩
    ·exact .inl (PN h z)
   ·refine q j t ⟨T.I,T.e,T.ok,λw A=>?_⟩
    rw[T.ev w A];show(dot (v.ps.map (-·.2)) ((v.ps.map (·.1)).map<|ah w) - (-(-v.c))==0)=(v.ev w==0);rw[vz];delta UX.ev;rw[XK,agQ,agQ];exact QU
 ·have g:¬p.2<0:=agZ<|iO.eqF g
  refine bM (agY g)<|ai h0<|eB (agT<|KH Y g) ?_;refine Q3 I r ⟨⟨by show(v.ps.map _).length=(v.ps.map _).length;rw[Wm,Wm],λa G=>by
   refine fc G λu L E=>?_;clear G;subst E;rcases F.ok.un u L with e|e<;>rw[e]<;>decide⟩,by show(v.ps.map _).length<=1000;rw[Wm];exact cy J rfl,ac⟩ x6 (λy m z N=>?_) λj t T=>q j t ⟨T.I,T.e,T.ok,λw A=>(T.ev w A).trans mU⟩
  have m:v.ps.map (·.2)=[1]:=m;have z:v.ps.map (·.1)=[y]:=z;rw[e] at m z;have hs:=Xk m;have hr:M=[]:=Yu.mp hs.2;clear m;subst hr;clear h0 Y g m;obtain⟨p1,p2⟩:=p;have a1:p1=y:=(Xk z).1;have a2:p2=1:=hs.1;clear z;subst a1;subst a2;have B:=one e N;rw[show mx ((1:Int)*0) (1*1)=1 from rfl,show mn ((1:Int)*0) (1*1)=0 from rfl] at B;clear q turn;obtain _|_:=b
  ·have:=U.le rfl
   rw[B] at this;have m:0<v.c+1:=this.1;have z:v.c+0<=0:=this.2;exact .inl<|OY m z
  ·have:=U.eq rfl
   rw[B] at this;have m:v.c+0<=0:=this.1;have z:0<=v.c+1:=this.2.1;obtain h|h:=abK v.c 0
   ·exact .inr ⟨OV h z,rfl⟩
   ·exact .inl (O5 h m)
end
def Io{o:Option (List Int)}{k:List Int->Prop}{N:Prop}(h:o=none)(q:N):(match (generalizing:=false) o with|some a=>k a|none=>N):=by
 subst h;exact q
def sx{L Y:Type}{f:L->Y}{o l:List Y}(h:o.Perm l):∀{B:List L},l=B.map f->∃w:List L,o=w.map f/\w.Perm B:=by
 induction h with
 |nil=>exact λe=>⟨[],rfl,by rw[Yu.mp e.symm]⟩
 |cons x p i=>
  intro B e;obtain _|⟨b,B⟩:=B
  ·cases e
  ·have e:=Xk e
   exact ae (i e.2) λw E G=>⟨b::w,by refine aa E<|aa e.1 ?_;rfl,G.cons b⟩
 |swap x y l=>
  intro B e;obtain _|⟨b,B⟩:=B
  ·cases e
  ·have e:=Xk e
   obtain _|⟨c,B⟩:=B
   ·exact nomatch e.2
   ·have u:=Xk e.2
    exact⟨c::b::B,by refine aa e.1<|aa u.1<|aa u.2 ?_;rfl,.swap ..⟩
 |trans _ _ I J=>
  intro B e;exact ae (J e) λd E G=>ae (I E) λz u v=>⟨z,u,v.trans G⟩
def jl(t:Tr):plain (U+1) t.en:=by cases t<;>cases U<;>rfl
def gJ(T:List Tr):(T.map Tr.en).all (plain (U+1)):=Wt.mpr λx h=>by
 refine fc h λi _ e=>?_;clear h;subst e;exact jl i
def same(t u:Tr):Bool:=bP t.en u.en
def U6{t u:Tr}:same t u↔t=u:=by
 constructor
 ·exact NR
 ·intro h
  subst h;obtain a|⟨x,s⟩:=t
  ·exact(t9 a a).trans (by cases a<;>rfl)
  ·exact nQ 1 _ rfl
def ph{t:Tr}{T:List Tr}:bF (.lst (T.map Tr.en)) t.en=some (T.any λu=>same u t):=by
 show(match plain 12 t.en&&(T.map Tr.en).all (plain 11) with|true=>some ((T.map Tr.en).any λy=>bP y t.en)|false=>none)=_;rw[jl,gJ,ZI];rfl
def wa{t u:Tr}:D.yL t.en u.en=some (same t u):=gp (jl t)<|jl u
def v9{v:UT}{t u:Tr}:nk tab v 0 (.d t.en) (.d u.en)=some (same t u):=by
 obtain a|⟨x,s⟩:=t
 ·obtain b|⟨y,s⟩:=u
  ·exact wa (t:=.tf a) (u:=.tf b)
  ·exact wa (t:=.tf a) (u:=.bit y s)
 ·obtain b|⟨y,T⟩:=u
  ·exact wa (t:=.bit x s) (u:=.tf b)
  ·exact wa (t:=.bit x s) (u:=.bit y T)
def iS{v:UT}{t u:Tr}:nk tab v 1 (.d t.en) (.d u.en)=some (!same t u):=agN (W4 (!·)) v9
noncomputable def Tr.x:Tr->Nat
 |.tf _=>0
 |.bit x _=>x
noncomputable def Tr.s:Tr->Bool
 |.tf _=>false
 |.bit _ s=>s
noncomputable def Tr.pf:Tr->Bool
 |.tf _=>false
 |.bit _ _=>true
def uE{T:List Tr}(h:∀t∈T,t.pf):m6 (T.map Tr.en):=by
 have a:∀t∈T,yg 46 t.en:=λt o=>by
  have:=h t o;clear o;obtain b|⟨x,s⟩:=t
  ·cases this
  ·rfl
 obtain _|⟨t,T⟩:=T
 ·rfl
 ·have b:((t::T).map Tr.en).all (yg 46):=Wt.mpr λx g=>by
   refine fc g λi U e=>?_;clear g;subst e;exact a i U
  have:=h t<|.head _;clear h a;obtain b|⟨x,s⟩:=t
  ·cases this
  ·exact b
noncomputable def tH:List Nat->List Nat
 |[]=>[]
 |x::xs=>x::(tH xs).filter (λy=>(y:Int) !=(x:Int))
def ye(f:List Nat):iq (f.map cN)=(tH f).map cN:=by
 induction f with
 |nil=>rfl
 |cons x f i=>
  show cN x::(iq<|f.map cN).filter (· !=cN x)=cN x::((tH f).filter _).map cN;refine aa i<|aa List.filter_map ?_;rfl
def zZ:U∈tH G↔U∈G:=by
 induction G with
 |nil=>exact aaq
 |cons y Y i=>
  rw[tH,Wo,Wo,Xl,i];constructor
  ·rintro (h|h)
   ·exact .inl h
   ·exact .inr h.1
  ·rintro (h|h)
   ·exact .inl h
   ·by_cases e:U=y
    ·exact .inl e
    ·exact .inr ⟨h,ag0.mpr λg=>e<|Z6 g⟩
def Bn(f:List Nat):(tH f).length<=f.length:=by
 induction f with
 |nil=>exact WC _
 |cons x f i=>exact WB<|Wh (Xv ..) i
def uh(xs:List Nat):List Nat:=jc<|tH xs
def zK:U∈uh G↔U∈G:=(cR _).mem_iff.trans zZ
def rj(x:List Nat):(uh x).length<=x.length:=by
 delta uh;rw[(cR _).length_eq];exact Bn x
def kh{t:UT}(J:G.length<=4)(g:∀x∈G,x<63):ER tab 5 [.d (.lst (G.map aH))] t=some (.d (.lst ((uh G).map aH)),t):=by
 show(if (1:Nat)=1/\(G.map aH).length<=4 then (cP<|G.map aH).bind (λn=>if fC n=true then some (V.d<|.lst<|(U7<|iq n).map D.int,t) else none) else none)=_;rw[agO ⟨rfl,by rw[Wm];exact J⟩,Gs];show(if fC (G.map cN)=true then some (V.d<|.lst<|(U7<|iq<|G.map cN).map D.int,t) else none)=_;rw[agO,ye,mj,Xu]
 ·rfl
 ·refine Wt.mpr λi T=>fc T λx h e=>?_;clear T;subst e
  have:=g x h;exact agT<|⟨EC (WT<|-64) rfl,PK (Cq this) rfl⟩
def BV{T:Va}{C:Cl}{L:Ev}{Z:Kv}{t:UT}(h:Z (.d (.lst [])) t):Kn.q1 (nj T C []) L (Kn.y1 T 4 Z) (.d (.lst [])) t:=h
structure LV (σ:UT) (v:V) (l:List D) (src:Sr):Prop where
 fe:fe tab σ v=.lst l
 it:Rj σ v=some (l,src)
 dx:dx src l σ
def LV.val:LV t (.d (.lst l)) l .no:=⟨rfl,rfl,trivial⟩
def LV.loc(h:t[n]?=some (.list l)):LV t (.loc n) l (.ls n):=
 ⟨bR h,by show(dB t<|.loc n).map (λp=>(p.2,Sr.ls p.1))=_;refine aa (dO h) ?_;rfl,h⟩
section
variable{Q:V->UT->Prop}{S:St}{a:Bool}{c:V}{W:O}{R:List O}
def Lr{B:List Tr}(G:∀t∈B,t.pf)(J:B.length<=4)(i:∀t∈B,t.x<63)(r:S.aw.length<63)
  (q:∀l A,(∀x,x∈l↔Tr.bit x true∈B)->(∀x,x∈A↔Tr.bit x false∈B)->l.length<=4->A.length<=4->Q (.d .none) (UU (S.ask (.clause l A)) a c W R)):
  da tab (C (U+1)) (PX.drop 2) [(0,.loc 1),(57,v),(58,.d (.lst (B.map Tr.en)))] (UU S a c W R) (Kn.en Y true Q):=by
 have j:B.length<=lim:=Wh J<|ab rfl;have w:∀p:Tr->Bool,((B.filter p).map Tr.x).length<=4/\∀x∈(B.filter p).map Tr.x,x<63:=λp=>⟨by rw[Wm];exact Wh (Xv ..) J,λx z=>by
  refine fc z λt o E=>?_;subst E;exact i t (Xl.mp o).1⟩
 refine(?_:bb .no _ _ (WQ Tr.en B) [] _ _);refine bh Tr.en (λt=>aH t.x) Tr.s ?_ j ?_
 ·intro t o K f k
  have:=G t o;obtain b|⟨x,s⟩:=t
  ·exact nomatch this
  ·exact aX (λh=>f h) (λh=>k h)
 refine bG (dj j)<|(?_:bb .no _ _ (WQ Tr.en B) [] _ _);refine bh Tr.en (λt=>aH t.x) (λt=> !t.s) ?_ j ?_
 ·intro t o K f k
  have:=G t o;obtain b|⟨x,s⟩:=t
  ·exact nomatch this
  ·exact aX (λh=>f h) (λh=>k h)
 refine bG (dj j)<|aa (show(B.filter Tr.s).map (λt=>aH t.x)=((B.filter Tr.s).map Tr.x).map aH by rw[Xu];rfl) (aa (show(B.filter λt=> !t.s).map (λt=>aH t.x)=((B.filter λt=> !t.s).map Tr.x).map aH by rw[Xu];rfl) ?_);refine ai (kh (w Tr.s).1 (w Tr.s).2)<|ai (kh (w λt=> !t.s).1 (w λt=> !t.s).2) ?_;refine f7 (t:=.clause (uh<|(B.filter Tr.s).map Tr.x)<|uh<|(B.filter λt=> !t.s).map Tr.x) r ?_;have UU:∀(p:Tr->Bool)(s:Bool),(∀x,p<|.bit x s)->(∀x,p (.bit x !s)=false)->∀x,x∈uh ((B.filter p).map Tr.x)↔Tr.bit x s∈B:=λp s m u x=>by
  rw[zK];constructor
  ·intro h
   refine fc h λt o e=>?_;have o:=Xl.mp o;have:=G t o.1;obtain b|⟨y,T⟩:=t
   ·exact nomatch this
   ·have e:y=x:=e
    subst e;by_cases g:T=s
    ·exact g▸o.1
    ·have:T= !s:=by cases s<;>cases T<;>first|rfl|exact agR rfl g
     rw[this,u] at o;exact nomatch o.2
  ·exact λh=>YH.mpr ⟨.bit x s,Xl.mpr ⟨h,m x⟩,rfl⟩
 exact q _ _ (UU Tr.s true (λ_=>rfl) (λ_=>rfl)) (UU (λt=> !t.s) false (λ_=>rfl) (λ_=>rfl)) (Wh (rj _) (w Tr.s).1) (Wh (rj _) (w λt=> !t.s).1)
def RN{T:List Tr}(L:LV (UU S a c W R) v (T.map Tr.en) N)(J:T.length<=4)(i:∀t∈T,t.x<63)(r:S.aw.length<63)
  (z:(∀w,T.any (Tr.ev w))->Q (.d .none) (UU S a c W R))
  (k:∀ar f,(∀x,x∈ar↔Tr.bit x true∈T)->(∀x,x∈f↔Tr.bit x false∈T)->ar.length<=4->f.length<=4->Tr.tf true∉T->Q (.d .none) (UU (S.ask (.clause ar f)) a c W R)):
  C (U+2) 54 [.loc 1,v] (UU S a c W R) Q:=by
 have ac:T.length<=lim:=Wh J<|ab rfl;refine H.step<|ai ((agN (λX=>bF X (Tr.tf true).en) L.fe).trans ph) (aX (λg=>?_) (λg=>?_))
 ·have g:(T.any λu=>same u<|.tf true)=false:=eq_of_beq g
  have I:Tr.tf true∉T:=λh=>by
   have:=ZY.mp g _ h;exact this<|U6.mpr rfl
  refine ai L.it (?_:bb N _ _ (WQ Tr.en T) [] _ _);refine fz Tr.en Tr.en (λt=> !same t (.tf false)&&T.any λu=>same u t.neg) L.dx ?_ ac ?_
  ·intro t o K E A
   refine ai (iS (u:=.tf false))<|aX (λg=>?_) (λg=>?_)
   ·refine qg (ai ((agN (λX=>bF X t.neg.en) L.fe).trans ph) (aX (λg'=>?_) (λg'=>?_)))
    ·exact E (WE.mpr ⟨eq_of_beq g,g'⟩)
    ·exact A (Zt.mpr<|.inr g')
   ·exact bM (iO.eqF g) (A<|Zt.mpr<|.inl<|iO.eqF g)
  refine bG (dj ac)<|ai (agN (W4 (!·))<|dh<|gJ _)<|aX (λg2=>?_) (λg2=>?_)
  ·refine z λw=>?_
   rw[YS] at g2;have:T.any (λt=> !same t (.tf false)&&T.any λu=>same u t.neg)=true:=by
    rw[kU] at g2;exact av g2 (aaA _).symm
   refine ae (WR.mp this) λt o h=>ae (WR.mp (WE.mp h).2) λu j h=>?_;have h:=U6.mp h;rcases e:t.ev w with _|_
   ·exact WR.mpr ⟨u,j,by refine aa h<|aa ck<|aa e ?_;rfl⟩
   ·exact WR.mpr ⟨t,o,e⟩
  ·refine ai L.it (?_:bb N _ _ (WQ Tr.en T) [] _ _)
   refine fz Tr.en Tr.en (λt=> !same t (.tf false)) L.dx ?_ ac ?_
   ·intro t o K E A
    exact ai (iS (u:=.tf false))<|aX (λg=>E g) (λg=>A g)
   refine bG (dj ac) ?_;have hB:∀t∈T.filter (λt=> !same t (.tf false)),t.pf:=λt o=>by
    have o:=Xl.mp o;obtain b|⟨x,s⟩:=t
    ·obtain _|_:=b
     ·exact agR o.2 (by decide)
     ·exact agR o.1 I
    ·rfl
   have ag:(T.filter λt=> !same t (.tf false)).length<=4:=Wh (Xv ..) J;have ap:∀x s,Tr.bit x s∈T.filter (λt=> !same t (.tf false))↔Tr.bit x s∈T:=λx s=>by
    rw[Xl];exact and_iff_left rfl
   have am:∀t∈T.filter (λt=> !same t (.tf false)),t.x<63:=λt o=>i t (Xl.mp o).1;generalize T.filter (λt=> !same t (.tf false))=B at hB ag ap am ⊢;have al:∀B':List Tr,B'.Perm B->∀n,da tab (C<|U+1) (PX.drop 2) [(0,.loc 1),(57,v),(58,.d<|.lst<|B'.map Tr.en)] (UU S a c W R) (Kn.en n true Q):=λB' p n=>
    Lr (λt o=>hB t<|p.mem_iff.mp o) (p.length_eq▸ag) (λt o=>am t<|p.mem_iff.mp o) r λar f m y M l=>
     k ar f (λx=>(m x).trans<|p.mem_iff.trans<|ap x true) (λx=>(y x).trans<|p.mem_iff.trans<|ap x false) M l I
   clear ap am;obtain _|⟨t,B⟩:=B
   ·exact BV (Qy<|al [] (.refl _) _)
   ·refine Io ?_ (bG ?_ λG p=>?_)
    ·have:=hB t<|.head _
     obtain b|⟨x,s⟩:=t
     ·exact nomatch this
     ·rfl
    ·rw[uE hB,Wm,XD.mpr ag];rfl
    ·refine ae (sx p rfl) λB' e p'=>?_
     clear p;subst e;exact Qy<|al B' p' _
 ·have g:(T.any λu=>same u<|.tf true)=true:=jS.not_false_eq_true' g
  refine eB g<|z λw=>ae (WR.mp g) λu j h=>?_;exact WR.mpr ⟨u,j,by refine aa (U6.mp h) ?_;rfl⟩
end
structure cQ (P:U5->Prop) (k:Nat) (S S':St) (ψ:List Int->Prop):Prop where
 I:Inv P S'
 e:U4 k ψ S S'
def tn{T:List Tr}(I:∀t∈T,aW S t)(m:Tr.tf true∉T){ds:List Nat}(i:∀x,x∈G↔Tr.bit x true∈T)(Y:∀x,x∈ds↔Tr.bit x false∈T)(v:bH S M):
  (Told.clause G ds).holds M↔T.any (Tr.ev M):=by
 show(G.any (λx=>ah M x==1)||ds.any λx=>ah M x==0)=true↔_;rw[ZF,WR,WR,WR];constructor
 ·rintro (⟨x,g,h⟩|⟨x,g,h⟩)
  ·exact⟨_,(i x).mp g,by show((ah M x==1)==true)=true;refine aa h ?_;rfl⟩
  ·exact⟨_,(Y x).mp g,by show((ah M x==1)==false)=true;refine aa (eq_of_beq h) ?_;rfl⟩
 ·rintro ⟨t,o,h⟩
  obtain b|⟨x,s⟩:=t
  ·obtain _|_:=b
   ·cases h
   ·exact agR o m
  ·obtain _|_:=s
   ·refine .inr ⟨x,(Y x).mpr o,?_⟩
    have h:=eq_of_beq h;obtain e|e:=gw v<|I _ o
    ·refine aa e ?_;rfl
    ·rw[e] at h;cases h
   ·exact .inl ⟨x,(i x).mpr o,eq_of_beq h⟩
def xY{T:List Tr}(I:∀t∈T,aW S t){d:List Nat}(i:∀x,x∈G↔Tr.bit x true∈T)(Y:∀x,x∈d↔Tr.bit x false∈T)(L:G.length<=4)(l:d.length<=4):CY S.n (.clause G d):=
 ⟨trivial,by show(G++d).length<=1000;exact aa Wv<|zC L l rfl,λx g=>(WH.mp g).elim (λh=>(I _<|(i x).mp h).1) λh=>(I _<|(Y x).mp h).1⟩
def Qd(h:aW S t)(r:Rm k S)(two:2<=S.n):t.x<63:=by
 obtain b|⟨x,s⟩:=t
 ·show 0<63;decide
 ·exact Mc h.1 r.n
section
variable{Q:V->UT->Prop}{S:St}{f:Bool}{i:V}{W:O}{R:List O}{P:U5->Prop}
def pM{T:List Tr}(L:LV (UU S f i W R) v (T.map Tr.en) a)(I:Inv P S)(r:Rm 1 S)(N:∀t∈T,aW S t)(J:T.length<=4)
  (q:∀s,cQ P 1 S s (λw=>T.any (Tr.ev w)=true)->Q (.d .none) (UU s f i W R)):C (U+2) 54 [.loc 1,v] (UU S f i W R) Q:=
 RN L J (λt o=>Qd (N t o) r I.two) (by have:=r.t;exact fg this)
  (λh=>q S ⟨I,(U4.refl.more<|Wz _).iff λw _=>⟨λ_=>h w,λ_=>trivial⟩⟩)
  (λb Y m u M l n=>q _ ⟨gQ I<|xY N m u M l,fJ.iff λw x=>tn N n m u x⟩)
def Me(I:Inv Al S)(r:Rm 1 S)(F:n9 S v)
  (q:∀s t,dK 1 S s t (λw=>VI b (v.ev w))->Q (.d t.en) (UU s f i W R)):C (d+5) 49 [.loc 1,.d (.str (if b then 57 else 60)),.d v.en] (UU S f i W R) Q:=by
 obtain _|_:=b
 ·exact H.step (jS I F (λc h=>q S (.tf c) ⟨I,U4.refl.more<|Wz _,trivial,h⟩) (λU=>Gi I r F U q))
 ·exact H.step (Iw I F (λc h=>q S (.tf c) ⟨I,U4.refl.more<|Wz _,trivial,h⟩) (λU=>Gi I r F U q))
def OU(I:Inv Al S)(r:Rm 1 S)(F:n9 S v)
  (q:∀s,cQ Al 1 S s (λw=>v.ev w<=0)->Q (.d .none) (UU s f i W R)):C (d+5) 55 [.loc 1,.d (.str 60),.d v.en] (UU S f i W R) Q:=by
 have J:=F.ok.len;refine H.step<|jS I F (λc h=>?_) (λU=>?_)
 ·obtain _|_:=c
  ·exact f7 (t:=.clause [] []) (by have:=r.t;exact fg this)<|q _ ⟨gQ I ⟨trivial,Wz _,λ_ h=>nomatch h⟩,fJ.iff λw x=>⟨λg=>(nomatch g),λg=>by have:=h w x;rw[VI,agP<|by decide,agT g] at this;exact nomatch this⟩⟩
  ·refine q S ⟨I,(U4.refl.more<|Wz _).iff λw x=>⟨λ_=>?_,λ_=>trivial⟩⟩
   have:=h w x;rw[VI,agP<|by decide] at this;exact agS this.symm
 ·have L:∀b,D.yL (rV v false).en (.bool b)=some false:=λb=>gp fu rfl
  refine ai (L false)<|ai (agN (W4 (!·))<|L true) ?_;refine f7 (t:=.x8<|rV v false) (by have:=r.t;exact fg this)<|q _ ⟨gQ I ⟨⟨by show(v.ps.map _).length=(v.ps.map _).length;rw[Wm,Wm],λa G=>?_⟩,?_,λy j=>?_⟩,fJ.iff λw x=>?_⟩
  ·refine fc G λu k E=>?_;clear G;subst E
   rcases F.ok.un u k with e|e<;>refine aa e ?_<;>decide
  ·show(v.ps.map _).length<=1000;rw[Wm];exact cy J rfl
  ·refine fc j λu k E=>?_;clear j;subst E
   exact F.ok.lt u k
  ·show(rV v false).holds w=true↔_
   rw[mU];delta VI;rw[agP<|by decide,agU]
end
def MS:∀{xs:List Nat}{a:Int},(∀x∈xs,ah M x=0\/ah M x=1)->a=0\/a=1->
  (xs.map (ah M)).foldl (λa b=>if a<b then b else a) a=if (a==1||xs.any λx=>ah M x==1) then 1 else 0:=by
 intro xs
 induction xs with
 |nil=>intro a _ h;rcases h with e|e<;>subst e<;>rfl
 |cons x xs i=>
  intro a h G;show(xs.map<|ah M).foldl _ (if a<ah M x then ah M x else a)=_;refine aa W5 ?_;rcases G with e|e<;>subst e<;>rcases h x (.head _) with g|g<;>refine aa g ?_
  ·refine aa (show(if (0:Int)<0 then (0:Int) else 0)=0 from rfl) (aa (i (λy c=>h y<|.tail _ c) (.inl rfl)) ?_);rfl
  ·refine aa (show(if (0:Int)<1 then (1:Int) else 0)=1 from rfl) (aa (i (λy c=>h y<|.tail _ c) (.inr rfl)) ?_);rfl
  ·refine aa (show(if (1:Int)<0 then (0:Int) else 1)=1 from rfl) (aa (i (λy c=>h y<|.tail _ c) (.inr rfl)) ?_);rfl
  ·refine aa (show(if (1:Int)<1 then (1:Int) else 1)=1 from rfl) (aa (i (λy c=>h y<|.tail _ c) (.inr rfl)) ?_);rfl
def Ld:∀{f:List Nat}{a:Int},(∀x∈f,ah M x=0\/ah M x=1)->a=0\/a=1->
  (f.map (ah M)).foldl (λa b=>if b<a then b else a) a=if (a==1&&f.all λx=>ah M x==1) then 1 else 0:=by
 intro f
 induction f with
 |nil=>intro a _ h;rcases h with e|e<;>subst e<;>rfl
 |cons x f i=>
  intro a h G;show(f.map<|ah M).foldl _ (if ah M x<a then ah M x else a)=_;refine aa Zi ?_;rcases G with e|e<;>subst e<;>rcases h x (.head _) with g|g<;>refine aa g ?_
  ·refine aa (show(if (0:Int)<0 then (0:Int) else 0)=0 from rfl) (aa (i (λy c=>h y<|.tail _ c) (.inl rfl)) ?_);rfl
  ·refine aa (show(if (1:Int)<0 then (1:Int) else 0)=0 from rfl) (aa (i (λy c=>h y<|.tail _ c) (.inl rfl)) ?_);rfl
  ·refine aa (show(if (0:Int)<1 then (0:Int) else 1)=0 from rfl) (aa (i (λy c=>h y<|.tail _ c) (.inl rfl)) ?_);rfl
  ·refine aa (show(if (1:Int)<1 then (1:Int) else 1)=1 from rfl) (aa (i (λy c=>h y<|.tail _ c) (.inr rfl)) ?_);rfl
def A2{b:Bool}(h:J=0\/J=1):(some J==some (if b then 1 else 0))=((J==1)==b):=by
 rcases h with e|e<;>subst e<;>cases b<;>rfl
def sz(m:G≠[])(h:∀x∈G,ah M x=0\/ah M x=1)(Q:ah M U=0\/ah M U=1):(Told.or G U).holds M=((ah M U==1)==G.any λx=>ah M x==1):=by
 obtain _|⟨x,G⟩:=G
 ·exact agR rfl m
 ·show(some (ah M U)==some ((G.map<|ah M).foldl (λa U=>if a<U then U else a) (ah M x)))=_
  exact aa (MS (λy c=>h y<|.tail _ c) (h x<|.head _)) (aa (A2 Q)<|aa W5 rfl)
def wQ(m:G≠[])(h:∀x∈G,ah M x=0\/ah M x=1)(Q:ah M U=0\/ah M U=1):(Told.and G U).holds M=((ah M U==1)==G.all λx=>ah M x==1):=by
 obtain _|⟨x,G⟩:=G
 ·exact agR rfl m
 ·show(some (ah M U)==some ((G.map<|ah M).foldl (λa U=>if U<a then U else a) (ah M x)))=_
  exact aa (Ld (λy c=>h y<|.tail _ c) (h x<|.head _)) (aa (A2 Q)<|aa Zi rfl)
def sg(I:Inv P S)(Q:∀x d,aO x S.made=some d->aO x m=some d)(E:U4 k l (S.push p [] m) s)(f:List Int->Int)
  (M:∀w,bH S w->iD (f w) p.2) (c:∀w v,bH S w->iD v p.2->(l (w++[v])↔v=f w)):U4 (k+1) Tt S s/\∀w,bH s w->ah w S.n=f (w.take S.n):=by
 have j:S.n<=(S.push p [] m).n:=by rw[bA];exact W9 _
 have N:∀w,bH s w->∃u,w.take (S.push p [] m).n=u++[f u]/\bH S u/\w.take S.n=u:=λw y=>by
  have⟨o,t⟩:=E.bwd w y;refine aq (dR o) λu v e J L=>?_;rw[e] at o t;have a:=(dD I J).mp o;have:=(c u v a.1 a.2.1).mp t;rw[this] at e;exact⟨u,e,a.1,by rw[<-dn j,e,<-J,Yn]⟩
 refine⟨⟨?_,?_,?_,λx d h=>E.keep x d<|Q x d h,λw y _=>?_,λw y=>?_,λw A h G e=>?_⟩,λw y=>?_⟩
 ·have:=E.cnt;rw[bA] at this;exact G7 this
 ·have:=E.nz
  have e:(S.push p [] m).aw.length=S.aw.length:=by show(S.aw++[]).length=_;rw[WI]
  exact(Y2<|e▸this)
 ·exact af E.pre λT e=>⟨p::T,by rw[e];show(S.vars++[p])++T=_;rw[Xq];rfl⟩
 ·have B:bH (S.push p [] m) (w++[f w]):=(dD I y.len).mpr ⟨y,M w y,λ_ h=>nomatch h⟩
  exact ae (E.fwd _ B<|(c w _ y<|M w y).mpr rfl) λb t e=>⟨b,t,by rw[<-dn j,e,<-y.len,Yn]⟩
 ·refine aj (N w y) λu _ i e=>?_
  rw[e];exact⟨i,trivial⟩
 ·refine aj (N w h) λu L _ z=>aj (N A G) λU Y _ r=>?_
  have:u=U:=by rw[<-z,<-r,e]
  clear r;subst this;exact E.one w A h G<|L.trans Y.symm
 ·exact aj (N w y) λu e i z=>aa z<|av (au (by rw[bA];exact WK _)) (aa e<|av i.len<|aa bC rfl)
def sd(I:Inv (· ≠N) S)(g:aO N.en S.made=some (aH z))(h:Nk S N z):Inv Al S:=
 ⟨I.bN,I.aw,λY d e=>by
  refine ae (I.made Y d e) λJ s Q=>?_;by_cases c:Y=N
  ·clear I Q;subst c
   rw[g] at e;exact⟨z,(Wn e).symm,λ_=>h⟩
  ·exact⟨J,s,λ_=>Q c⟩,I.two,I.kJ⟩
def rK(I:Inv Al S)(Y:iF p.2):Inv (· ≠κ) (S.push p [] (S.made++[(κ.en,aH S.n)])):=by
 refine⟨λx i=>?_,λt h=>?_,λc d g=>?_,?_,?_⟩
 ·rw[bA] at i
  by_cases h:x=S.n
  ·refine aa h (aa eY ?_);exact Y
  ·exact aa (eE<|lA i h)<|I.bN x (lA i h)
 ·have h:t∈S.aw:=by
   have h:t∈S.aw++[]:=h;rw[WI] at h;exact h
  have:=I.aw t h;exact aa bA<|⟨this.cJ,this.short,λx i=>WM<|this.lt x i⟩
 ·change aO c.en (S.made++[(κ.en,aH S.n)])=some d at g
  rw[d7] at g;rcases h:aO c.en S.made with _|m
  ·rw[h] at g
   rcases q:bP κ.en c.en with _|_
   ·rw[q] at g;exact nomatch g
   ·rw[q] at g
    exact⟨S.n,(Wn g).symm,λn=>agR (U5.inj q).symm n⟩
  ·rw[h] at g
   refine ae (I.made c m h) λz s Q=>?_;have Q:=Q trivial;refine⟨z,(Wn g).symm.trans s,λ_=>⟨by exact aa bA<|WM Q.lt,λx i=>by exact aa bA<|WM (Q.vars x i),λb=>(eE Q.lt).trans<|Q.bool b,λw y=>?_⟩⟩;refine aq (dR y) λu v e J _=>?_;subst e;have a:=(dD I J).mp y;exact mK (bx<|by exact aa J Q.lt).symm (λx i=>(bx (by exact aa J<|Q.vars x i)).symm) (Q.says u a.1)
 ·exact aa bA<|Y2 I.two
 ·exact aa bA<|aa Wv<|WB I.kJ
def nF(h:(!x)=false):x=true:=by cases x;cases h;rfl
section
variable{S:St}{j:Bool}{y:V}{W:O}{R:List O}
def aA:(UU S j y W (R++[o]))[R.length+9]?=some o:=bV
def kR:(UU S j y W (R++[o])).set (R.length+9) z=UU S j y W (R++[z]):=by
 have:(R++[o]).set R.length z=R++[z]:=uf;delta UU;rw[<-this];rfl
def ay(h:Lo y W R):Vg false (R.length+9) (.d x) (UU S j y W (R++[o]))=some (.d x,UU S j y W R):=by
 have:=lv (r:=[o]) (x:=x)<|h.low (S:=S) (fr:=j);exact this
def mc(h:t[n]?=some (.list l))(J:l.length<lim):FN tab 0 (.loc n) [.d x] t=some (.d .none,t.set n (.list (l++[x]))):=by
 show((dB t<|.loc n).bind λp=>(some<|V.d x).bind λa=>(Vf a).bind λx=>if p.2.length<lim then some (V.d .none,t.set p.1<|.list<|p.2++[x]) else none)=_;rw[dO h];show(if l.length<lim then some (V.d .none,t.set n<|.list<|l++[x]) else none)=_;exact aa (agO J) rfl
def fY(h:t[n]?=some (.list l)):ER tab 0 [.loc n] t=some (.d (.int l.length),t):=by
 show(H5 tab<|fe tab t<|.loc n).map (λi=>(V.d<|.int i,t))=_;refine aa (bR h) ?_;rfl
def nZ(h:t[n]?=some (.list l))(Y:l.all (plain 11)):nk tab t 1 (.loc n) (.d (.lst []))=some (!l.isEmpty):=by
 show((fe tab t<|.loc n).dat.bind λx=>D.yL x<|.lst []).map (!·)=_;exact aa (bR h)<|agN (W4 (!·))<|dh Y
def cu(h:σ[n]?=some (.list l))(m:Nat)(Q:W2 m 4):nu σ (.loc n)=none/\zN (Fd tab σ (.loc n)) m:=
 ⟨lW h rfl,(agN (λx=>zN (GW x) m) (bR h)).trans Q⟩
def aR(w:List Int)(T:List Tr):Bool:=T.all<|Tr.ev w
structure Kept (K:List Tr) (k:Nat):Prop where
 bits:∀t∈K,t.pf
 len:K.length<=k
section
variable{C:Cl}(H:∀{t:Tr} {f:UT} {Q:V->UT->Prop},Q (.d t.neg.en) f->C 36 [.d t.en] f Q)
include H
def rD:
  ∀{T K:List Tr}{tl:Ev},(∀t∈K,t.pf)->K.length+T.length<=1000->
   (∀ac (E:List Tr),(∀w,(aR w K&&aR w T)=false)->Q (.ret (.d (.bool false))) ac (UU S j y W (R++[.list (E.map Tr.en)])))->
   (∀tl (E:List Tr),(∀t∈E,t.pf)->E.length<=K.length+T.length->(∀t∈E,t∈K\/t∈T)->(∀w,aR w E=(aR w K&&aR w T))->Q .next ((0,.loc 1)::(57,x)::(56,.loc (R.length+9))::tl) (UU S j y W (R++[.list (E.map Tr.en)])))->
   Vb .no A (λx ac f K=>ok (dM ac (.n 39) x) λac=>da tab C [(.iff (.bo false [(.cmp (.v 39) [0] [(.k (.bool false))]),(.cmp (.call 36 [(.v 39)]) [8] [(.v 56)])]) [(.ret (.k (.bool false)))] []),(.iff (.bo true [(.cmp (.v 39) [1] [(.k (.bool true))]),(.cmp (.v 39) [9] [(.v 56)])]) [(.ex (.me (.v 56) 0 [(.v 39)]))] [])] ac f K)
    (T.map Tr.en) ((0,.loc 1)::(57,x)::(56,.loc (R.length+9))::tl) (UU S j y W (R++[.list (K.map Tr.en)])) Q:=by
 intro T
 induction T with
 |nil=>
  intro K tl r J qr qn;exact qn tl K r (WC _) (λt h=> .inl h) (λw=>(XT _).symm)
 |cons t T i=>
  intro K tl r J qr qn;have N:∀u:Tr,bF (fe tab (UU S j y W<|R++[.list<|K.map Tr.en])<|.loc<|R.length+9) u.en=some (K.any λv=>same v u):=λu=>(agN (λX=>bF X u.en) (bR aA)).trans ph;have o:∀w,aR w (t::T)=(t.ev w&&aR w T):=λw=>Zi;rw[WZ] at J;have next:∀(tl:Ev)(B:List Tr),(∀t∈B,t.pf)->B.length<=K.length+1->(∀u∈B,u∈K\/u=t)->(∀w,(aR w B&&aR w T)=(aR w K&&(t.ev w&&aR w T)))->
    Vb .no A (λx ac f K=>ok (dM ac (.n 39) x) λac=>da tab C [.iff (.bo false [.cmp (.v 39) [0] [.k<|.bool false],.cmp (.call 36 [.v 39]) [8] [.v 56]]) [.ret<|.k<|.bool false] [],.iff (.bo true [.cmp (.v 39) [1] [.k<|.bool true],.cmp (.v 39) [9] [.v 56]]) [.ex<|.me (.v 56) 0 [.v 39]] []] ac f K)
     (T.map Tr.en) ((0,.loc 1)::(57,x)::(56,.loc<|R.length+9)::tl) (UU S j y W<|R++[.list<|B.map Tr.en]) Q:=λtl B m z Y l=>
   i m (LK J z) (λac E h=>qr ac E λw=>by rw[o,<-l];exact h w) (λtl E a b c e=>qn tl E a (by exact aa WZ<|yR b z) (λu p=>(c u p).elim (λh=>(Y u h).imp id λe:u=t=>by exact aa e<|.head _) λh=> .inr<|.tail _ h) λw=>by rw[e,l,o])
  refine ai bw<|ai (v9 (u:=.tf false))<|aX (λg=>?_) (λg=>?_)
  ·have g:=eq_of_beq g
   refine ai bw<|H<|ai (N t.neg)<|aX (λG=>?_) (λG=>?_)
   ·refine qr _ K λw=>ae (WR.mp G) λu p e=>?_
    have e:=U6.mp e;rw[o];rcases h:t.ev w with _|_
    ·rw[acP,ZP]
    ·have:aR w K=false:=aca.mpr ⟨u,p,by refine aa e<|aa ck<|aa h ?_;decide⟩
     refine aa this ?_;rfl
   ·refine ai bw (ai (iS (u:=.tf true))<|aX (λI=>?_) (λI=>?_))
    ·have I:=eq_of_beq I
     have U:t.pf:=by
      clear qr qn o next G;obtain b|⟨x,s⟩:=t
      ·obtain _|_:=b
       ·exact agR g (by decide)
       ·exact agR I (by decide)
      ·rfl
     refine ai bw<|ai (agN (W4 (!·))<|N t)<|aX (λg4=>?_) (λg4=>?_)
     ·have L:=cu (σ:=UU S j y W<|R++[.list<|K.map Tr.en]) aA 0 rfl
      refine ec L.1 L.2<|ai bw<|ai (mc aA (by rw[Wm];exact WJ (tM J)<|ab rfl)) ?_;refine⟨trivial,?_⟩;refine aa (show K.map Tr.en++[t.en]=(K++[t]).map Tr.en by rw[W8];rfl) ?_;have:=next (put tl 39<|.d t.en) (K++[t]) (λu p=>(WH.mp p).elim (r u) λe=>Wj.mp e▸U) (by exact aa Wv<|WC _) (λu p=>(WH.mp p).imp id Wj.mp) (λw=>by
       show((K++[t]).all (Tr.ev w)&&aR w T)=_;rw[aaO,Zi,List.all_nil,XT,Bool.and_assoc];rfl)
      rw[<-kR] at this;exact this
     ·refine⟨trivial,?_⟩
      refine next _ K r (W9 _) (λu p=> .inl p) (λw=>?_)
      have g4:=nF g4;refine ae (WR.mp g4) λu p e=>?_;have e:=U6.mp e;clear qr qn o next g G I U g4;subst e
      rcases h:aR w K with _|_
      ·rfl
      ·refine aa (Wt.mp h u p) ?_;rfl
    ·refine bM (iO.eqF I) ⟨trivial,?_⟩
     have I:=nF<|iO.eqF I;have e:=U6.mp I;exact next _ K r (W9 _) (λu p=> .inl p) (λw=>by refine aa e ?_;rfl)
  ·have g:=jS.not_false_eq_true' g
   refine eB g<|qr _ K λw=>?_;rw[o,U6.mp g];exact ZP _
end
end
noncomputable def Tr.pr(t:Tr):Nat×Bool:=(t.x,t.s)
def Nc{K:List Tr}(h:∀t∈K,t.pf):K.map Tr.en=(K.map Tr.pr).map J4:=aa Xu<|YN λt o=>by
 have:=h t o;clear o;obtain b|⟨x,s⟩:=t
 ·cases this
 ·rfl
def CE(h:∀t∈K,t.pf)(w:List Int):(K.map Tr.pr).all (Cw w)=aR w K:=by
 refine aa Zr ?_
 induction K with
 |nil=>rfl
 |cons t K i=>
  have:=h t<|.head _;show(Cw w t.pr&&_)=(t.ev w&&_);refine aa (i λu j=>h u<|.tail _ j) ?_;clear h;obtain b|⟨x,s⟩:=t
  ·cases this
  ·rfl
def vP{K:List Tr}(h:∀t∈K,t.pf)(o:∀t∈K,aW S t):∀t∈K,t.x<S.n/\S.bN t.x=TR:=λt p=>by
 have:=h t p;have g:=o t p;clear p;obtain b|⟨x,s⟩:=t
 ·cases this
 ·exact g
def Eo(h:∀t∈K,t.pf)(s:∀t∈K,t.s)(w:List Int):(K.map Tr.x).all (λx=>ah w x==1)=aR w K:=by
 refine aa Zr ?_
 induction K with
 |nil=>rfl
 |cons t K i=>
  have a:=h t<|.head _;have b:=s t<|.head _;show((ah w t.x==1)&&_)=(t.ev w&&_);refine aa (i (λu j=>h u<|.tail _ j) λu j=>s u<|.tail _ j) ?_;clear h s;obtain b|⟨x,s⟩:=t
  ·cases a
  ·cases b;show((ah w x==1)&&_)=(((ah w x==1)==true)&&_);cases (ah w x==1)<;>rfl
def nS(h:∀t∈K,t.pf)(s:∀t∈K,t.s=false)(w:List Int):((K.map Tr.x).any λx=>ah w x==1)= !aR w K:=by
 refine aa ZI ?_
 induction K with
 |nil=>rfl
 |cons t K i=>
  have a:=h t<|.head _;have b:=s t<|.head _;show((ah w t.x==1)||_)= !(t.ev w&&aR w K);refine aa (i (λu j=>h u<|.tail _ j) λu j=>s u<|.tail _ j) ?_;clear h s;obtain b|⟨x,s⟩:=t
  ·cases a
  ·cases b;show((ah w x==1)|| !aR w K)= !(((ah w x==1)==false)&&aR w K);cases (ah w x==1)<;>rfl
def oN{bs:List Bool}{b:Bool}:bF (.lst (bs.map D.bool)) (.bool b)=some (bs.any (· ==b)):=by
 show(match true&&(bs.map D.bool).all (plain 11) with|true=>some ((bs.map D.bool).any λy=>bP y<|.bool b)|false=>none)=_;refine aa (Wt.mpr λd h=>by refine fc h λi _ e=>?_;clear h;subst e;rfl) (aa ZI ?_);show some (bs.any λy=>bP (.bool y)<|.bool b)=_
 congr 2;funext y;exact t9 y b
def lE(h:t[n]?=some (.list l)):ER tab 1 [.loc n] t=some (.d (.tup l),t):=by
 show(jU<|fe tab t<|.loc n).bind (λr=>oY 1 r.1 r.2 t)=_;refine aa (bR h) ?_;rfl
def xm(p:k.Perm K)(w:List Int):aR w k=aR w K:=by
 delta aR;rw[XK,Wt,Wt];exact⟨λh t o=>h t<|p.mem_iff.mpr o,λh t o=>h t<|p.mem_iff.mp o⟩
def gI(o:∀t∈K,aW S t)(w:List Int):aR (w.take S.n) K=aR w K:=by
 delta aR;rw[XK,Wt,Wt];exact⟨λh t p=>by exact av (aN<|o t p)<|h t p,λh t p=>by exact aa (aN<|o t p)<|h t p⟩
section
variable{Q:V->UT->Prop}{S:St}{c:Bool}{a:V}{W:O}{R:List O}
def Iv{K:List Tr}(L:Lo a W R)(I:Inv Al S)(r:Rm 5 S)(am:∀t∈K,t.pf)(f:∀t∈K,aW S t)(u:K≠[])(J:K.length<=4)(M:∀t∈K,t.s=false)
  (q:∀j t,dK 5 S j t (λw=>aR w K)->Q (.d t.en) (UU j c a W R)):
  da tab (C (U+2)) [(.asg (.t (.t [(.n 55),(.n 46)])) (.me (.v 0) 18 [(.tup [(.k (.str 63)),(.v 25)]),(.g 8)])),(.iff (.v 46) [(.ex (.me (.at (.v 0) 44) 19 [(.tup [(.k (.str 63)),(.v 25),(.v 55)])]))] []),(.ret (.tup [(.k (.str 46)),(.v 55),(.k (.bool false))]))]
   ((0,.loc 1)::(57,x)::(56,.loc (R.length+9))::put (put tl 25 (.d (bS (K.map Tr.x)))) 41 (.d (.lst ((K.map Tr.s).map D.bool)))) (UU S c a W (R++[.list (K.map Tr.en)])) (Kn.en (R.length+9) false Q):=by
 have i:=vP am f;have l:∀y∈K.map Tr.x,y<S.n:=λy B=>by refine fc B λt o E=>?_;clear B;subst E;exact(i t o).1
 have al:∀{w},bH S w->∀y∈K.map Tr.x,ah w y=0\/ah w y=1:=λA y B=>by refine fc B λt o E=>?_;clear B;subst E;exact gw A<|i t o
 have ag:K.map Tr.x≠[]:=λe=>u<|Yu.mp e;have ac:∀{j b},dK 1 S j (.bit b true) (λw=> !aR w K)->dK 5 S j (.bit b false) (λw=>aR w K):=λ{j b} T=>⟨T.I,T.e.more<|ab rfl,T.ok,λw A=>by
  have:=T.ev w A;show((ah w b==1)==false)=aR w K;refine aa (show(ah w b==1)= !aR w K by rw[<-this];show _=((ah w b==1)==true);cases (ah w b==1)<;>rfl) ?_;cases aR w K<;>rfl⟩
 refine ai ((fQ rfl).trans bw) ?_;rcases g:aO (U5.or<|K.map Tr.x).en S.made with _|y
 ·refine jg (m:=TR) g (λp Y=>Wj.mp Y▸⟨by decide,by decide⟩) (by have:=r.n;exact fg this) I.kJ ?_
  refine ai bw<|ai ((fQ rfl).trans<|(fQ rfl).trans<|(fQ rfl).trans bw)<|ai ((fQ rfl).trans bw) ?_;refine f7 (t:=.or (K.map Tr.x) S.n) (by have:=r.t;show(S.aw++[]).length<63;rw[WI];exact fg this)<|aa ft (ai ((fQ rfl).trans bw)<|ai (ay L) ?_);have N:∀(w:List Int)(v:Int),bH S w->iD v TR->(Told.or (K.map Tr.x) S.n).holds (w++[v])=((v==1)== !aR w K):=λw v A G=>by
   have e:∀y∈K.map Tr.x,ah (w++[v]) y=ah w y:=λy B=>bx (by exact aa A.len<|l y B);have ez:ah (w++[v]) S.n=v:=av A.len<|aa bC rfl;rw[sz ag (λy B=>by rw[e y B];exact al A y B) (by rw[ez];exact rG.mp G),ez,Vj λy B=>by rw[e y B],nS am M]
  refine q _ (.bit S.n false)<|ac<|iM I (λw=> !aR w K) ⟨ag,?_,?_⟩ l ?_ ?_ ?_
  ·show(K.map Tr.x++[S.n]).length<=1000
   rw[Wv,Wm];exact Wh (WB J)<|ab rfl
  ·intro y B
   obtain h|h:=WH.mp B
   ·exact WM (l y h)
   ·exact aa (Wj.mp h)<|WK _
  ·intro w v A G
   rw[N w v A G,agQ]
  ·exact λw v _ _ h=>h
  ·exact λw=>agN (!·)<|gI f w
 ·refine jm (κ:=.or<|K.map Tr.x) (m:=TR) g (ae (I.made _ y g) λz hz m=>?_)
  clear g;subst hz;have m:=m trivial;refine ai bw<|ai ((fQ rfl).trans bw)<|ai (ay L)<|q S (.bit z false)<|ac ⟨I,U4.refl.more<|Wz _,⟨m.lt,m.bool rfl⟩,λw A=>?_⟩;have:=m.says w A;change (Told.or (K.map Tr.x) z).holds w=true at this;rw[sz ag (al A)<|gw A ⟨m.lt,m.bool rfl⟩,nS am M] at this;show((ah w z==1)==true)= !aR w K;refine aa (eq_of_beq this) ?_;cases aR w K<;>rfl
end
section
variable{Q:V->UT->Prop}{S:St}{i:Bool}{f:V}{W:O}{R:List O}
def mY{κ:U5}{x:D}{m:m9}{y:D}(e:κ.en=x)(h:aO κ.en S.made=some y)(q:Q (.d (.tup [y,.bool false])) (UU S i f W R)):C (U+1) 43 [.loc 1,.d x,.d (aP m)] (UU S i f W R) Q:=
 e▸jm h q
def mQ{N:U5}{x:D}{m:m9}(e:N.en=x)(h:aO N.en S.made=none)(T:∀p∈m,p.1.natAbs<=1000/\p.2.natAbs<=1000)(r:S.n<63)(J:S.made.length<=S.n)
  (q:Q (.d (.tup [aH S.n,.bool true])) (UU (S.push (.hash S.n,m) [] (S.made++[(N.en,aH S.n)])) i f W R)):C (U+2) 43 [.loc 1,.d x,.d (aP m)] (UU S i f W R) Q:=
 e▸jg h T r J q
def BM{P:U5->Prop}{b:Nat}{K:List Tr}{Q:Fl->Ev->UT->Prop}(ac:N=.list (K.map Tr.en)):
  ∀{K1:List Tr}{S:St}{al:Ev},Inv P S->Rm K1.length S->(∀t∈K1,aW S t)->aW S (.bit b false)->
   (∀s p,cQ P K1.length S s (λw=>K1.all (λt=>(Tr.bit b false).ev w||t.ev w)=true)->UY p 55=some y->UY p 41=UY al 41->UY p 25=UY al 25->Q .next ((0,.loc 1)::(57,x)::(56,.loc (R.length+9))::p) (UU s i f W (R++[N])))->
   UY al 55=some y->y=.d (aH b)->
   Vb (.ls (R.length+9)) (K.map Tr.en) (λx L z Q=>ok (dM L (.n 39) x) λL=>da tab (C (U+2)) [(.ex (.me (.v 0) 23 [(.ls false [(.tup [(.k (.str 46)),(.v 55),(.k (.bool false))]),(.v 39)])]))] L z Q)
    (K1.map Tr.en) ((0,.loc 1)::(57,x)::(56,.loc (R.length+9))::al) (UU S i f W (R++[N])) Q:=by
 intro K1
 induction K1 with
 |nil=>exact λ{S al} I r J am q ag _=>q S al ⟨I,U4.refl.iff λw A=>⟨λ_=>rfl,λ_=>trivial⟩⟩ ag rfl rfl
 |cons t K1 l=>
  intro S al I r J am q ag g;subst g;refine ai ((fQ rfl).trans ag)<|ai bw<|pM (T:=[.bit b false,t]) LV.val I (r.less<|Xz 1 K1.length) ?_ (Wi rfl) λo B=>⟨?_,?_⟩
  ·intro u j
   obtain rfl|j:=Wo.mp j
   ·exact am
   ·exact aa (Wj.mp j)<|J t (.head _)
  ·clear l q;subst ac;exact aA
  ·have Y:=Rm.after (r.less<|Xf (Xj ..)) B.e
   refine l B.I Y (λu j=>(J u<|.tail _ j).ext B.e) (am.ext B.e) (λm p R2 a b' c=>?_) ((fQ rfl).trans ag) rfl;refine q m p ⟨R2.I,?_⟩ a (b'.trans<|fQ rfl)<|c.trans<|fQ rfl;have E:=(B.e.trans (χ:=λw=>K1.all (λt=>(Tr.bit b false).ev w||t.ev w)=true) R2.e λw A=>?_)
   ·rw[Xj] at E
    refine E.iff λw A=>?_;show([Tr.bit b false,t].any (Tr.ev w)/\_)↔(((Tr.bit b false).ev w||t.ev w)&&K1.all _)=true;rw[WE,W5,W5,Yv,XC]
   ·rw[Wt,Wt]
    have G:(Tr.bit b false).ev (w.take S.n)=(Tr.bit b false).ev w:=aN am;exact⟨λh u j=>by refine aa G<|aa (aN<|J u<|.tail _ j) ?_;exact h u j,λh u j=>by have:=h u j;rw[G,aN<|J u<|.tail _ j] at this;exact this⟩
def Dt{d:Nat}{K:List Tr}{x:V}{tl:Ev}(L:Lo f W R)(I:Inv Al S)(r:Rm 5 S)(U:∀t∈K,t.pf)(c:∀t∈K,aW S t)(hn:K≠[])(M:K.length<=3)
  (q:∀j t,dK 5 S j t (λw=>aR w K)->Q (.d t.en) (UU j i f W R)):
  da tab (C (d+2)) (PB.drop 6)
   ((0,.loc 1)::(57,x)::(56,.loc (R.length+9))::put (put tl 25 (.d (bS (K.map Tr.x)))) 41 (.d (.lst ((K.map Tr.s).map D.bool)))) (UU S i f W (R++[.list (K.map Tr.en)])) (Kn.en (R.length+9) false Q):=by
 have l:=vP U c;have hm:∀y∈K.map Tr.x,y<S.n:=λy hy=>by refine fc hy λt ht o=>?_;subst o;exact(l t ht).1
 have hv:∀y∈(U5.all<|K.map Tr.pr).vars,y<S.n:=λy hy=>by
  refine fc hy λt ht o=>?_;subst o;refine ae (YH.mp ht) λu hu o=>?_;subst o;exact(l u hu).1
 have ap:∀{w},bH S w->∀y∈K.map Tr.x,ah w y=0\/ah w y=1:=λA y hy=>by refine fc hy λt ht o=>?_;subst o;exact gw A<|l t ht
 have ac:K.map Tr.x≠[]:=λe=>hn<|Yu.mp e;have eK:(U5.all<|K.map Tr.pr).en=.tup [.str 64,.tup<|K.map Tr.en]:=by rw[Nc U];rfl
 refine ai (lE aA) ?_;rcases g:aO (U5.all<|K.map Tr.pr).en S.made with _|y
 ·refine mQ (m:=TR) eK g (λp Y=>Wj.mp Y▸⟨by decide,by decide⟩) (by have:=r.n;exact fg this) I.kJ ?_
  refine ai bw<|ai ((fQ rfl).trans<|(fQ rfl).trans bw)<|ai (agN (W4 (!·))<|oN)<|aX (λh=>?_) (λh=>?_)
  ·have N:((K.map Tr.s).any (· ==false))=false:=by
    have h:=h;rcases e:(K.map Tr.s).any (· ==false) with _|_
    ·rfl
    ·rw[e] at h;cases h
   have hs:∀t∈K,t.s:=λt ht=>by
    have:=ZY.mp N t.s<|Yd ht;rcases e:t.s with _|_
    ·rw[e] at this;exact agR rfl this
    ·rfl
   refine ai ((fQ rfl).trans<|(fQ rfl).trans<|(fQ rfl).trans bw)<|ai ((fQ rfl).trans bw) ?_;refine f7 (t:=.and (K.map Tr.x) S.n) (by have:=r.t;show(S.aw++[]).length<63;rw[WI];exact fg this) ?_;rw[ft];refine ai ((fQ rfl).trans bw)<|ai (ay L) ?_;have hh:∀(w:List Int)(v:Int),bH S w->iD v TR->(Told.and (K.map Tr.x) S.n).holds (w++[v])=((v==1)==aR w K):=λw v A hv=>by
    have e:∀y∈K.map Tr.x,ah (w++[v]) y=ah w y:=λy hy=>bx (by rw[A.len];exact hm y hy);have ez:ah (w++[v]) S.n=v:=by rw[<-A.len,bC]
    have ea:((K.map Tr.x).all λy=>ah (w++[v]) y==1)=(K.map Tr.x).all λy=>ah w y==1:=by
     rw[XK,Wt,Wt];exact⟨λh y hy=>by rw[<-e y hy];exact h y hy,λh y hy=>by rw[e y hy];exact h y hy⟩
    rw[wQ ac (λy hy=>by rw[e y hy];exact ap A y hy) (by rw[ez];exact rG.mp hv),ez,ea,Eo U hs]
   have T:=iM I (t:=.and (K.map Tr.x) S.n) (λw=>aR w K) ⟨ac,?_,?_⟩ hv ?_ ?_ (gI c)
   ·exact q _ (.bit S.n true) ⟨T.I,T.e.more<|ab rfl,T.ok,T.ev⟩
   ·show(K.map Tr.x++[S.n]).length<=1000
    rw[Wv,Wm];exact Wh (WB M)<|ab rfl
   ·intro y hy
    obtain h|h:=WH.mp hy
    ·exact WM (hm y h)
    ·rw[Wj.mp h];exact WK _
   ·intro w v A hv
    rw[hh w v A hv,agQ]
   ·intro w v A hv h
    rw[hh w v A hv] at h;show(ah (w++[v]) S.n==1)=(K.map Tr.pr).all (Cw<|w++[v]);rw[CE U,<-A.len,bC,eq_of_beq h,<-gI c (w++[v]),<-A.len,Yn]
  ·refine ai bw (ai (LV.loc aA).it ?_)
   have I1:=rK I (p:=(.hash S.n,TR)) (κ:=.all<|K.map Tr.pr) F6;have n1:(S.push (.hash S.n,TR) []<|S.made++[((U5.all<|K.map Tr.pr).en,aH S.n)]).n=S.n+1:=bA;have t1:(S.push (.hash S.n,TR) []<|S.made++[((U5.all<|K.map Tr.pr).en,aH S.n)]).aw.length=S.aw.length:=by show(S.aw++[]).length=_;rw[WI]
   have ag:∀t∈K,aW (S.push (.hash S.n,TR) []<|S.made++[((U5.all<|K.map Tr.pr).en,aH S.n)]) t:=λt ht=>by
    have a:=c t ht;have b:=U t ht;obtain b'|⟨x,s⟩:=t
    ·trivial
    ·exact⟨by rw[n1];exact WM a.1,(eE a.1).trans a.2⟩
   have ar:∀s,aW (S.push (.hash S.n,TR) []<|S.made++[((U5.all<|K.map Tr.pr).en,aH S.n)]) (.bit S.n s):=λs=>⟨by rw[n1];exact WK _,eY⟩;refine BM (b:=S.n) (y:=.d<|aH S.n) rfl I1 ⟨by rw[n1];have:=r.n;exact nM (mz this)<|cy M rfl,by rw[t1];have:=r.t;exact nM this<|cy M rfl⟩ ag (ar false) (λS2 al R2 a _ _=>?_) ((fQ rfl).trans bw) rfl;refine ai a<|ai (LV.loc aA).it<|(?_:bb (.ls<|R.length+9) _ _ (WQ Tr.en K) [] _ _);refine ff Tr.en Tr.neg Tr.en aA ?_ (Wh M<|ab rfl) ?_
   ·exact λt ht Q k=>ai bw<|qg<|k
   have am:(Tr.bit S.n true::K.map Tr.neg).length<=4:=by rw[WZ,Wm];exact WB M
   refine bG (aQ (by rw[Wm];exact Wh M<|ab rfl)) (ai (a:=.lst<|(Tr.bit S.n true::K.map Tr.neg).map Tr.en) ?_ ?_)
   ·exact agO (by rw[Wm,Wm];show 1+K.length<=lim;exact Wh (show 1+K.length<=4 from gy M rfl) (ab rfl))
   have r2:=Rm.after (k:=K.length) (k':=1) ⟨by rw[n1];have:=r.n;exact nM (mz this)<|WB M,by rw[t1];have:=r.t;exact nM this<|mZ M rfl⟩ R2.e;refine pM (T:=.bit S.n true::K.map Tr.neg) LV.val R2.I r2 ?_ am λS3 R3=>?_
   ·intro t ht
    obtain rfl|ht:=Wo.mp ht
    ·exact(ar true).ext R2.e
    ·refine fc ht λu hu o=>?_;subst o
     exact dp<|(ag u hu).ext R2.e
   refine ai a<|ai (ay L) ?_;have kp:∀x d,aO x S.made=some d->aO x (S.made++[((U5.all<|K.map Tr.pr).en,aH S.n)])=some d:=λx d h=>by rw[d7,h]
   have E:=R2.e.trans (χ:=λw=>(ah w S.n==1)=true\/K.any (λt=> !t.ev w)=true) R3.e λw A=>by
    have G:∀x,x<S.n+1->ah (w.take (S.push (.hash S.n,TR) []<|S.made++[((U5.all<|K.map Tr.pr).en,aH S.n)]).n) x=ah w x:=λx l=>by rw[n1];exact au l
    rw[G S.n<|WK _,W5,ZI,ZF];have e1:(Tr.bit S.n true).ev w=(ah w S.n==1):=by show((ah w S.n==1)==true)=_;cases (ah w S.n==1)<;>rfl
    rw[e1,WR,WR];refine or_congr aaq ⟨λzz=>ae zz λt ht h=>⟨t,ht,?_⟩,λzz=>ae zz λt ht h=>⟨t,ht,?_⟩⟩
    ·rw[aN<|ag t ht];rw[<-ck];exact h
    ·rw[aN<|ag t ht] at h;show t.neg.ev w=true;rw[ck];exact h
   have F:=sg I kp E (λw=>if aR w K then 1 else 0) (λw A=>rG.mpr (by cases aR w K;exact .inl rfl;exact .inr rfl)) λw v A hv=>by
    have ez:ah (w++[v]) S.n=v:=by rw[<-A.len,bC]
    have et:∀t∈K,t.ev (w++[v])=t.ev w:=λt ht=>by rw[<-aN (c t ht),<-A.len,Yn]
    have eb:(Tr.bit S.n false).ev (w++[v])= !(v==1):=by show((ah (w++[v]) S.n==1)==false)=_;rw[ez];cases (v==1)<;>rfl
    rw[ez,eb];have e1:K.all (λt=> !(v==1)||t.ev (w++[v]))=(!(v==1)||aR w K):=by
     rw[XK,Wt];obtain _|_:=(v==1)
     ·exact⟨λ_=>rfl,λ_ t _=>rfl⟩
     ·show(∀t∈K,(false||t.ev (w++[v])))↔(false||aR w K)=true
      rw[Z0,aR,Wt];exact⟨λh t ht=>by have:=h t ht;rw[Z0,et t ht] at this;exact this,λh t ht=>by rw[Z0,et t ht];exact h t ht⟩
    have e2:K.any (λt=> !t.ev (w++[v]))= !aR w K:=by
     rw[aR,List.all_eq_not_any_not,aaA,XK,WR,WR];exact⟨λzz=>ae zz λt ht h=>⟨t,ht,by rw[<-et t ht];exact h⟩,λzz=>ae zz λt ht h=>⟨t,ht,by rw[et t ht];exact h⟩⟩
    rw[e1,e2];rcases rG.mp hv with e|e<;>subst e<;>cases aR w K<;>decide
   have dz:=(R3.e.bN<|Ww (by rw[n1];exact WK _) R2.e.le).trans ((R2.e.bN (by rw[n1];exact WK _)).trans eY);have hz:=Ww (show S.n<_ by rw[n1];exact WK _) E.le;have B:∀w,bH S3 w->(ah w S.n==1)=aR w K:=λw A=>by rw[F.2 w A,gI c];cases aR w K<;>rfl
   have J:=sd R3.I (E.keep _ _ (by show aO _ (S.made++[((U5.all<|K.map Tr.pr).en,aH S.n)])=_;rw[d7,g];show(match bP _ _ with|true=>some (aH S.n)|false=>none)=_;rw[pX<|U5.kd _])) ⟨hz,λx l=>Ww (hv x l) F.1.le,λ_=>dz,λw A=>(B w A).trans (CE U w).symm⟩;refine q S3 (.bit S.n true) ⟨J,F.1.more<|WB<|WB M,⟨hz,dz⟩,λw A=>?_⟩;show((ah w S.n==1)==true)=aR w K;rw[B w A];cases aR w K<;>rfl
 ·refine mY (κ:=.all<|K.map Tr.pr) (m:=TR) eK g (ae (I.made _ y g) λz hz m=>?_)
  subst hz;have m:=m trivial;refine ai bw<|ai bw<|ai ((fQ rfl).trans bw)<|ai (ay L)<|q S (.bit z true) ⟨I,U4.refl.more<|Wz _,⟨m.lt,m.bool rfl⟩,λw A=>?_⟩;have:=m.says w A;change (ah w z==1)=(K.map Tr.pr).all (Cw w) at this;show((ah w z==1)==true)=aR w K;rw[this,CE U];cases aR w K<;>rfl
end
section
variable{Q:V->UT->Prop}{S:St}{c:Bool}{a:V}{W:O}{R:List O}
def Nz(L:Lo a W R)(I:Inv Al S)(r:Rm 5 S)(T:∀t∈K,t.pf)(f:∀t∈K,aW S t)(m:K≠[])(J:K.length<=3)
  (q:∀j t,dK 5 S j t (λw=>aR w K)->Q (.d t.en) (UU j c a W R)):
  da tab (C (d+2)) (PB.drop 4) ((0,.loc 1)::(57,x)::(56,.loc (R.length+9))::tl) (UU S c a W (R++[.list (K.map Tr.en)])) (Kn.en (R.length+9) false Q):=by
 have Y:K.length<=lim:=Wh J<|ab rfl;have A:=Dt (d:=d) (x:=x) (tl:=tl) L I r T f m J q;refine ai (LV.loc aA).it (?_:bb (.ls<|R.length+9) _ _ (WQ Tr.en K) [] _ _);refine ff Tr.en Tr.x aH aA ?_ Y ?_
 ·intro t o Q k
  have:=T t o;clear o;obtain b|⟨x,s⟩:=t
  ·exact nomatch this
  ·exact ai bw (k)
 refine bG (aQ (by rw[Wm];exact Y))<|ai (LV.loc aA).it (?_:bb (.ls<|R.length+9) _ _ (WQ Tr.en K) [] _ _);refine ff Tr.en Tr.s D.bool aA ?_ Y ?_
 ·intro t o Q k
  have:=T t o;clear o;obtain b|⟨x,s⟩:=t
  ·exact nomatch this
  ·exact ai bw (k)
 refine bG (aQ (by rw[Wm];exact Y))<|ai bw (ai (agN (W4 (!·))<|oN)<|aX (λh=>?_) (λh=>?_))
 ·refine Iv L I r T f m (Wh J<|ab rfl) ?_ q
  intro t o;have h:=h;rcases e:t.s with _|_
  ·rfl
  ·have:(K.map Tr.s).any (· ==true)=true:=WR.mpr ⟨t.s,Yd o,by refine aa e ?_;rfl⟩
   rw[this] at h;exact nomatch h
 ·exact A
def HM(L:Lo a W R)(I:Inv Al S)(r:Rm 5 S)(f:∀t∈T,aW S t)(J:T.length<=3)
  (q:∀s t,dK 5 S s t (λw=>aR w T)->Q (.d t.en) (UU s c a W R)):C (d+3) 51 [.loc 1,.d (.lst (T.map Tr.en))] (UU S c a W R) Q:=by
 refine H.step<|(?_:Vb .no _ _ (WQ Tr.en T) _ _ _);refine rD (K:=[]) (tl:=[]) (qg) (λ_ h=>nomatch h) (by show 0+T.length<=1000;exact gy J rfl) (λM k h=>?_) (λtl K U N Y i=>?_)
 ·exact ai (ay L) (q S (.tf false) ⟨I,U4.refl.more<|Wz _,trivial,λw _=>(h w).symm⟩)
 ·have N:=Wh N (by show 0+T.length<=3;exact gy J rfl)
  have j:∀t∈K,aW S t:=λt o=>(Y t o).elim (λh=>nomatch h) (f t);have b:∀s t,dK 5 S s t (λw=>aR w K)->Q (.d t.en) (UU s c a W R):=λs t Z=>q s t ⟨Z.I,Z.e,Z.ok,λw v=>(Z.ev w v).trans<|i w⟩;refine ai (fY aA)<|aX (λh=>?_) (λh=>?_)
  ·refine ai (nZ aA<|gJ K) (aX (λg=>?_) (λg=>?_))
   ·clear U Y i N;obtain _|⟨t,K⟩:=K
    ·exact Ws g
    obtain _|⟨u,K⟩:=K
    ·exact ai (agN (λX=>lF tab X<|.int 0) (bR aA)) (ai (ay L)<|b S t ⟨I,U4.refl.more<|Wz _,j t<|.head _,λw _=>(XT _).symm⟩)
    ·have h:((K.length:Int)+1+1)<2:=by
      have:=agS h;rw[Wm] at this;exact this
     exact(Nw h).elim
   ·clear U Y i N j h;obtain _|_:=K
    ·exact ai (ay L) (b S (.tf true) ⟨I,U4.refl.more<|Wz _,trivial,λw _=>rfl⟩)
    ·exact Ws g
  ·have m:K≠[]:=λe=>by clear U Y i N j b;subst e;exact agR h<|by decide
   have Z:=cu (σ:=UU S c a W<|R++[.list<|K.map Tr.en]) aA 3 rfl;refine ec Z.1 Z.2<|ai (dO aA)<|bG ?_ λl p=>?_
   ·refine aa (uE U) ?_
    rw[Wm,XD.mpr<|Wh N<|ab rfl];rfl
   ·refine ae (sx p rfl) λk e G=>?_
    clear p;subst e;have:=Nz (d:=d) (K:=k) (x:=.d<|.lst<|T.map Tr.en) (tl:=tl) L I r (λt o=>U t<|G.mem_iff.mp o) (λt o=>j t<|G.mem_iff.mp o) (λe=>m (by subst e;exact G.nil_eq.symm)) (G.length_eq▸N) (λs t Z=>b s t ⟨Z.I,Z.e,Z.ok,λw v=>(Z.ev w v).trans<|xm G w⟩);rw[<-kR] at this;exact this
def R7{T:List Tr}(L:Lo a W R)(I:Inv Al S)(r:Rm 5 S)(f:∀t∈T,aW S t)(J:T.length<=3)
  (q:∀s t,dK 5 S s t (λw=>T.any (Tr.ev w))->Q (.d t.en) (UU s c a W R)):C (U+4) 52 [.loc 1,.d (.lst (T.map Tr.en))] (UU S c a W R) Q:=by
 have Y:T.length<=lim:=Wh J<|ab rfl;refine H.step (?_:bb .no _ _ (WQ Tr.en T) [] _ _);refine aZ Tr.en Tr.neg Tr.en (λt o Q k=>qg<|k) Y (bG (aQ (by rw[Wm];exact Y)) ?_);refine HM L I r (λt o=>by refine fc o λu i E=>?_;clear o;subst E;exact dp<|f u i) (by rw[Wm];exact J) λs t Z=>?_;refine qg<|q s t.neg ⟨Z.I,Z.e,dp Z.ok,λw v=>?_⟩;rw[ck,Z.ev w v];delta aR;rw[Zr,XK,WR,aaB,aca];exact⟨λz=>ae z λt o h=>⟨t,o,by have h:¬t.neg.ev w:=h;rw[ck] at h;cases e:t.ev w with|true=>rfl|false=>rw[e] at h;exact agR rfl h⟩,λz=>ae z λt o h=>⟨t,o,by show ¬t.neg.ev w=true;refine aa ck<|aa h ?_;decide⟩⟩
end
def Gp{c:Int}(G:J=0\/J=1)(h:I=0\/I=1)(m:c=0\/c=1):((0+J+I+c).fmod 2==0)=((c==1)==((J==1) !=(I==1))):=by
 rcases G with e|e<;>subst e<;>rcases h with e|e<;>subst e<;>rcases m with e|e<;>subst e<;>rfl
noncomputable def oG(x y:Nat):Nat:=if (y:Int)<(x:Int) then y else x
noncomputable def oR(x y:Nat):Nat:=if (x:Int)<(y:Int) then y else x
def HW(x y:Nat):(oG x y=x/\oR x y=y)\/(oG x y=y/\oR x y=x):=by
 delta oG oR;by_cases h:(y:Int)<(x:Int)
 ·refine aa (agO h) (aa (agP<|j9<|XH h) ?_);exact .inr ⟨rfl,rfl⟩
 ·refine aa (agP h) ?_
  by_cases g:(x:Int)<(y:Int)
  ·exact aa (agO g)<|.inl ⟨rfl,rfl⟩
  ·exact aa (agP g)<|.inl ⟨rfl,KL<|Ay g h⟩
def pY(x y:Nat):(U5.xor (oG x y) (oR x y)).en=.tup [.str 53,.int (if (y:Int)<(x:Int) then (y:Int) else (x:Int)),.int (if (x:Int)<(y:Int) then (y:Int) else (x:Int))]:=by
 show D.tup [.str 53,.int ((if (y:Int)<(x:Int) then y else x:Nat):Int),.int ((if (x:Int)<(y:Int) then y else x:Nat):Int)]=_;by_cases h:(y:Int)<(x:Int)
 ·rw[agO h,agO h,agP<|j9<|XH h,agP<|j9<|XH h]
 ·rw[agP h,agP h]
  by_cases g:(x:Int)<(y:Int)
  ·rw[agO g,agO g]
  ·exact aa (agP g) (aa (agP g) rfl)
def AM(x y n:Nat):(Told.xor (oG x y) (oR x y) n).en=.tup [.str 53,.int (if (y:Int)<(x:Int) then (y:Int) else (x:Int)),.int (if (x:Int)<(y:Int) then (y:Int) else (x:Int)),aH n]:=by
 have:[D.str 53,aH<|oG x y,aH<|oR x y]=_:=D.noConfusion (pY x y) λe=>e;have h:=Xk (Xk this).2;show D.tup [.str 53,aH<|oG x y,aH<|oR x y,aH n]=_;exact aa h.1<|aa ((Xk h.2).1) rfl
section
variable{Q:V->UT->Prop}{S:St}{f:Bool}{i:V}{W:O}{R:List O}
def Rg(e:t.en=x)(r:S.aw.length<63)(q:Q (.d .none) (UU (S.ask t) f i W R)):C (d+1) 7 [.loc 2,.d x] (UU S f i W R) Q:=e▸f7 r q
def Rc(I:Inv Al S)(r:Rm 1 S)(E:aW S a)(o:aW S b)
  (q:∀j t,dK 1 S j t (λw=>a.ev w !=b.ev w)->Q (.d t.en) (UU j f i W R)):C (U+3) 53 [.loc 1,.d a.en,.d b.en] (UU S f i W R) Q:=by
 have J:U4 1 Tt S S:=U4.refl.more<|Wz _;obtain c|⟨x,s⟩:=a
 ·obtain _|_:=c
  ·exact H.step (q S b ⟨I,J,o,λw _=>by show b.ev w=(false !=b.ev w);cases b.ev w<;>rfl⟩)
  ·exact H.step (qg<|q S b.neg ⟨I,J,dp o,λw _=>by refine aa ck ?_;show(!b.ev w)=(true !=b.ev w);cases b.ev w<;>rfl⟩)
 ·obtain c|⟨y,N⟩:=b
  ·obtain _|_:=c
   ·exact H.step (q S (.bit x s) ⟨I,J,E,λw _=>by show((ah w x==1)==s)=(((ah w x==1)==s) !=false);cases (ah w x==1)<;>cases s<;>rfl⟩)
   ·exact H.step (qg<|q S (.bit x !s) ⟨I,J,E,λw _=>by show((ah w x==1)== !s)=(((ah w x==1)==s) !=true);cases (ah w x==1)<;>cases s<;>rfl⟩)
  ·refine H.step (aX (λg=>?_) (λg=>?_))
   ·have e:=Z6<|eq_of_beq g
    subst e;refine q S (.tf<|!bP (.bool s) (.bool N)) ⟨I,J,trivial,λw _=>?_⟩;show(!bP (.bool s) (.bool N))=(((ah w x==1)==s) !=((ah w x==1)==N));rw[t9];cases (ah w x==1)<;>cases s<;>cases N<;>rfl
   ·have L:oG x y<S.n/\S.bN (oG x y)=TR:=(HW x y).elim (λe=>by exact aa e.1 E) λe=>by refine aa e.1 ?_;exact o
    have yO:oR x y<S.n/\S.bN (oR x y)=TR:=(HW x y).elim (λe=>by exact aa e.2 o) λe=>by exact aa e.2 E
    have l:∀{j c},dK 1 S j (.bit c true) (λw=>(ah w (oG x y)==1) !=(ah w (oR x y)==1))->dK 1 S j (.bit c<|bP (.bool s)<|.bool N) (λw=>(Tr.bit x s).ev w !=(Tr.bit y N).ev w):=λ{j c} T=>⟨T.I,T.e,T.ok,λw A=>by
     have h:((ah w c==1)==true)=((ah w (oG x y)==1) !=(ah w (oR x y)==1)):=T.ev w A;have h:(ah w c==1)=((ah w x==1) !=(ah w y==1)):=by
      refine aa (show(ah w c==1)=((ah w c==1)==true) by cases (ah w c==1)<;>rfl) (aa h ?_);rcases HW x y with e|e<;>rw[e.1,e.2]
      exact bne_comm
     show((ah w c==1)==bP (.bool s) (.bool N))=(((ah w x==1)==s) !=((ah w y==1)==N));rw[h,t9];cases (ah w x==1)<;>cases (ah w y==1)<;>cases s<;>cases N<;>rfl⟩
    have k:∀z∈(U5.xor (oG x y)<|oR x y).vars,z<S.n:=λz u=>(Wo.mp u).elim (λe=>e▸L.1) λh=>Wj.mp h▸yO.1;rcases g:aO (U5.xor (oG x y)<|oR x y).en S.made with _|M
    ·refine mQ (m:=TR) (pY x y) g (λp Y=>Wj.mp Y▸⟨by decide,by decide⟩) (by have:=r.n;exact fg this) I.kJ ?_
     refine Rg (AM x y S.n) (by have:=r.t;show(S.aw++[]).length<63;rw[WI];exact fg this)<|aa ft ?_;have B:∀(w:List Int)(v:Int),bH S w->iD v TR->(Told.xor (oG x y) (oR x y) S.n).holds (w++[v])=((v==1)==((ah w (oG x y)==1) !=(ah w (oR x y)==1))):=λw v A G=>by
      show((0+ah (w++[v]) (oG x y)+ah (w++[v]) (oR x y)+ah (w++[v]) S.n).fmod 2==0)=_;refine aa (bx (by rw[A.len];exact L.1)) (aa (bx (by rw[A.len];exact yO.1)) (aa (show ah (w++[v]) S.n=v by rw[<-A.len,bC]) ?_));exact Gp (gw A L) (gw A yO)<|rG.mp G
     refine q _ (.bit S.n<|bP (.bool s)<|.bool N)<|l<|iM I (λw=>(ah w (oG x y)==1) !=(ah w (oR x y)==1)) ⟨trivial,Wi rfl,?_⟩ k ?_ ?_ ?_
     ·intro z u
      obtain rfl|u:=Wo.mp u
      ·exact WM L.1
      ·obtain rfl|u:=Wo.mp u
       ·exact WM yO.1
       ·exact aa (Wj.mp u)<|WK _
     ·intro w v A G
      rw[B w v A G,agQ]
     ·exact λw v _ _ h=>h
     ·exact λw=>aa (au L.1)<|aa (au yO.1) rfl
    ·refine mY (κ:=.xor (oG x y)<|oR x y) (m:=TR) (pY x y) g (ae (I.made _ M g) λz u m=>?_)
     clear g;subst u;have m:=m trivial;refine q S (.bit z<|bP (.bool s)<|.bool N)<|l ⟨I,J,⟨m.lt,m.bool rfl⟩,λw A=>?_⟩;have:=m.says w A;change ((0+ah w (oG x y)+ah w (oR x y)+ah w z).fmod 2==0)=true at this;rw[Gp (gw A L) (gw A yO)<|gw A ⟨m.lt,m.bool rfl⟩] at this;show((ah w z==1)==true)=_;refine aa (eq_of_beq this) ?_;cases (ah w (oG x y)==1)<;>cases (ah w (oR x y)==1)<;>rfl
end
structure sI (S:St) (a b:UX):Prop where
 fa:km S.n a
 fb:km S.n b
 len:a.ps.length+b.ps.length<=24
 un:∀x,-1<=a.cf x - b.cf x/\a.cf x - b.cf x<=1
 ca:a.c.natAbs<=1000
 cb:b.c.natAbs<=1000
def sI.sP(h:sI S a b):n9 S (cj a b (-1)):=by
 refine⟨(o8 h.fa h.fb h.len λx=>?_).1,?_⟩
 ·exact aa jT<|h.un x
 ·exact aa jL<|fw h.ca h.cb rfl
def ey(i:Int):km n (.int i):=⟨Xr,λ_ h=>(nomatch h),λ_ h=>(nomatch h),Wz _⟩
def sI.Ar(h:sI S a b)(m:c.natAbs<=10):n9 S (cj (cj a b (-1)) (.int c) 1):=by
 have Y:=o8 h.fa h.fb h.len λx=>by exact aa jT<|h.un x
 refine⟨(o8 Y.1 (ey c) (Wh Y.2 h.len) λx=>?_).1,?_⟩
 ·rw[u9 h.fa.r8]
  have:=h.un x;have e:(UX.int c).cf x=0:=rfl;rw[e,ZM,jG,jT];exact this
 ·refine aa jL (aa jL ?_);exact gS h.ca h.cb m rfl
def pe(h:(a.ps.map (·.1)).Nodup)(w:List Int):(cj a b (-1)).ev w=a.ev w - b.ev w:=by exact aa (we w h) jT
def qi(G:km n a)(h:km n (cj a b (-1)))(w:List Int):(cj (cj a b (-1)) (.int c) 1).ev w=a.ev w - b.ev w+c:=by
 rw[we w h.r8,pe G.r8];have:(UX.int c).ev w=c:=XB c;refine aa this ?_;rw[Xm]
structure QT (S S':St) (κ:U5) (z:Nat):Prop where
 I:Inv Al S'
 e:U4 1 Tt S S'
 lt:z<S'.n
 says:∀w,bH S' w->κ.says w z
noncomputable def aT(z:Nat):UX:=.sum [(z,1)] 0
section
variable{Q:V->UT->Prop}{S:St}{j:Bool}{i:V}{W:O}{R:List O}
def O0{f:List Int->Int}(I:Inv Al S)(r:Rm 1 S)(N:κ.en=.tup l)(M:T.en=.tup (l++[aH S.n]))(J:l.length<=100)
  (b:iF dm) (o:CY (S.n+1) T) (Y:∀x∈κ.vars,x<S.n) (U:κ.bool=false)
  (L:∀w,bH S w->iD (f w) dm/\∀v,iD v dm->(T.holds (w++[v])↔v=f w)) (k:∀w v,bH S w->T.holds (w++[v])->κ.says (w++[v]) S.n)
  (q:∀s z,QT S s κ z->Q (.d (aT z).en) (UU s j i W R)):C (d+3) 58 [.loc 1,.d (.tup l),.d (aP dm)] (UU S j i W R) Q:=by
 refine H.step ?_;rcases g:aO κ.en S.made with _|y
 ·refine mQ N g b.small (by have:=r.n;exact fg this) I.kJ ?_
  refine ai (agO<|Wh (WB J)<|ab rfl)<|Rg M (by have:=r.t;show(S.aw++[]).length<63;rw[WI];exact fg this)<|aa ft ?_;have K:=iX I (p:=(.hash S.n,dm)) (ts:=[T]) (WC _) b (λt h=>Wj.mp h▸o) Y (λh=>by rw[U] at h;exact nomatch h) f
   (λw A=>⟨(L w A).1,λv Y=>by rw[ZV];exact(L w A).2 v Y⟩)
   (λ_ w A=>k w _ A<|((L w A).2 _ (L w A).1).mpr rfl)
  refine q _ S.n ⟨K.I,K.e,K.lt,λw A=>?_⟩;refine aq (dR A) λu v E J G=>?_;clear G;subst E;have a:=(dD I J).mp A;exact k u v a.1<|a.2.2 T<|.head _
 ·refine mY N g (ae (I.made _ y g) λz B m=>?_)
  clear g;subst B;have m:=m trivial;exact q S z ⟨I,U4.refl.more<|Wz _,m.lt,m.says⟩
def J5(L:Lo i W R)(I:Inv Al S)(r:Rm 1 S)(G:a.sG=false)(h:sI S a b)
  (q:∀s t,dK 1 S s t (λw=>a.ev w==b.ev w)->Q (.d t.en) (UU s j i W R)):C (d+6) 63 [.loc 1,.d a.en,.d b.en] (UU S j i W R) Q:=by
 refine H.step<|Mi ?_;refine bM (by refine aa G ?_;rfl) (bM G ?_);refine Cu L.low (h.fa.slim<|Wh h.ca<|ab rfl) (h.fb.slim<|Wh h.cb<|ab rfl) (ab rfl) (fw h.ca h.cb rfl)<|Me (b:=true) I r h.sP λs t T=>q s t ⟨T.I,T.e,T.ok,λw v=>?_⟩;rw[T.ev w v];delta VI;rw[agO rfl,pe h.fa.r8,XK,agQ,agQ];exact Yi
def IV(L:Lo i W R)(I:Inv Al S)(r:Rm 1 S)(G:a.sG=false)(h:sI S a b)
  (q:∀s t,dK 1 S s t (λw=>a.ev w==b.ev w)->Q (.d t.en) (UU s j i W R)):C (d+7) 64 [.loc 1,.d (.str 71),.d a.en,.d b.en] (UU S j i W R) Q:=
 H.step (J5 L I r G h λs t T=>q s t T)
def tA(L:Lo i W R)(I:Inv Al S)(r:Rm 1 S)(G:a.sG=false)(h:sI S a b)
  (q:∀s t,dK 1 S s t (λw=>a.ev w !=b.ev w)->Q (.d t.en) (UU s j i W R)):C (d+7) 64 [.loc 1,.d (.str 72),.d a.en,.d b.en] (UU S j i W R) Q:=
 H.step (J5 L I r G h λs t T=>qg<|q s t.neg ⟨T.I,T.e,dp T.ok,λw v=>by refine aa ck<|aa (T.ev w v) ?_;rfl⟩)
def tj(L:Lo i W R)(I:Inv Al S)(r:Rm 1 S)(h:sI S a b)
  (q:∀s t,dK 1 S s t (λw=>decide (a.ev w<=b.ev w))->Q (.d t.en) (UU s j i W R)):C (d+6) 64 [.loc 1,.d (.str 76),.d a.en,.d b.en] (UU S j i W R) Q:=by
 refine H.step<|Cu L.low (h.fa.slim<|Wh h.ca<|ab rfl) (h.fb.slim<|Wh h.cb<|ab rfl) (ab rfl) (fw h.ca h.cb rfl) ?_;refine Cu (b:=.int 0) L.low (h.sP.ok.slim h.sP.c) ((ey (n:=S.n) 0).slim<|ab rfl) (ab rfl) (by exact aa jL<|gS h.ca h.cb (d:=1) (ab rfl) rfl)<|Me (b:=false) I r (h.Ar<|ab rfl) λs t T=>q s t ⟨T.I,T.e,T.ok,λw v=>?_⟩;rw[T.ev w v];delta VI;rw[agP<|by decide,qi h.fa h.sP.ok];exact decide_eq_decide.mpr<|Gy
def H0(L:Lo i W R)(I:Inv Al S)(r:Rm 1 S)(h:sI S a b)
  (q:∀s t,dK 1 S s t (λw=>decide (a.ev w<b.ev w))->Q (.d t.en) (UU s j i W R)):C (d+6) 64 [.loc 1,.d (.str 75),.d a.en,.d b.en] (UU S j i W R) Q:=by
 refine H.step<|Cu L.low (h.fa.slim<|Wh h.ca<|ab rfl) (h.fb.slim<|Wh h.cb<|ab rfl) (ab rfl) (fw h.ca h.cb rfl) ?_;refine Cu (b:=.int 1) L.low (h.sP.ok.slim h.sP.c) ((ey (n:=S.n) 1).slim<|ab rfl) (ab rfl) (by exact aa jL<|gS h.ca h.cb (d:=1) (ab rfl) rfl)<|Me (b:=false) I r (h.Ar<|ab rfl) λs t T=>q s t ⟨T.I,T.e,T.ok,λw v=>?_⟩;rw[T.ev w v];delta VI;rw[agP<|by decide,qi h.fa h.sP.ok];exact decide_eq_decide.mpr<|Kh
def Jl(L:Lo i W R)(I:Inv Al S)(r:Rm 1 S)(h:sI S a b)
  (q:∀s t,dK 1 S s t (λw=>decide (b.ev w<a.ev w))->Q (.d t.en) (UU s j i W R)):C (d+7) 64 [.loc 1,.d (.str 73),.d a.en,.d b.en] (UU S j i W R) Q:=
 H.step (tj L I r h λs t T=>qg<|q s t.neg ⟨T.I,T.e,dp T.ok,λw v=>by refine aa ck<|aa (T.ev w v)<|av decide_not ?_;exact decide_eq_decide.mpr<|Yp⟩)
def Bd(L:Lo i W R)(I:Inv Al S)(r:Rm 1 S)(h:sI S a b)
  (q:∀s t,dK 1 S s t (λw=>decide (b.ev w<=a.ev w))->Q (.d t.en) (UU s j i W R)):C (d+7) 64 [.loc 1,.d (.str 74),.d a.en,.d b.en] (UU S j i W R) Q:=
 H.step (H0 L I r h λs t T=>qg<|q s t.neg ⟨T.I,T.e,dp T.ok,λw v=>by refine aa ck<|aa (T.ev w v)<|av decide_not ?_;exact decide_eq_decide.mpr<|X4⟩)
def sS(L:Lo i W R)(I:Inv Al S)(r:Rm 1 S)(h:sI S a b)
  (q:∀s,cQ Al 1 S s (λw=>a.ev w<=b.ev w)->Q (.d .none) (UU s j i W R)):C (d+6) 65 [.loc 1,.d (.str 76),.d a.en,.d b.en] (UU S j i W R) Q:=by
 refine H.step<|Cu L.low (h.fa.slim<|Wh h.ca<|ab rfl) (h.fb.slim<|Wh h.cb<|ab rfl) (ab rfl) (fw h.ca h.cb rfl) ?_;refine Cu (b:=.int 0) L.low (h.sP.ok.slim h.sP.c) ((ey (n:=S.n) 0).slim<|ab rfl) (ab rfl) (by exact aa jL<|gS h.ca h.cb (d:=1) (ab rfl) rfl)<|OU I r (h.Ar<|ab rfl) λs T=>q s ⟨T.I,T.e.iff λw _=>?_⟩;rw[qi h.fa h.sP.ok];exact Gy
def AZ(L:Lo i W R)(I:Inv Al S)(r:Rm 1 S)(h:sI S b a)
  (q:∀s,cQ Al 1 S s (λw=>b.ev w<=a.ev w)->Q (.d .none) (UU s j i W R)):C (d+7) 65 [.loc 1,.d (.str 74),.d a.en,.d b.en] (UU S j i W R) Q:=
 H.step (sS L I r h λs T=>q s T)
end
structure Pn (k:Nat) (S S':St) (z:Nat) (g:List Int->Int):Prop where
 I:Inv Al S'
 e:U4 k Tt S S'
 lt:z<S'.n
 ev:∀w,bH S' w->ah w z=g w
def yA(v:UX):plain (n+3) v.en:=by
 obtain i|⟨p,c⟩|⟨x,s⟩:=v
 ·rfl
 ·show(true&&(plain (n+2) (.tup<|p.map dk)&&(true&&true)))=true
  rw[show plain (n+2) (.tup<|p.map dk)=true from jE n p];rfl
 ·rfl
def fF(n:Nat)(g:List UX):(g.map UX.en).all (plain (n+3)):=Wt.mpr λd h=>by
 refine fc h λv _ e=>?_;clear h;subst e;exact yA v
def cx(w:List Int)(z:Nat):(aT z).ev w=ah w z:=Kw
def um(h:z<n):km n (aT z):=⟨WO.mpr ⟨WW,Xr⟩,λp Y=>Wj.mp Y▸h,λp Y=>Wj.mp Y▸ .inl rfl,Wi rfl⟩
section
variable{Q:V->UT->Prop}{S:St}{b:Bool}{c:V}{W:O}{R:List O}
def Fu(J:vs.length<=100)(q:Q (.d (.bool (vs.all UX.known))) t):C (d+3) 33 [.d (bI r vs)] t Q:=by
 refine H.step<|iB (?_:bb .no _ _ (WQ UX.en vs) [] _ _);refine bh UX.en UX.en (λv=> !v.known) (λv Y K a k=>CU<|aX (λh=>a h) (λh=>k h)) (Wh J<|ab rfl)<|bG (dj<|Wh J<|ab rfl) (ai (dh<|fF 8 _)<|Vz ?_ q);rw[YS,iG]
def RD(I:Inv Al S)(r:Rm (ac.length+1) S)(h:∀u∈ac,fj S u)(J:ac.length<=20)(o:ac≠[])(M:ac.all UX.known=false)
  (q:∀s z,Pn (ac.length+1) S s z (λw=>((ac.map (UX.ev w)).count v:Nat))->Q (.d (aT z).en) (UU s b c W R)):C (d+6) 66 [.loc 1,.d (.lst (ac.map UX.en)),.d (.int v)] (UU S b c W R) Q:=by
 refine H.step<|CU (v:=.int v)<|NW<|Fu (Wh J<|ab rfl) ?_;refine eB (by rw[M];rfl) (OA I (r.less<|W9 _) h (Wh J<|ab rfl) λp G Z=>?_);refine f0 (λL=>?_) (λgt=>?_)
 ·have e:((ac.map UX.en).length:Int)=ac.length:=by rw[Wm]
  rw[e] at L ⊢;have t:G≠[]:=λe=>o<|XM.mp (by rw[<-Z.len,e];rfl);have Y:∀(w:List Int)(u:Int),bH p w->G.map (ah<|w++[u])=G.map (ah w):=λw u y=>eh λx i=>bx (by rw[y.len];exact Z.lt x i);have j:∀(w:List Int)(u:Int),bH p w->(Told.cnt G v p.n).holds (w++[u])=(u==(((G.map<|ah w).count v:Nat):Int)):=λw u y=>by
   show(ah (w++[u]) p.n==(((G.map<|ah<|w++[u]).count v:Nat):Int))=_;rw[Y w u y,show ah (w++[u]) p.n=u by rw[<-y.len,bC]]
  refine O0 (κ:=.cnt G v) (T:=.cnt G v p.n) (f:=λw=>((G.map<|ah w).count v:Nat)) Z.I (Rm.after (k':=1) r Z.e) rfl rfl (Wi rfl) (cZ L (ab rfl)<|cy (uI J) rfl) ⟨t,?_,?_⟩ Z.lt rfl ?_ ?_ ?_
  ·show(G++[p.n]).length<=1000
   rw[Wv,Z.len];show ac.length+1<=_;exact mZ J rfl
  ·intro x i
   obtain h|h:=WH.mp i
   ·exact WM (Z.lt x h)
   ·rw[Wj.mp h];exact WK _
  ·intro w y
   refine⟨dW.mpr ⟨YD _,?_⟩,λu _=>by rw[j w u y,agQ]⟩;have:=List.count_le_length (a:=v) (l:=G.map<|ah w);rw[Wm,Z.len] at this;exact Xn.mpr this
  ·intro w u y B
   exact B
  ·intro U z N
   refine q U z ⟨N.I,Z.e.tt N.e,N.lt,λw y=>?_⟩;have:=N.says w y;change (ah w z==(((G.map<|ah w).count v:Nat):Int))=true at this;have m:=Z.ev _ (N.e.bwd w y).1;have E:G.map (ah<|w.take p.n)=G.map (ah w):=eh λx i=>au<|Z.lt x i;have A:ac.map (UX.ev<|w.take p.n)=ac.map (UX.ev w):=YN λu k=>aB<|(h u k).ok.more Z.e.le;rw[eq_of_beq this,<-E,m,A]
 ·exact agR gt (X4.mpr<|YD _)
end
def IT{t:UT}{l:List D}{x:D}(h:l.length<lim):FN tab 0 (.loc t.length) [.d x] (t++[.list l])=some (.d .none,t++[.list (l++[x])]):=aa (mc bV h)<|aa uf rfl
def L5{t:UT}{a b x:D}:zF (t++[.list [a]]) (.loc t.length) (.int (-1)) (.d x)=some (t++[.list [x]]):=by
 show(t++[O.list [a]])[t.length]?.bind (λo=>Jt (t++[O.list [a]]) t.length o (.int<|-1) x)=_;rw[bV];show some ((t++[O.list [a]]).set t.length<|O.list [x])=_;exact aa uf rfl
noncomputable def CW(u v:Int):m9:=if v<=u+1 then [(u,v)] else [(u,u),(v,v)]
def zt{x:Int}(h:J<=I):iD x (CW J I)↔x=J\/x=I:=by
 unfold CW;by_cases c:I<=J+1
 ·rw[agO c,dW];exact vM h c
 ·refine aa (agP c) ?_
  constructor
  ·rintro ⟨p,Y,m,t⟩
   obtain rfl|Y:=Wo.mp Y
   ·exact .inl (by change J<=x at m;change x<=J at t;exact Xa t m)
   ·rw[Wj.mp Y] at m t
    exact .inr (by change I<=x at m;change x<=I at t;exact Xa t m)
  ·rintro (e|e)<;>subst e
   ·exact⟨(x,x),.head _,WT _,WT _⟩
   ·exact⟨(x,x),.tail _<|.head _,WT _,WT _⟩
def BA(u:Int):strip (u,u)=[u]:=by
 show eO u (u+1 - u).toNat=[u];refine aa LP ?_;rfl
def Ig(h:J<=I)(i:J.natAbs<=1000)(a:I.natAbs<=1000):iF (CW J I):=by
 by_cases c:I<=J+1
 ·delta CW;rw[agO c];exact cZ h i a
 ·have e:CW J I=[(J,J),(I,I)]:=agP c
  refine aa e<|⟨Z8 _ _,λx g=>?_,h,λp Y=>?_,?_⟩
  ·rw[<-e,zt h] at g
   exact LR c g
  ·obtain rfl|Y:=Wo.mp Y
   ·exact⟨i,i⟩
   ·exact aa (Wj.mp Y) ⟨a,a⟩
  ·show(strip (J,J)++(strip (I,I)++[])).Nodup
   rw[BA,BA];exact WO.mpr ⟨λh=>(c<|(Wj.mp h)▸eG),WO.mpr ⟨WW,Xr⟩⟩
section
variable{Q:V->UT->Prop}{f:UT}
def AD(q:Q (.d .none) (f++[.list [iE (J,J)]])):C (U+1) 1 [.loc f.length,.d (.int J),.d (.int J)] (f++[.list []]) Q:=by
 have L:=cu (σ:=f++[.list []]) bV 0 rfl;exact H.step<|ai (fY bV)<|ec L.1 L.2<|ai (IT<|ab rfl) q
def IX(h:J<=I)(q:Q (.d .none) (f++[.list ((CW J I).map iE)])):C (U+1) 1 [.loc f.length,.d (.int I),.d (.int I)] (f++[.list [iE (J,J)]]) Q:=by
 have L:=cu (σ:=f++[.list [iE (J,J)]]) bV 0 rfl;have a:lF tab (fe tab (f++[.list [iE (J,J)]])<|.loc f.length) (.int<|-1)=some (iE (J,J)):=agN (λX=>lF tab X<|.int<|-1) (bR bV);refine H.step<|ai (fY bV)<|ai a<|aX (λg=>?_) (λg=>?_)
 ·have g:I<=J+1:=agS g
  delta CW at q;rw[agO g] at q;refine ai a<|aX (λG=>?_) (λG=>?_)
  ·exact ai a (ai (L5 (b:=.none)) q)
  ·have G:¬J<I:=agZ G
   have:J=I:=Xa h<|x5 G;clear h g G;subst this;exact q
 ·have g:¬I<=J+1:=agZ g
  delta CW at q;rw[agP g] at q;refine ec L.1 L.2<|ai (IT<|show 1<lim by decide) ?_;exact q
def f2(L:eR f)(q:∀u v,u<=v->((u=J/\v=I)\/(u=I/\v=J))->Q (.d (aP (CW u v))) f):C (U+2) 2 [.d (.tup [.int J,.int I])] f Q:=by
 obtain⟨u,v,e,h,p⟩:∃u v,U7 [J,I]=[u,v]/\u<=v/\((u=J/\v=I)\/(u=I/\v=J)):=by
  by_cases c:J<I
  ·exact⟨J,I,agO c,XH c,.inl ⟨rfl,rfl⟩⟩
  ·exact⟨I,J,agP c,x5 c,.inr ⟨rfl,rfl⟩⟩
 refine H.step<|(?_:Vb .no _ _ (WQ D.int<|U7 [J,I]) _ _ _);refine aa e<|AD ⟨trivial,IX h ⟨trivial,ai (lE bV)<|ai (lv L) ?_⟩⟩;exact q u v h p
end
inductive Th where|x|y|num (i:Int)
noncomputable def Th.d:Th->D
 |.x=> .str 1
 |.y=> .str 111
 |.num i=> .int i
noncomputable def rh(n:Int):D:=.tup [.str 14,.int 0,.int n]
def fW(n:Int):D:=match decide (0<=n) with
 |true=>rh n
 |false=> .tup [.str 19,.int 0,.str 30,rh<|0 - n]
noncomputable def nName(k:Nat):D:=.tup [.str 17,.int 0,.str k]
def Th.node:Th->D
 |.x=>nName 1
 |.y=>nName 111
 |.num i=>fW i
def Th.val:Th->UX
 |.x=>aT 0
 |.y=>aT 1
 |.num i=> .int i
noncomputable def Th.isNum:Th->Bool
 |.num _=>true
 |_=>false
def jM(ts:List Th):D:=.tup [.str 25,.int 0,.tup<|ts.map Th.node]
def fG(a b:Int):D:=.tup [.str 27,.int 0,fW a,fW b]
def zA(ns:List Int):D:=.tup [.str 28,.int 0,.tup<|ns.map fW]
noncomputable def zH:D:=.tup [.str 18,.int 0,.str 79,nName 1,nName 111]
def nArr(b:Int)(ts:List Th):D:=.tup [.str 20,.int 0,.str 44,.tup [fG b<|b+1,jM ts]]
def tx{σ:UT}{x:D}{r:List D}:FN tab 2 (.loc σ.length) [] (σ++[.list (x::r).reverse])=some (.d x,σ++[.list r.reverse]):=by
 have e:=dO (σ:=σ++[.list (x::r).reverse]) bV;show(dB _ _).bind _=_;refine aa e<|aa aaz ?_;rw[Y4];dsimp only;refine aa List.getLast?_concat<|aa List.dropLast_concat<|aa uf ?_;rfl
noncomputable abbrev Qx(X:List PS):PS:=.Gk (.cmp (.bi 0 [.v 42]) [4] [.k<|.int 0]) [.asg (.t<|.n 43)<|.me (.v 42) 2 [],.iff (.Hv (.v 43) 3) X []]
structure Uy (env:Ev->Ev) (p:Nat):Prop where
 ug:∀tl,UY (env tl) 42=some (.loc p)
 put:∀tl v,put (env tl) 43 v=env (put tl 43 v)
def Lp(C:Cl)(X:List PS)(env:Ev->Ev)(σ:UT)(K:Fl->Ev->UT->Prop)(r:List D):Prop:=∀tl,vS tab C (Qx X) (env tl) (σ++[O.list r.reverse]) K
section
variable{C:Cl}{X:List PS}{b:Ev->Ev}{a:UT}{K:Fl->Ev->UT->Prop}(h:Uy b a.length)
include h
def AO(q:∀t,K .next (b t) (a++[O.list []])):Lp C X b a K []:=λt=>
 ⟨1,ai (h.ug t)<|ai (fY bV)<|q t⟩
def wk{x:D}{r:List D}(g:∀a,o9 3 (fe tab a (.d x))=some false)(q:Lp C X b a K r):Lp C X b a K (x::r):=by
 intro t;refine af (q<|put t 43<|.d x) λn q=>⟨n+1,ai (h.ug t)<|ai (fY bV) ?_⟩;refine eB (agT (by refine aa Xy<|aa WZ ?_;exact aaX.mpr<|X9 _)) ?_;have L:=cu (σ:=a++[O.list (x::r).reverse]) bV 2 rfl;refine ai (h.ug t)<|ec L.1 L.2<|ai tx ?_;rw[<-h.put] at q;exact ai bw<|ai (g _)<|q
def uc{x:D}{r v:List D}(g:∀a,o9 3 (fe tab a (.d x))=some true)(f:Ev->Ev)
  (G:∀t Z,Z .next (b (f t)) (a++[O.list v.reverse])->da tab C X (b (put t 43 (.d x))) (a++[O.list r.reverse]) Z) (q:Lp C X b a K v):Lp C X b a K (x::r):=by
 intro t;refine af (q<|f t) λn q=>⟨n+1,ai (h.ug t)<|ai (fY bV) ?_⟩;refine eB (agT (by refine aa Xy<|aa WZ ?_;exact aaX.mpr<|X9 _)) ?_;have L:=cu (σ:=a++[O.list (x::r).reverse]) bV 2 rfl;refine ai (h.ug t)<|ec L.1 L.2<|ai tx<|ai bw<|ai (g _) ?_;have:=G t;rw[<-h.put] at this;exact this _ q
def pV{x:D}{r:List D}{v:V}(g:∀a,o9 3 (fe tab a (.d x))=some true)
  (G:∀t Z,(∀c,Z (.ret v) c (a++[O.list r.reverse]))->da tab C X (b (put t 43 (.d x))) (a++[O.list r.reverse]) Z) (q:∀c,K (.ret v) c (a++[O.list r.reverse])):Lp C X b a K (x::r):=by
 intro t;refine⟨1,ai (h.ug t)<|ai (fY bV) ?_⟩;refine eB (agT (by refine aa Xy<|aa WZ ?_;exact aaX.mpr<|X9 _)) ?_;have L:=cu (σ:=a++[O.list (x::r).reverse]) bV 2 rfl;refine ai (h.ug t)<|ec L.1 L.2<|ai tx<|ai bw<|ai (g _) ?_;have:=G t;rw[<-h.put] at this;exact this _ q
end
def tp(L:r.length<=1000)(l:h.length<=1000):FN tab 1 (.loc σ.length) [.d (.tup h)] (σ++[.list r.reverse])=some (.d .none,σ++[.list (h.reverse++r).reverse]):=by
 have e:=dO (σ:=σ++[.list r.reverse]) bV;show(dB _ _).bind _=_;rw[e,Y4];show(if r.reverse.length+h.length<=lim then some (V.d D.none,(σ++[O.list r.reverse]).set σ.length<|.list<|r.reverse++h) else none)=_;rw[agO<|Wh (Yh (by rw[Xy];exact L) l) (by decide),uf,List.reverse_append,List.reverse_reverse]
noncomputable abbrev tI(h:List D):Bool:=decide<|(2:Int)<(h.length:Int)
def LH(h:List D):Option Bool:=match tI h with
 |false=>some false
 |true=>(Vc h 0).bind λa=>(se a [.str 18,.str 19,.str 21,.str 20]).bind λb=>match b with
  |false=>some false
  |true=>(Vc h 2).bind λc=>(se c [.str 48,.str 49,.str 50,.str 51,.str 52,.str 53,.str 54,.str 29,.str 55,.str 56,.str 32]).bind λs=>match s with
   |true=>some true
   |false=>nk tab [] 8 (.d c)<|.d<|.gd 6
def nD(h:List D):Option D:=match tI h with
 |false=>some<|.str 13
 |true=>(Vc h 1).bind λa=>(o9 0<|fe tab []<|.d a).bind λb=>match b with
  |true=>Vc h 0
  |false=>some<|.str 13
def bt(h:b=true):(b==true):=by subst h;rfl
def bf(h:b=false):(b==true)=false:=by subst h;rfl
def bg(h:b=false):(b==false):=by subst h;rfl
def oA(h:o.bind f=some c):∃a,o=some a/\f a=some c:=by
 obtain _|a:=o
 ·exact nomatch h
 ·exact⟨a,rfl,h⟩
section
variable{f:UT}
noncomputable abbrev Od:List PS:=[.iff (.bo true [.cmp (.bi 0 [.v 43]) [4] [.k<|.int 2],.cmp (.sub (.v 43)<|.k<|.int 0) [8] [.tup [.k<|.str 18,.k<|.str 19,.k<|.str 21,.k<|.str 20]],.bo false [.cmp (.sub (.v 43)<|.k<|.int 2) [8] [.v 41],.cmp (.sub (.v 43)<|.k<|.int 2) [8] [.g 6]]]) [.hole] [],.ex<|.me (.v 42) 1 [.v 43]]
noncomputable abbrev JR(nd:D)(p:Nat)(tl:Ev):Ev:=(29,.d nd)::(41,.d<|.tup [.str 48,.str 49,.str 50,.str 51,.str 52,.str 53,.str 54,.str 29,.str 55,.str 56,.str 32])::(42,.loc p)::tl
def To(M:r.length<=1000)(l:h.length<=1000)(o:LH h=some false)(q:Lp B Od (JR n f.length) f K (h.reverse++r)):
  Lp B Od (JR n f.length) f K (.tup h::r):=by
 refine uc ⟨λ_=>rfl,λ_ _=>rfl⟩ (λ_=>rfl) (λt=>put t 43<|.d<|.tup h) (λt Z z=>?_) q;have U:da tab B [.ex<|.me (.v 42) 1 [.v 43]] (JR n f.length<|put t 43<|.d<|.tup h) (f++[O.list r.reverse]) Z:=by
  have L:=cu (σ:=f++[O.list r.reverse]) bV 1 rfl;exact ec L.1 L.2<|ai bw<|ai (tp M l) z
 refine ai bw ?_;rcases e:tI h with _|_
 ·exact bM (bf e) (bM e U)
 ·refine eB (bt e) (ai bw ?_)
  unfold LH at o;rw[e] at o;refine ae (oA o) λa G o=>ae (oA o) λb Q o=>ai G<|ai Q ?_;clear Q;obtain _|_:=b
  ·exact U
  ·refine ae (oA o) λc m o=>ae (oA o) λs g o=>ai bw<|ai m<|ai g ?_
   clear g;obtain _|_:=s
   ·exact ai bw (ai m<|ai o U)
   ·exact nomatch o
def TA(L:eR f)(h:∀{K:Fl->Ev->UT->Prop},(∀t,K .next (JR n f.length t) (f++[.list []]))->Lp (C d) Od (JR n f.length) f K [n])(q:Q (.d (.bool false)) f):C (d+1) 38 [.d n] f Q:=by
 refine H.step<|h (λt=>?_) [];exact ai (lv L) q
noncomputable abbrev ED:List PS:=[.asg (.t<|.n 28)<|.DG (.bo true [.cmp (.bi 0 [.v 43]) [4] [.k<|.int 2],.Hv (.sub (.v 43)<|.k<|.int 1) 0]) (.sub (.v 43)<|.k<|.int 0)<|.k<|.str 13,.iff (.bo true [.cmp (.v 28) [8] [.tup [.k<|.str 20,.k<|.str 21]],.bo false [.cmp (.sub (.v 43)<|.k<|.int 2) [8] [.at (.v 0) 66],.cmp (.sub (.v 43)<|.k<|.int 2) [8] [.g 10]]]) [.ret<|.k<|.bool false] [],.iff (.bo false [.bo true [.cmp (.v 28) [0] [.k<|.str 17],.cmp (.sub (.v 43)<|.k<|.int 2) [8] [.v 27],.not<|.call 33 [.sub (.v 27)<|.sub (.v 43)<|.k<|.int 2]],.bo true [.cmp (.v 28) [0] [.k<|.str 78],.sub (.sub (.v 43)<|.k<|.int 2)<|.k<|.int 1]]) [.ret<|.k<|.bool false] [],.iff (.bo false [.cmp (.v 28) [1] [.k<|.str 20],.cmp (.sub (.v 43)<|.k<|.int 2) [9] [.g 11],.cmp (.sub (.sub (.sub (.v 43)<|.k<|.int 3)<|.k<|.int 0)<|.k<|.int 0) [1] [.k<|.str 17]]) [.ex<|.me (.v 42) 1 [.v 43]] []]
noncomputable abbrev F0(nd:D)(p:Nat)(tl:Ev):Ev:=(0,.loc 1)::(29,.d nd)::(27,.loc 8)::(42,.loc p)::tl
def sv(g:nD h=some o)(q:da tab B ED.tail (F0 n p (put (put t 43 (.d (.tup h))) 28 (.d o))) N Z):
  da tab B ED (F0 n p (put t 43 (.d (.tup h)))) N Z:=by
 refine ai bw ?_;unfold nD at g;rcases e:tI h with _|_
 ·rw[e] at g
  cases g;exact bM (bf e)<|bM e q
 ·refine eB (bt e) (ai bw ?_)
  rw[e] at g;refine ae (oA g) λa G g=>ae (oA g) λb Q g=>ai G<|ai Q ?_;clear Q;obtain _|_:=b
  ·cases g;exact q
  ·exact ai bw (ai g q)
variable{S:St}{j:Bool}{l:V}{W:O}{R:List O}{K:Fl->Ev->UT->Prop}
def Uc(M:r.length<=1000)(T:h.length<=1000)(g:nD h=some (.str k))(N:([D.str 20,.str 21].any λy=>bP y (.str k))=false)(Q:bP (.str k) (.str 17)=false)(Y:bP (.str k) (.str 78)=false)(U:bP (.str k) (.str 20)=false)
  (q:Lp B ED (F0 n (R.length+9)) (UU S j l W R) K (h.reverse++r)):Lp B ED (F0 n (R.length+9)) (UU S j l W R) K (.tup h::r):=by
 refine uc ⟨λ_=>rfl,λ_ _=>rfl⟩ (λ_=>rfl) (λt=>put (put t 43<|.d<|.tup h) 28<|.d<|.str k) (λt Z z=>sv g ?_) q;refine ai bw<|bM (bf N)<|bM N<|ai bw<|bM (bf Q)<|eB (bg Q)<|ai bw<|bM (bf Y)<|bM Y<|ai bw ?_;refine bM (show((!bP (.str k) (.str 20))==false)=false by refine aa U ?_;rfl) (eB (show(!bP (.str k) (.str 20))=true by refine aa U ?_;rfl) ?_);have L:=cu (σ:=UU S j l W R++[O.list r.reverse]) bV 1 rfl;exact ec L.1 L.2<|ai ((fQ rfl).trans bw)<|ai (tp M T) z
def ON:nD (.str k:: .int i:: .str m::h)=some (.str k):=by
 have:tI (D.str k:: .int i:: .str m::h):=agT<|XX.mpr<|Xz 3 _;unfold nD;refine aa this ?_;rfl
def DA(M:r.length<=1000)(T:h.length<=900)
  (q:Lp B ED (F0 n (R.length+9)) (UU S j l W R) K ((.str 20:: .int i:: .str 44::h).reverse++r)):Lp B ED (F0 n (R.length+9)) (UU S j l W R) K (.tup (.str 20:: .int i:: .str 44::h)::r):=by
 refine uc ⟨λ_=>rfl,λ_ _=>rfl⟩ (λ_=>rfl) (λt=>put (put t 43<|.d<|.tup<|.str 20:: .int i:: .str 44::h) 28<|.d<|.str 20) (λt Z z=>sv ON ?_) q;refine ai bw<|ai ((fQ rfl).trans bw)<|ai ((fQ rfl).trans bw)<|ai bw<|ai bw<|ai bw<|ai ((fQ rfl).trans bw) ?_;have L:=cu (σ:=UU S j l W R++[O.list r.reverse]) bV 1 rfl;exact ec L.1 L.2<|ai ((fQ rfl).trans bw)<|ai (tp M<|Wh (Wy T 3)<|ab rfl) z
def qd(Q:([D.str 88,.str 89,.str 102,.str 90,.str 91,.str 103,.str 97,.str 98,.str 99,.str 100,.str 70,.str 11,.str 7,.str 8,.str 12,.str 104,.str 101,.str 107,.str 105,.str 92,.str 93,.str 94,.str 95,.str 96].any λy=>bP y (.str m))=true)
  (q:∀L,K (.ret (.d (.bool false))) L (UU S j l W R++[O.list r.reverse])):Lp B ED (F0 n (R.length+9)) (UU S j l W R) K (.tup (.str 20:: .int i:: .str m::h)::r):=by
 refine pV ⟨λ_=>rfl,λ_ _=>rfl⟩ (λ_=>rfl) (λt Z z=>sv ON ?_) q;exact ai bw<|ai ((fQ rfl).trans bw)<|ai ((fQ rfl).trans bw)<|eB Q<|z _
def gE{n:D}{t:Th}{r:List D}(h:t.isNum=false)
  (q:∀L,K (.ret (.d (.bool false))) L (UU S j l W R++[O.list r.reverse])):Lp (C (U+2)) ED (F0 n (R.length+9)) (UU S j l W R) K (t.node::r):=by
 obtain _|_|i:=t
 ·refine pV ⟨λ_=>rfl,λ_ _=>rfl⟩ (λ_=>rfl) (λT Z z=>sv rfl ?_) q
  exact ai bw<|ai bw<|ai ((fQ rfl).trans bw)<|ai ((fQ rfl).trans bw)<|CU (v:=aT 0)<|z _
 ·refine pV ⟨λ_=>rfl,λ_ _=>rfl⟩ (λ_=>rfl) (λT Z z=>sv rfl ?_) q
  exact ai bw<|ai bw<|ai ((fQ rfl).trans bw)<|ai ((fQ rfl).trans bw)<|CU (v:=aT 1)<|z _
 ·exact nomatch h
end
def gV{P:D->Prop}(a:P (rh i))(b:P (.tup [.str 19,.int 0,.str 30,rh (0 - i)])):P (fW i):=by
 unfold fW;cases decide (0<=i)<;>assumption
def rn(t:Th):∃l,t.node=.tup l:=by
 obtain _|_|i:=t;iterate 2 exact⟨_,rfl⟩
 ·exact gV (P:=λd=>∃l,d=.tup l) ⟨_,rfl⟩ ⟨_,rfl⟩
def uk(t:Th):plain 12 t.node:=by
 obtain _|_|i:=t
 ·rfl
 ·rfl
 ·exact gV (P:=λd=>plain 12 d=true) rfl rfl
def k8(t:List Th):nD (t.map Th.node)=some (.str 13):=by
 match t with
 |[]=>rfl
 |[_]=>rfl
 |a::b::r=>
  unfold nD;obtain _|_:=tI<|(a::b::r).map Th.node
  ·rfl
  ·refine af (rn b) λl e=>?_
   show(o9 0<|fe tab []<|.d b.node).bind _=_;refine aa e ?_;rfl
def xn(t:List Th):LH (t.map Th.node)=some false:=by
 unfold LH;rcases e:tI (t.map Th.node) with _|_
 ·rfl
 ·match t,e with
  |a::r,_=>
   show(se a.node [.str 18,.str 19,.str 21,.str 20]).bind _=_;have:se a.node [.str 18,.str 19,.str 21,.str 20]=some false:=by
    unfold se;rw[uk];refine af (rn a) λl e=>aa e ?_;rfl
   refine aa this ?_;rfl
section
variable{S:St}{g:Bool}{j:V}{W:O}{R:List O}{K:Fl->Ev->UT->Prop}{B:Cl}{c:D}{r:List D}
abbrev iC(S:St)(g:Bool)(j:V)(W:O)(R:List O)(K:Fl->Ev->UT->Prop)(B:Cl)(c:D)(r:List D):Prop:=Lp B ED (F0 c<|R.length+9) (UU S g j W R) K r
def dq(h:∀f,o9 3 (fe tab f (.d x))=some false)(q:iC S g j W R K B c r):iC S g j W R K B c (x::r):=
 wk ⟨λ_=>rfl,λ_ _=>rfl⟩ h q
def bW(l:r.length<=900)(L:h.length<=50)(f:nD h=some (.str k))(N:(WV 20 k||(WV 21 k||false))=false)(n:(WV k 17||(WV k 78||WV k 20))=false)(q:iC S g j W R K B c (h.reverse++r)):iC S g j W R K B c (.tup h::r):=
 have m:=Zw.mp n;have t:=Zw.mp m.2
 Uc (Wh l<|ab rfl) (Wh L<|ab rfl) f N m.1 t.1 t.2 q
def Rh(h:n<=800):n+3<=900:=Wh (Wy h 3)<|ab rfl
def Bg(l:r.length<=900)(q:iC S g j W R K B c r):iC S g j W R K B c (rh n::r):=
 bW l (Wi rfl) op3' rfl rfl (dq (λ_=>rfl) (dq (λ_=>rfl) (dq (λ_=>rfl) q)))
where op3' {b:D}:nD [.str 14,.int 0,b]=some (.str 14):=rfl
def Vv(l:r.length<=800)(q:iC S g j W R K B c r):iC S g j W R K B c (fW i::r):=
 gV (P:=λd=>iC S g j W R K B c<|d::r) (Bg (Wh l<|ab rfl) q)
  (bW (k:=19) (Wh l<|ab rfl) (Wi rfl) ON rfl rfl<|Bg (Rh l)<|dq (λ_=>rfl) (dq (λ_=>rfl) (dq (λ_=>rfl) q)))
def z7{U:List Th}(h:U.all Th.isNum)(l:r.length+U.length<=700)(q:iC S g j W R K B c r):iC S g j W R K B c (U.map Th.node++r):=by
 induction U with
 |nil=>exact q
 |cons u U I=>
  have h:=WE.mp h;obtain _|_|i:=u;iterate 2 exact nomatch h.1
  ·refine Vv (r:=U.map Th.node++r) ?_ (I h.2<|Wh (W9 _) l)
   rw[Wv,Wm,Xj];exact Wh (W9 _)<|Wh l<|ab rfl
def Vw{t:List Th}(h:t.all Th.isNum)(l:r.length+t.length<=600)(L:t.length<=50)(q:iC S g j W R K B c r):iC S g j W R K B c (jM t::r):=by
 have o:=Wh (WD ..) l;refine bW (Wh o<|ab rfl) (show 3<=50 by decide) rfl rfl rfl<|bW (up3'<|Wh o<|ab rfl) (by rw[Wm];exact L) (k8 t) rfl rfl<|av Zc<|z7 (by exact aa acq h) ?_ (dq (λ_=>rfl) (dq (λ_=>rfl) q));exact aa Xy<|wm l
where up3' {n:Nat} (h:n<=800):n+2<=900:=Wh (Wy h 2) (ab rfl)
def pz(l:r.length<=700)(q:iC S g j W R K B c r):iC S g j W R K B c (fG a b::r):=
 bW (Wh l<|ab rfl) (Wi rfl) op27 rfl rfl
  (Vv (Wh (Wy l 3)<|ab rfl)<|Vv (Wh (Wy l 2)<|ab rfl)<|dq (λ_=>rfl) (dq (λ_=>rfl) q))
where op27:nD [.str 27,.int 0,fW a,fW b]=some (.str 27):=rfl
def Cg(l:r.length+M.length<=600)(L:M.length<=50)(q:iC S g j W R K B c r):iC S g j W R K B c (zA M::r):=by
 have o:=Wh (WD ..) l;have e:M.map fW=(M.map Th.num).map Th.node:=by refine aa Xu ?_;rfl
 have a:∀M:List Int,(M.map Th.num).all Th.isNum:=λM=>by exact aa Zr<|Wt.mpr λ_ _=>rfl
 refine bW (Wh o<|ab rfl) (show 3<=50 by decide) rfl rfl rfl<|bW (Vw.up3'<|Wh o<|ab rfl) (by rw[Wm];exact L) (e▸k8 _) rfl rfl<|aa e (av Zc<|av Zc<|z7 (a _) ?_<|dq (λ_=>rfl) (dq (λ_=>rfl) q));rw[Wm,Xy];exact wm l
def Ge(l:r.length<=500)(L:t.length<=50)(q:iC S g j W R K B c (jM t::fG b (b+1):: .str 44:: .int 0:: .str 20::r)):iC S g j W R K B c (nArr b t::r):=
 DA (Wh l<|ab rfl) (show 1<=900 by decide) (bW (Wh (Wy l 3)<|ab rfl) (show 2<=50 by decide) rfl rfl rfl q)
abbrev gW(f:UT)(K:Fl->Ev->UT->Prop)(B:Cl)(c:D)(r:List D):Prop:=Lp B Od (JR c f.length) f K r
variable{f:UT}
def cq(h:∀f,o9 3 (fe tab f (.d x))=some false)(q:gW f K B c r):gW f K B c (x::r):=
 wk ⟨λ_=>rfl,λ_ _=>rfl⟩ h q
def jw(l:r.length<=900)(L:h.length<=50)(o:LH h=some false)(q:gW f K B c (h.reverse++r)):gW f K B c (.tup h::r):=
 To (Wh l<|ab rfl) (Wh L<|ab rfl) o q
def GL(l:r.length<=900)(q:gW f K B c r):gW f K B c (rh n::r):=
 jw l (Wi rfl) rfl (cq (λ_=>rfl) (cq (λ_=>rfl) (cq (λ_=>rfl) q)))
def uS(l:r.length<=800)(q:gW f K B c r):gW f K B c (fW i::r):=
 gV (P:=λd=>gW f K B c<|d::r) (GL (Wh l<|ab rfl) q)
  (jw (Wh l<|ab rfl) (Wi rfl) rfl<|GL (Rh l)<|cq (λ_=>rfl) (cq (λ_=>rfl) (cq (λ_=>rfl) q)))
def jN(l:r.length<=900)(q:gW f K B c r):gW f K B c (nName k::r):=
 jw l (Wi rfl) rfl (cq (λ_=>rfl) (cq (λ_=>rfl) (cq (λ_=>rfl) q)))
def HS{t:Th}(l:r.length<=800)(q:gW f K B c r):gW f K B c (t.node::r):=by
 obtain _|_|i:=t;iterate 2 exact jN (Wh l<|ab rfl) q
 ·exact uS l q
def C5{U:List Th}(l:r.length+U.length<=700)(q:gW f K B c r):gW f K B c (U.map Th.node++r):=by
 induction U with
 |nil=>exact q
 |cons u U i=>
  refine HS (r:=U.map Th.node++r) ?_<|i<|Wh (W9 _) l;rw[Wv,Wm,Xj];exact Wh (W9 _)<|Wh l<|ab rfl
def Am{t:List Th}(l:r.length+t.length<=600)(L:t.length<=50)(q:gW f K B c r):gW f K B c (jM t::r):=by
 have o:=Wh (WD ..) l;refine jw (Wh o<|ab rfl) (show 3<=50 by decide) rfl<|jw (Vw.up3'<|Wh o<|ab rfl) (by rw[Wm];exact L) (xn t)<|av Zc (C5 ?_<|cq (λ_=>rfl) (cq (λ_=>rfl) q));exact aa Xy<|wm l
def uu(l:r.length<=700)(q:gW f K B c r):gW f K B c (fG a b::r):=
 jw (Wh l<|ab rfl) (Wi rfl) rfl
  (uS (Wh (Wy l 3)<|ab rfl)<|uS (Wh (Wy l 2)<|ab rfl)<|cq (λ_=>rfl) (cq (λ_=>rfl) q))
def HP(l:r.length<=700)(q:gW f K B c r):gW f K B c (zH::r):=
 jw (Wh l<|ab rfl) (Wi rfl) rfl
  (jN (Wh (Wy l 4)<|ab rfl)<|jN (Wh (Wy l 3)<|ab rfl)<|cq (λ_=>rfl) (cq (λ_=>rfl) (cq (λ_=>rfl) q)))
def LQ(l:t.length<=50)(q:gW f K B c []):gW f K B c [nArr b t]:=jw (Wi rfl) (Wi rfl) rfl<|jw (Wi rfl) (Wi rfl) rfl<|Am (gy l rfl) l<|uu (Wi rfl)<|cq (λ_=>rfl) (cq (λ_=>rfl) (cq (λ_=>rfl) q))
end
section
variable{S:St}{c:Bool}{a:V}{W:O}{R:List O}{Q:V->UT->Prop}{b:D}{d:Nat}
def FP(L:Lo a W R)(h:∀{K:Fl->Ev->UT->Prop},iC S c a W R K (C (d+2)) b []->iC S c a W R K (C (d+2)) b [b])(q:Q (.d (.bool true)) (UU S c a W R)):C (d+3) 69 [.loc 1,.d b,.loc 8] (UU S c a W R) Q:=by
 refine H.step<|h (AO ⟨λ_=>rfl,λ_ _=>rfl⟩ λt=>?_) [];exact ai (ay L) q
def qP(L:Lo a W R)(h:∀{K:Fl->Ev->UT->Prop},(∀e r,K (.ret (.d (.bool false))) e (UU S c a W R++[O.list r]))->iC S c a W R K (C (d+2)) b [b])(q:Q (.d (.bool false)) (UU S c a W R)):C (d+3) 69 [.loc 1,.d b,.loc 8] (UU S c a W R) Q:=by
 refine H.step<|h (λe r=>?_) [];exact ai (ay L) q
def QX(L:eR t)(h:∀{K:Fl->Ev->UT->Prop},gW t K (C d) b []->gW t K (C d) b [b])(q:Q (.d (.bool false)) t):C (d+1) 38 [.d b] t Q:=
 TA L (λk=>h<|AO ⟨λ_=>rfl,λ_ _=>rfl⟩ k) q
def Ex{U:List Th}{K:Fl->Ev->UT->Prop}{r:List D}(h:U.all Th.isNum=false)(l:r.length+U.length<=700)(q:∀L r,K (.ret (.d (.bool false))) L (UU S c a W R++[O.list r])):iC S c a W R K (C (d+2)) b (U.map Th.node++r):=by
 induction U with
 |nil=>cases h
 |cons u U I=>
  rcases e:u.isNum with _|_
  ·exact gE e (q · _)
  ·obtain _|_|i:=u
   iterate 2 cases e
   ·refine Vv (r:=U.map Th.node++r) ?_ (I h<|Wh (W9 _) l)
    rw[Wv,Wm,Xj];exact Wh (W9 _)<|Wh l<|ab rfl
def zJ{t:List Th}{K:Fl->Ev->UT->Prop}{r:List D}(h:t.all Th.isNum=false)(l:r.length+t.length<=600)(T:t.length<=50)(q:∀L r,K (.ret (.d (.bool false))) L (UU S c a W R++[O.list r])):iC S c a W R K (C (d+2)) b (jM t::r):=by
 have o:=Wh (WD ..) l;refine bW (Wh o<|ab rfl) (show 3<=50 by decide) rfl rfl rfl<|bW (Vw.up3'<|Wh o<|ab rfl) (by rw[Wm];exact T) (k8 t) rfl rfl<|av Zc<|Ex (by exact aa acq h) ?_ q;exact aa Xy<|wm l
end
def gj{A:Nat->Prop}(h:o=some c)(q:A c):(match (generalizing:=false) o with|some c=>A c|none=>N):=by
 subst h;exact q
def UQ{Q:V->UT->Prop}(e:x=y)(q:Q (.d y) t):Q (.d x) t:=e▸q
def Qc:aU a (b+1 - a).toNat=(strip (a,b)).map aI:=yQ a _
def B3(ns:List Int):List Int:=U7<|iq ns
def CB(h:n.length<=4)(e:fC n):ER tab 5 [.d (.lst (n.map aI))] t=some (.d (.lst ((B3 n).map aI)),t):=by
 show(if (1:Nat)=1/\(n.map aI).length<=4 then (cP<|n.map aI).bind (λn=>if fC n=true then some (V.d<|.lst<|(U7<|iq n).map D.int,t) else none) else none)=_;rw[agO ⟨rfl,by rw[Wm];exact h⟩,dP];exact agO e
section
variable{Q:V->UT->Prop}{g:UT}{p d:Nat}
def JW(q:Q (.d (.int i)) g):C (d+1) 17 [.d (.int i),s] g Q:=H.step q
def Lk(q:Q (.d (.bool false)) g):C (d+1) 15 [.d (cC n)] g Q:=by
 refine H.step ?_
 match n with
 |[]=>exact q
 |[_]=>exact q
 |[_,_]=>exact q
 |a::b::c::r=>exact q
def Oe(q:Q (.d (cC n)) g):C (d+3) 18 [.d (cC n),s] g Q:=
 H.step (H.step<|Lk q)
def UP(h:b - a<100000)(G:a.natAbs<=1000)(T:b.natAbs<=1000)(q:Q (.d (cC (strip (a,b)))) g):C (d+1) 21 [.d (.int a),.d (.int b)] g Q:=by
 have J:(b+1).natAbs<=500000:=Wh (XQ b 1)<|Wh (Wy T 1)<|ab rfl;exact H.step<|bM (agY<|Yp.mpr h)<|ai (agO ⟨Wh G<|ab rfl,J⟩)<|UQ (agN D.tup Qc) q
variable(l:nu g (.loc p)=some 1)
include l
omit l in
def v5(q:Q (.d (.int n)) g):C (d+1) 24 [.loc p,.d (rh n)] g Q:=H.step q
def vf(h:i.natAbs<=1000000)(q:Q (.d (.int i)) g):C (d+4) 24 [.loc p,.d (fW i)] g Q:=by
 refine gV (P:=λx=>C (d+4) 24 [.loc p,.d x] g Q) (v5 q) (H.step<|gj l<|H.step<|gj l<|v5<|JW<|Og (?_:(-(0 - i)).natAbs<=1000000)<|HZ (j:=i) (GR) q);exact aa GR h
def Ru{L:Type}{xs:List L}{en f:L->D}(J:xs.length<=100)(G:∀x∈xs,∀K:V->UT->Prop,K (.d (f x)) g->C d 24 [.loc p,.d (en x)] g K)(q:Q (.d (.lst (xs.map f))) g):
  C (d+1) 25 [.loc p,.d (.tup (xs.map en))] g Q:=by
 refine H.step (?_:bb .no _ _ (WQ en xs) [] _ _);exact fh en f (λx h K k=>gj l<|G x h _<|k) (Wh J<|ab rfl) (bG (aQ<|Wh J<|ab rfl) q)
def iJ{ns:List Int}(J:ns.length<=100)(m:∀n∈ns,n.natAbs<=1000000)(q:Q (.d (.lst (ns.map aI))) g):C (d+5) 25 [.loc p,.d (.tup (ns.map fW))] g Q:=
 Ru l J (λn h K k=>vf l (m n h) k) q
def nX(h:I - J<100000)(G:J.natAbs<=1000)(T:I.natAbs<=1000)(q:Q (.d (cC (strip (J,I)))) g):C (d+7) 24 [.loc p,.d (fG J I)] g Q:=by
 refine H.step<|gj l<|H.step<|gj l<|iJ l (ns:=[J,I]) (Wi rfl) (λn m=>?_) (JW<|JW<|UP h G T q);obtain e|e:=Wo.mp m
 ·exact aa e<|Wh G (ab rfl)
 ·exact aa (Wj.mp e)<|Wh T (ab rfl)
omit l in
def D7(n:List Int):(n.map Th.num).map Th.node=n.map fW:=by refine aa Xu ?_;rfl
def xJ(h:M.length<=100)(m:∀n∈M,n.natAbs<=1000000)(q:Q (.d (.lst ((M.map UX.int).map UX.en))) g):C (d+5) 25 [.loc p,.d (.tup ((M.map Th.num).map Th.node))] g Q:=by
 rw[D7];rw[Xu] at q;exact iJ l h m q
def uw(h:M.length<=100)(m:∀n∈M,n.natAbs<=1000000)(q:Q (.d (bI [(1,M.length)] (M.map UX.int))) g):C (d+7) 24 [.loc p,.d (jM (M.map Th.num))] g Q:=by
 refine H.step<|gj l<|H.step<|gj l<|xJ l h m<|NW ?_;rw[Wm];exact q
def qj(J:M.length<=4)(e:fC M)(m:∀n∈M,n.natAbs<=1000000)(q:Q (.d (cC (B3 M))) g):C (d+7) 24 [.loc p,.d (zA M)] g Q:=by
 refine H.step<|gj l<|H.step<|gj l<|iJ l (Wh J<|ab rfl) m (?_:bb .no _ _ (WQ aI M) [] _ _);exact fh aI aI (λx h K k=>JW<|k) (Wh J<|ab rfl) (bG (aQ<|Wh J<|ab rfl)<|ai (CB J e) q)
end
def VZ(a b:Int):a+b - a=b:=by rw[XJ,XS]
def r0(h:∀n∈N,n.natAbs<=62):fC N:=Wt.mpr λn m=>agT<|KD<|h n m
def qa(h:J.natAbs<=60)(M:62<=U):∀n∈[J,J+2],n.natAbs<=U:=λn m=>by
 obtain e|e:=Wo.mp m
 ·exact aa e<|Wh h (Wh (ab rfl) M)
 ·exact aa (Wj.mp e)<|Wh (XQ J 2) (Wh (Wy h 2) M)
def yO(a:Int):a<a+2:=abt a<|by decide
def FA(a:Int):B3 [a,a+2]=[a,a+2]:=by
 show U7 (a::[a+2].filter (· !=a))=_;exact aa Zd<|aa (agO<|ag0.mpr<|abI<|yO a)<|agO<|yO a
def FR(a:Int):CW a (a+2)=[(a,a),(a+2,a+2)]:=agP λh=>agR (Int.add_le_add_iff_left a|>.mp h)<|by decide
set_option genCtorIdx false in
inductive Pl where
 |kW (a b:Int)|s0|s1 (a:Int)|s2 (a:Int)
def Pl.node:Pl->D
 |.kW a b=>fG a b
 |.s0=>zA []
 |.s1 a=>zA [a]
 |.s2 a=>zA [a,a+2]
noncomputable def Pl.bN:Pl->m9
 |.kW a b=>match decide (a<=b) with
  |true=>[(a,b)]
  |false=>[]
 |.s0=>[]
 |.s1 a=>[(a,a)]
 |.s2 a=>[(a,a),(a+2,a+2)]
def Pl.ok:Pl->Prop
 |.kW a b=>a.natAbs<=60/\b.natAbs<=60
 |.s0=>True
 |.s1 a=>a.natAbs<=60
 |.s2 a=>a.natAbs<=60
section
variable{Q:V->UT->Prop}{c:UT}{p d:Nat}
def Rn(A:eR c)(h:l.length=2)(q:Q (.d (.tup [.tup [iE (b,b+1)],.lst l])) c):
  C (d+4) 30 [.d (.str 44),.d (.lst [cC [b,b+1],.tup [.tup [iE (1,2)],.lst l]]),s] c Q:=by
 refine H.step<|Oe ⟨trivial,H.step<|H.step ?_⟩;have e:(b+1 - b+1==2):=by rw[VZ];rfl
 refine bM (agN (!·) e) ?_;have L:=cu (σ:=c++[.list []]) bV 0 rfl;refine ec L.1 L.2<|ai (IT<|ab rfl) ⟨trivial,?_⟩;have E:((1*2:Int)==(l.length:Int)):=by refine aa h ?_;rfl
 exact bM (agN (!·) E)<|ai (lE bV)<|ai (lv A) q
def RI{some:D}{s:V}(q:C d 30 [.d (.str 44),.d some,s] t Q):C (d+1) 29 [.d (.str 44),.d some,s] t Q:=H.step q
def Hx(h:eR c)(q:Q (.d (.tup [])) c):C (d+2) 2 [.d (.tup [])] c Q:=
 H.step (ai (lE bV)<|ai (lv h) q)
def HV(h:eR c)(q:Q (.d (aP [(a,a)])) c):C (d+2) 2 [.d (.tup [.int a])] c Q:=
 H.step (AD ⟨trivial,ai (lE bV)<|ai (lv h) q⟩)
variable(i:nu c (.loc p)=some 1)
include i
def E7{ns:List Int}(A:eR c)(T:J.natAbs<=60)(a:ns.length=2)(m:∀n∈ns,n.natAbs<=1000000)(q:Q (.d (bI [(J,J+1)] (ns.map UX.int))) c):C (d+10) 24 [.loc p,.d (nArr J (ns.map Th.num))] c Q:=by
 refine H.step<|gj i ?_;have h:J+1 - J<100000:=by rw[VZ];decide
 have t:(J+1).natAbs<=1000:=Wh (XQ J 1)<|Wh (Wy T 1)<|ab rfl;have e:strip (J,J+1)=[J,J+1]:=by
  show eO J (J+1+1 - J).toNat=_;rw[Xc,VZ];rfl
 refine Ru i (xs:=[fG J<|J+1,jM<|ns.map Th.num]) (en:=id) (f:=λx=>match x with|.tup (.str 27::_)=>cC [J,J+1]|_=>bI [(1,2)]<|ns.map UX.int) (Wi rfl) (λx g Z z=>?_) ?_
 ·obtain E|E:=Wo.mp g
  ·clear g;subst E
   exact nX i h (Wh T<|ab rfl) t<|by exact aa e z
  ·clear g;obtain rfl:=Wj.mp E
   exact uw i (a▸by decide) m (by exact aa a z)
 ·refine RI (Rn A (by rw[Wm,Wm,a]) q)
def Ri{P:Pl}(A:eR c)(h:P.ok)(q:Q (.d (aP P.bN)) c):C (d+8) 28 [.loc p,.d P.node] c Q:=by
 obtain⟨a,b⟩|_|a|a:=P
 ·refine H.step (gj i<|iJ i (ns:=[a,b]) (Wi rfl) (λn m=>?_) (JW<|JW<|f0 (λg=>?_) (λg=>?_)))
  ·obtain e|e:=Wo.mp m
   ·exact aa e<|Wh h.1 (ab rfl)
   ·exact aa (Wj.mp e)<|Wh h.2 (ab rfl)
  ·rw[Pl.bN,agT g] at q;exact q
  ·rw[Pl.bN,agY<|Yp.mpr g] at q;exact q
 ·exact H.step (gj i<|qj i (Wi rfl) rfl (λ_ h=>nomatch h) (Oe<|Hx A q))
 ·have f:fC [a]:=r0 λn m=>by refine aa (Wj.mp m) ?_;exact Wh h<|ab rfl
  exact H.step<|gj i<|qj i (Wi rfl) f (λn m=>by exact aa (Wj.mp m)<|Wh h (ab rfl)) (Oe<|HV A q)
 ·refine H.step (gj i<|qj i (Wi rfl) (r0<|qa h<|WC _) (qa h<|ab rfl) ?_)
  rw[FA];refine Oe<|f2 A λu v h g=>?_;obtain⟨E,w⟩|⟨E,w⟩:=g
  ·rw[E,w,FR];exact q
  ·rw[E,w] at h;exact agR h<|Yp.mpr<|yO a
end
def fP:nu (σ++[.inst 1 [(27,.loc 8)]]) (.loc σ.length)=some 1:=by
 show(tr (σ++[O.inst 1 [(27,.loc 8)]])[σ.length]?).map (·.1)=_;refine aa bV ?_;rfl
def CD{o:O}(h:o.below U)(l:U<=Y):o.below Y:=by
 obtain _|_|⟨c,fs⟩|_:=o;iterate 2 rfl
 ·refine Wt.mpr λp b=>?_
  have:=Wt.mp h p b;clear b;obtain⟨a,v⟩:=p;obtain x|k:=v
  ·rfl
  ·exact agT (Ww (agS this) l)
 rfl
def tX{fr:Bool}(L:Lo p W R):eR (UU S fr p W (R++[.inst 1 [(27,.loc 8)]])):=by
 have h:=L.low (S:=S) (fr:=fr);have e:UU S fr p W (R++[O.inst 1 [(27,.loc 8)]])=UU S fr p W R++[O.inst 1 [(27,.loc 8)]]:=rfl;refine aa e ?_;show(UU S fr p W R++[O.inst 1 [(27,.loc 8)]]).all (O.below (UU S fr p W R++[O.inst 1 [(27,.loc 8)]]).length)=true;refine aa aaO<|aa Wv<|WE.mpr ⟨Wt.mpr λo f=>?_,?_⟩
 ·exact CD (Wt.mp h o f) (WD ..)
 ·show(decide (8<R.length+9+1)&&true)&&true=true
  refine aa (agT<|Ww (by decide:8<10) (Wy (Xz 9 _) 1)) ?_;rfl
section
variable{S:St}{f:Bool}{c:V}{W:O}{R:List O}{Q:V->UT->Prop}{nd x:D}{d:Nat}
def qt(h:Vc l 0=some (.str k))(n:WV k 21=false)(q:Q (.d (.tup l)) t):C (d+1) 41 [.d (.tup l)] t Q:=
 H.step (ai h<|bM (show((!Nat.beq k 21)==false)=false by refine aa n ?_;rfl) (eB (show(!Nat.beq k 21)=true by refine aa n ?_;rfl) q))
def P6(q:Q (.d .none) (t++[.inst 1 [(27,v)]])):C (d+1) 23 [.loc t.length,v] (t++[.inst 1 []]) Q:=by
 refine H.step<|ai (a:=t++[.inst 1 [(27,v)]]) ?_ ?_;rotate_left
 ·exact q
 show(tr (t++[O.inst 1 []])[t.length]?).map (λp=>(t++[O.inst 1 []]).set t.length<|.inst p.1<|put p.2 27 v)=_;exact aa bV<|agN some uf
def BY(h:∀{Z:V->UT->Prop},Z (.d (.bool false)) (UU S f c W R)->C d 69 [.loc 1,.d nd,.loc 8] (UU S f c W R) Z)(L:Lo c W R)(q:Q (.d .none) (UU S f c W R)):C (d+1) 71 [.loc 1,.d nd,.loc 8,.d b] (UU S f c W R) Q:=
 H.step (h<|ai (jK L.low) q)
def Fw(h:∀{Z:V->UT->Prop},Z (.d (.bool true)) (UU S f c W R)->C (d+1) 69 [.loc 1,.d nd,.loc 8] (UU S f c W R) Z)(L:Lo c W R)
  (g:∀{Z:V->UT->Prop},Z (.d x) (UU S f c W (R++[.inst 1 [(27,.loc 8)]]))->C (d+1) 24 [.loc (R.length+9),.d nd] (UU S f c W (R++[.inst 1 [(27,.loc 8)]])) Z)
  (q:Q (.d x) (UU S f c W R)):C (d+2) 71 [.loc 1,.d nd,.loc 8,.d b] (UU S f c W R) Q:=H.step<|h<|P6<|gj (fP)<|g<|ai (ay L) q
abbrev SS(C:Cl)(nd:D)(n:Nat)(Q:Kv):Kv:=λv σ=>da tab C (QG.drop 2) [(0,.loc 1),(29,.d nd),(27,.loc 8),(3,v)] σ<|Kn.en n true Q
def zx(g:∀{Z:V->UT->Prop},Z (.d nd) (UU S f c W R)->C (d+1) 41 [.d nd] (UU S f c W R) Z)(L:Lo c W R)
  (B:∀{K:Fl->Ev->UT->Prop},gW (UU S f c W R) K (C d) nd []->gW (UU S f c W R) K (C d) nd [nd])
  (h:∀(b:Bool)(Z:V->UT->Prop),(∀v t,SS (C (d+1)) nd (R.length+9) Q v t->Z v t)->C (d+1) 71 [.loc 1,.d nd,.loc 8,.d (.bool b)] (UU S f c W R) Z):C (d+2) 70 [.loc 1,.d nd,.loc 8] (UU S f c W R) Q:=by
 refine H.step<|g ?_;obtain e|⟨k,_,e⟩:=L.pt
 ·clear g;subst e
  exact QX L.low B<|h true _ λv t z=>z
 ·clear g L B;subst e
  exact h false _ λv t z=>z
def kY(j:∀{Z:V->UT->Prop},Z (.d nd) (UU S f c W R)->C (d+2) 41 [.d nd] (UU S f c W R) Z)(L:Lo c W R)(i:fi (.d x)=false)
  (B:∀{K:Fl->Ev->UT->Prop},gW (UU S f c W R) K (C (d+1)) nd []->gW (UU S f c W R) K (C (d+1)) nd [nd])
  (h:∀{Z:V->UT->Prop},Z (.d (.bool true)) (UU S f c W R)->C (d+1) 69 [.loc 1,.d nd,.loc 8] (UU S f c W R) Z)
  (g:∀{Z:V->UT->Prop},Z (.d x) (UU S f c W (R++[.inst 1 [(27,.loc 8)]]))->C (d+1) 24 [.loc (R.length+9),.d nd] (UU S f c W (R++[.inst 1 [(27,.loc 8)]])) Z)
  (q:Q (.d x) (UU S f c W R)):C (d+3) 70 [.loc 1,.d nd,.loc 8] (UU S f c W R) Q:=
 zx j L B λb Z z=>Fw h L g<|z _ _<|eB (agN (!·) i) q
def mP(g:∀{Z:V->UT->Prop},Z (.d nd) (UU S f c W R)->C (d+1) 41 [.d nd] (UU S f c W R) Z)(L:Lo c W R)
  (B:∀{K:Fl->Ev->UT->Prop},gW (UU S f c W R) K (C d) nd []->gW (UU S f c W R) K (C d) nd [nd])
  (h:∀{Z:V->UT->Prop},Z (.d (.bool false)) (UU S f c W R)->C d 69 [.loc 1,.d nd,.loc 8] (UU S f c W R) Z)
  (q:da tab (C (d+1)) (QG.drop 3) [(0,.loc 1),(29,.d nd),(27,.loc 8),(3,.d .none)] (UU S f c W R) (Kn.en (R.length+9) true Q)):C (d+2) 70 [.loc 1,.d nd,.loc 8] (UU S f c W R) Q:=
 zx g L B λb Z z=>BY h L<|z _ _ q
def Th.cJ(t:Th):Prop:=∀i,t=.num i->i.natAbs<=1000
def DS(q:Q (.d (fW i)) t):C (d+1) 41 [.d (fW i)] t Q:=
 gV (P:=λx=>Q (.d x) t->C (d+1) 41 [.d x] t Q) (qt rfl rfl) (qt rfl rfl) q
def yI{t:Th}(L:Lo c W R)(h:t.cJ)(q:Q (.d t.val.en) (UU S f c W R)):C (d+10) 70 [.loc 1,.d t.node,.loc 8] (UU S f c W R) Q:=by
 obtain _|_|i:=t;iterate 2 exact mP (qt rfl rfl) L (jN<|Wz _) (qP L λk=>gE rfl (k · _)) q
 ·exact kY (x:=.int i) (DS) L rfl (uS<|Wz _) (FP L<|Vv<|Wz _) (vf (fP (σ:=UU S f c W R))<|Wh (h i rfl)<|ab rfl) q
end
def F3(h:T.all Th.isNum):∃n:List Int,T=n.map Th.num:=by
 induction T with
 |nil=>exact⟨[],rfl⟩
 |cons t T I=>
  have h:=WE.mp h;refine af (I h.2) λn e=>?_;obtain _|_|i:=t;iterate 2 exact nomatch h.1
  ·exact⟨i::n,by refine aa e ?_;rfl⟩
def Ci(n:List Int):(n.map Th.num).map Th.val=n.map UX.int:=by refine aa Xu ?_;rfl
def wW(h:∀t∈M.map Th.num,t.cJ):∀n∈M,n.natAbs<=1000000:=λn m=>Wh (h _ (Yd m) n rfl)<|ab rfl
noncomputable def Rw:UX:=.sum [(0,1),(1,1)] 0
def iN:w6 k (aT z):=⟨by show 1<=24;decide,WO.mpr ⟨WW,Xr⟩,λp h=>Wj.mp h▸(by decide:(1:Int).natAbs<=10),Wz _⟩
section
variable{S:St}{b:Bool}{a:V}{W:O}{R:List O}{Q:V->UT->Prop}{d:Nat}
def DU{T:List Th}{A:List D}{B:D->UT->Kd->Prop}(L:Lo a W R)(M:∀t∈T,t.cJ)(h:T.length<=50)(G:∀(t:Th) Z,C (d+10) 70 [.loc 1,.d t.node,.loc 8] (UU S b a W R) (Kn.e2 Z)->B t.node (UU S b a W R) Z)
  (q:K ((T.map Th.val).map UX.en) (UU S b a W R)):bb .no A B (T.map Th.node) [] (UU S b a W R) K:=
 aZ Th.node Th.val UX.en (λt o Z z=>G t Z<|yI L (M t o) z) (Wh h<|ab rfl) q
def ej{T:List Th}(L:Lo a W R)(M:∀t∈T,t.cJ)(h:T.length<=50)(q:Q (.d (bI [(1,T.length)] (T.map Th.val))) (UU S b a W R)):C (d+12) 70 [.loc 1,.d (jM T),.loc 8] (UU S b a W R) Q:=by
 have l:([]:List D).length+T.length<=600:=by rw[List.length_nil,Yx];exact Wh h<|ab rfl
 rcases e:T.all Th.isNum with _|_
 ·refine mP (qt rfl rfl) L (Am l h) (qP L λk=>zJ e l h k) ((?_:bb .no _ _ (WQ Th.node T) [] _ _))
  refine DU L M h (λt Z z=>z) (bG (aQ<|Wh (Xf (Wm ..))<|Wh h<|ab rfl)<|NW ?_);rw[Wm];exact q
 ·refine kY (qt rfl rfl) L rfl (Am l h) (FP L<|Vw e l h) (λz=>?_) q
  refine af (F3 e) λn e=>?_;clear q l;subst e;rw[Ci,Wm] at z;rw[Wm] at h;exact uw (fP (σ:=UU S b a W R)) (Wh h<|ab rfl) (wW M) z
def yT(L:Lo a W R)(q:Q (.d Rw.en) (UU S b a W R)):C (d+13) 70 [.loc 1,.d zH,.loc 8] (UU S b a W R) Q:=by
 refine mP (qt rfl rfl) L (HP<|Wz _) (qP L λk=>?_) ?_
 ·exact bW (k:=18) (Wz _) (Wi rfl) rfl rfl rfl (gE (t:=.y) rfl (k · _))
 ·exact yI (t:=.x) L (λ_ h=>nomatch h) (yI (t:=.y) L (λ_ h=>nomatch h) (H.step<|Cu L.low iN iN (ab rfl) (ab rfl) q))
end
def yE(b:Int):strip (b,b+1)=[b,b+1]:=by
 show eO b (b+1+1 - b).toNat=_;rw[Xc,VZ];rfl
def wO:plain 11 (bI r v):=by
 show(plain 10 (.tup<|r.map iE)&&(plain 10 (.lst<|v.map UX.en)&&true))=true;rw[show plain 10 (.tup<|r.map iE)=true from jB 8 r,show plain 10 (.lst<|v.map UX.en)=true from fF 6 v];rfl
def fH(h:J.natAbs<=60):(J+1).natAbs<=1000:=Wh (XQ J 1)<|Wh (Wy h 1)<|ab rfl
section
variable{S:St}{f:Bool}{c:V}{W:O}{R:List O}{Q:V->UT->Prop}{d:Nat}{g:UT}
def QL(q:Q (.d (.bool true)) g):C (d+2) 33 [.d (cC [a,b])] g Q:=
 H.step (Lk<|H.step<|H.step q)
def yG(L:Lo c W R)(h:b.natAbs<=60)(q:Q (.d (cC [b,b+1])) (UU S f c W R)):C (d+11) 70 [.loc 1,.d (fG b (b+1)),.loc 8] (UU S f c W R) Q:=by
 refine kY (nd:=fG b<|b+1) (qt rfl rfl) L rfl (uu<|Wz _) (FP L<|pz<|Wz _) (nX (fP (σ:=UU S f c W R)) (by rw[VZ];decide) (Wh h<|ab rfl) (fH h)) ?_;rw[yE];exact q
def Um(A:eR g)(h:(v.known&&w.known)=false)(q:Q (.d (bI [(b,b+1)] [v,w])) g):
  C (d+6) 73 [.loc 1,.d (.str 44),.d (.lst [cC [b,b+1],bI [(1,2)] [v,w]]),.d (.int 0)] g Q:=by
 have e:[v,w].all UX.known=false:=by
  show(v.known&&(w.known&&true))=false;rw[XT];exact h
 refine H.step<|QL ⟨trivial,Fu (Wi rfl) ?_⟩;refine eB (show(!([v,w].all UX.known))=true by refine aa e ?_;rfl) ⟨trivial,ai (dh (by show(plain 11 (bI [(1,2)] [v,w])&&true)=true;refine aa wO ?_;rfl)) ?_⟩;exact NW (vs:=[.int 0,.int 0])<|RI<|Rn A (b:=b) rfl q
def uR(L:Lo c W R)(h:b.natAbs<=60)(o:t.cJ)(l:r.natAbs<=1000)(q:Q (.d (bI [(b,b+1)] [t.val,.int r])) (UU S f c W R)):
  C (d+14) 70 [.loc 1,.d (nArr b [t,.num r]),.loc 8] (UU S f c W R) Q:=by
 have E:∀{K:Fl->Ev->UT->Prop}{B:Cl},gW (UU S f c W R) K B (nArr b [t,.num r]) []->gW (UU S f c W R) K B (nArr b [t,.num r]) [nArr b [t,.num r]]:=λk=>LQ (show 2<=50 by decide) k;rcases e:t.isNum with _|_
 ·refine mP (qt rfl rfl) L E (qP L λk=>?_) ?_
  ·refine Ge (Wz _) (show 2<=50 by decide) (zJ ?_ (Wi rfl) (Wi rfl) k)
   show(t.isNum&&true)=false;refine aa e ?_;rfl
  ·refine yG L h ⟨trivial,?_⟩
   refine ej L (λu j=>?_) (Wi rfl) ⟨trivial,Um L.low ?_ q⟩
   ·obtain e|e:=Wo.mp j
    ·exact aa e o
    ·refine aa (Wj.mp e) ?_;exact λi T=>by cases T;exact l
   ·clear o q E;obtain _|_|i:=t
    iterate 2 rfl
    ·cases e
 ·obtain _|_|i:=t
  iterate 2 cases e
  ·refine kY (qt rfl rfl) L rfl E (FP L λk=>?_) (λz=>?_) q
   ·exact Ge (Wz _) (show 2<=50 by decide) (Vw rfl (Wi rfl) (Wi rfl)<|pz (Wi rfl)<|dq (λ_=>rfl) (dq (λ_=>rfl) (dq (λ_=>rfl) k)))
   ·refine E7 (fP (σ:=UU S f c W R)) (ns:=[i,r]) (tX L) h rfl (λn m=>?_) z
    obtain e|e:=Wo.mp m
    ·exact aa e<|Wh (o i rfl) (ab rfl)
    ·exact aa (Wj.mp e)<|Wh l (ab rfl)
end
def DO(g:x∉r.map (·.1)):bp (Vk x) r=0:=by
 induction r with
 |nil=>rfl
 |cons q r i=>
  show q.2*ah (Vk x) q.1+bp (Vk x) r=0;have n:q.1≠x:=λe=>g (e▸Wr ..);rw[i λh=>g<|Wu _ h,gC,agP n,ZM];rfl
def Hi(h:km n v)(x:Nat):v.cf x=0\/v.cf x=1\/v.cf x= -1:=by
 by_cases g:x∈v.ps.map (·.1)
 ·refine fc g λp Y e=>?_;clear g;subst e
  delta UX.cf;rw[AL h.r8 Y];exact .inr<|h.un p Y
 ·exact .inl (DO g)
def Q6(h:a=0\/a=1\/a= -1): -1<=a/\a<=1:=by rcases h with e|e|e<;>subst e<;>decide
structure Nv (S:St) (v:UX):Prop where
 ok:km S.n v
 c:v.c.natAbs<=1000
def Nv.ext(h:Nv S v)(e:U4 k j S s):Nv s v:=⟨h.ok.more e.le,h.c⟩
def Nv.cmp(h:Nv S v)(G:a.natAbs<=1000):sI S v (.int a):=
 ⟨h.ok,ey a,h.ok.len,λx=>by rw[show(UX.int a).cf x=0 from rfl,abH];exact Q6<|Hi h.ok x,h.c,G⟩
def bJ(w:List Int)(a:Int):(UX.int a).ev w=a:=XB a
noncomputable def inD(i:Int)(d:m9):Bool:=d.any λp=>decide (p.1<=i)&&decide (i<=p.2)
def Cd{T:List Tr}(h:∀t∈T,aW S t)(w:List Int):T.any (Tr.ev (w.take S.n))=T.any (Tr.ev w):=by
 induction T with
 |nil=>rfl
 |cons t T i=>rw[W5,W5,i λu j=>h u<|.tail _ j,aN<|h t<|.head _]
structure PY (k:Nat) (S S':St) (T:List Tr) (φ:List Int->Bool):Prop where
 I:Inv Al S'
 e:U4 k Tt S S'
 ok:∀t∈T,aW S' t
 ev:∀w,bH S' w->T.any (Tr.ev w)=φ w
def hJ(T:dK k S m t d)(e:U4 l j m s)(U:∀w,d (w.take m.n)=d w)(h:bH s w):t.ev w=d w:=by
 rw[<-aN T.ok,T.ev _ (e.bwd w h).1,U]
section
variable{S:St}{b:Bool}{a:V}{W:O}{R:List O}{Q:V->UT->Prop}{d:Nat}{c:UT}
def OJ{T:List Tr}(V:LV (UU S b a W R) x (T.map Tr.en) j)(L:Lo a W R)(I:Inv Al S)(r:Rm 5 S)(g:∀t∈T,aW S t)(h:T.length<=3)
  (q:∀s t,dK 5 S s t (λw=>T.any (Tr.ev w))->Q (.d t.en) (UU s b a W R)):C (d+4) 52 [.loc 1,x] (UU S b a W R) Q:=by
 have Y:T.length<=lim:=Wh h<|ab rfl;refine H.step<|ai V.it (?_:bb j _ _ (WQ Tr.en T) [] _ _);refine ff Tr.en Tr.neg Tr.en V.dx (λt o Q k=>qg<|k) Y (bG (aQ (by rw[Wm];exact Y)) ?_);refine HM L I r (λt o=>by refine fc o λu i E=>?_;clear o;subst E;exact dp<|g u i) (by rw[Wm];exact h) λs t Z=>?_;refine qg<|q s t.neg ⟨Z.I,Z.e,dp Z.ok,λw v=>?_⟩;rw[ck,Z.ev w v];delta aR;rw[Zr,abl];exact agN (!·)<|agN (λf=>T.all f) (funext λt=>ck)
def EG:
  ∀{z:m9}{S:St}{T:List Tr}{tl:Ev},Lo a W R->Inv Al S->Rm (7*z.length) S->(∀t∈T,aW S t)->Nv S v->(∀p∈z,p.1.natAbs<=1000/\p.2.natAbs<=1000)->T.length+z.length<=3->
   (∀s T' tl,T'.length<=T.length+z.length->PY (7*z.length) S s T' (λw=>T.any (Tr.ev w)||inD (v.ev w) z)->K .next ((0,.loc 1)::(23,.d v.en)::(12,.d (aP all'))::(3,.loc (R.length+9))::tl) (UU s b a W (R++[.list (T'.map Tr.en)])))->
   Vb .no am (Kn.fb (da tab (C (d+7)) [(.ex (.me (.v 3) 0 [(.me (.v 0) 24 [(.ls false [(.me (.v 0) 34 [(.k (.str 74)),(.v 23),(.v 1)]),(.me (.v 0) 34 [(.k (.str 76)),(.v 23),(.v 2)])])])]))]) (.t [(.n 1),(.n 2)]))
    (z.map iE) ((0,.loc 1)::(23,.d v.en)::(12,.d (aP all'))::(3,.loc (R.length+9))::tl) (UU S b a W (R++[.list (T.map Tr.en)])) K:=by
 intro z
 induction z with
 |nil=>
  intro S T tl L I r M g _ _ q;exact q S T tl (WC _) ⟨I,U4.refl,M,λw _=>(XC _).symm⟩
 |cons p z i=>
  intro S T tl L I r M g Y J q;have NZ:=Y p<|.head _;have L':Lo a W (R++[.list<|T.map Tr.en]):=L.more λ_=>rfl;rw[WZ] at r J;have l:=r.less (by rw[aby];exact K0);have A:=cu (σ:=UU S b a W<|R++[.list<|T.map Tr.en]) aA 0 rfl;refine ec A.1 A.2<|ai ((fQ rfl).trans bw)<|Bd L' I (l.less (WD ..)) (g.cmp NZ.1) λo t1 T1=>ai bw ?_;have G:=Rm.after l T1.e;refine tj L' T1.I (G.less (WD ..)) ((g.ext T1.e).cmp NZ.2) λm t2 B=>?_;have r3:=Rm.after G B.e;refine HM (T:=[t1,t2]) L' B.I (r3.less (WD ..)) (λu j=>?_) (Wi rfl) λN t3 T3=>?_
  ·obtain e|e:=Wo.mp j
   ·exact aa e<|T1.ok.ext B.e
   ·exact aa (Wj.mp e) B.ok
  have E:=(T1.e.tt B.e).tt T3.e;have ag:=g.ext E;refine ai (mc aA (by rw[Wm];exact WJ (tM J)<|ab rfl)) ⟨trivial,?_⟩;have al:∀t∈T++[t3],aW N t:=λu j=>(WH.mp j).elim (λh=>(M u h).ext E) λe=>Wj.mp e▸T3.ok;have:=i (S:=N) (T:=T++[t3]) (tl:=put (put tl 1<|.d<|.int p.1) 2<|.d<|.int p.2) L T3.I (Rm.after r3 T3.e) al ag (λq y=>Y q<|.tail _ y) (by refine aa Wv ?_;show T.length+1+z.length<=3;exact mz J) λS4 T4 ac l4 Z=>?_
  ·rw[W8,<-kR] at this
   exact this
  ·refine q S4 T4 ac (by rw[Wv] at l4;exact G7 l4) ⟨Z.I,by rw[WZ,aby,Xj];exact E.tt Z.e,Z.ok,λw x=>?_⟩
   have f:=(Z.e.bwd w x).1;rw[Z.ev w x,List.any_append,W5,Yv,XC,Bool.or_assoc];have e3:t3.ev w=(decide (p.1<=v.ev w)&&decide (v.ev w<=p.2)):=by
    refine av (aN T3.ok)<|aa (T3.ev _ f) ?_;show(t1.ev _&&(t2.ev _&&true))=_;rw[hJ T1 (B.e.tt T3.e) (λw=>by rw[aB<|(g.ext T1.e).ok,bJ,bJ]) f,hJ B T3.e (λw=>by rw[aB<|(g.ext<|T1.e.tt B.e).ok,bJ,bJ]) f,bJ,bJ,aB ag.ok,XT]
   refine aa e3 ?_;rfl
def Sp{k:Nat}(L:Lo a W R)(I:Inv Al S)(r:Rm 19 S)(f:Nv S v)(Y:∀p∈i,p.1.natAbs<=1000/\p.2.natAbs<=1000)(J:i.length<=2)
  (q:∀s t,dK 19 S s t (λw=>inD (v.ev w) i)->Q (.d t.en) (UU s b a W R)):C (d+8) 78 [.loc 1,.d v.en,.d (aP i)] (UU S b a W R) Q:=by
 have z:=Zg 7 J;refine H.step (?_:Vb .no _ _ (WQ iE i) _ _ _);refine EG (T:=[]) (tl:=[]) L I (r.less<|Wh z<|ab rfl) (λ_ h=>nomatch h) f Y (Wh (Xf<|Yx _)<|Wh J<|ab rfl) λm N tl l Z=>?_;have U:=Rm.after (r.less<|Wy z 5) Z.e;refine OJ (LV.loc aA) (L.more λ_=>rfl) Z.I U Z.ok (Wh l (by show 0+i.length<=3;exact gy J rfl)) λg M B=>ai (ay L)<|q g M ⟨B.I,(Z.e.tt B.e).more<|Wy z 5,B.ok,λw x=>?_⟩;rw[B.ev w x,<-Cd Z.ok,Z.ev _ (B.e.bwd w x).1,Yv,Z0,aB (f.ext Z.e).ok]
end
def Nv.L4(h:Nv S v)(G:a.natAbs<=1000):sI S (.int a) v:=
 ⟨ey a,h.ok,by show 0+v.ps.length<=24;rw[Yx];exact h.ok.len,λx=>by
  rw[show(UX.int a).cf x=0 from rfl,adf];have:=Q6<|Hi h.ok x;exact⟨ZT this.2,ZT this.1⟩,G,h.c⟩
def dy(a:U4 k Tt S m)(b:U4 l c m s)(h:∀w,bH m w->(c w↔i (w.take S.n))):U4 (k+l) i S s:=
 (a.trans b h).iff λ_ _=>⟨λp=>p.2,λp=>⟨trivial,p⟩⟩
def cQ.and{P:U5->Prop}{j Y χ:List Int->Prop}(a:cQ P k S m j)(b:cQ P l m s Y)(h:∀w,bH m w->(Y w↔χ (w.take S.n))):cQ P (k+l) S s (λw=>j w/\χ w):=
 ⟨b.I,a.e.trans b.e h⟩
def Fv:((J<=I/\I<=J+2)/\(I<=J\/J+2<=I))↔(I=J\/I=J+2):=
 ⟨λh=>h.2.imp (λg=>Xa g h.1.1) (λg=>Xa h.1.2 g),λh=>h.elim
  (λe=>e▸⟨⟨WT _,XH<|yO _⟩,.inl<|WT _⟩) (λe=>e.symm▸⟨⟨XH<|yO _,WT _⟩,.inr<|WT _⟩)⟩
section
variable{S:St}{f:Bool}{c:V}{W:O}{R:List O}{Q:V->UT->Prop}{d:Nat}{g:UT}
def UD{P:Pl}(L:Lo c W R)(h:P.ok)(q:Q (.d (aP P.bN)) (UU S f c W R)):C (d+9) 68 [.loc 1,.d P.node,.loc 8] (UU S f c W R) Q:=by
 have e:fi (.d P.node)=false:=by clear h q;cases P<;>rfl
 exact H.step<|bM e<|P6<|gj (fP)<|Ri (fP) (tX L) h<|ai (ay L) q
def TU{P:Pl}(L:Lo c W R)(h:P.ok)(q:Q (.d (aP P.bN)) (UU S f c W R)):C (d+9) 39 [.d P.node,.loc 8] (UU S f c W R) Q:=H.step<|P6<|gj (fP)<|Ri (fP) (tX L) h<|ai (ay L) q
def FK{v:UX}(L:Lo c W R)(I:Inv Al S)(r:Rm 1 S)(q:∀s,cQ Al 1 S s (λ_=>False)->Q (.d .none) (UU s f c W R)):C (d+8) 82 [.loc 1,.d v.en,.d (aP [])] (UU S f c W R) Q:=H.step<|pM (T:=[]) (LV.loc<|aA (R:=R)) I r (λ_ h=>nomatch h) (Wz _) λm Z=>ai (ay L)<|q m ⟨Z.I,Z.e.iff λw _=>⟨λh=>(nomatch h),λh=>h.elim⟩⟩
def EP(L:Lo c W R)(I:Inv Al S)(r:Rm 2 S)(Y:Nv S v)(G:a.natAbs<=1000)(h:b.natAbs<=1000)
  (q:∀s,cQ Al 2 S s (λw=>a<=v.ev w/\v.ev w<=b)->Q (.d .none) (UU s f c W R)):C (d+8) 82 [.loc 1,.d v.en,.d (aP [(a,b)])] (UU S f c W R) Q:=by
 refine H.step<|AZ L I (r.less<|ab rfl) (Y.L4 G) λm z=>sS L z.I (Rm.after r z.e) ((Y.ext z.e).cmp h) λU i=>ai (jK L.low)<|q U ?_;have:=z.and i (χ:=λw=>v.ev w<=b) λw x=>by rw[bJ,aB Y.ok]
 exact⟨this.I,this.e.iff λw _=>by rw[bJ]⟩
def Ds(L:Lo c W R)(I:Inv Al S)(r:Rm 5 S)(Y:Nv S v)(G:a.natAbs<=60)
  (q:∀s,cQ Al 5 S s (λw=>v.ev w=a\/v.ev w=a+2)->Q (.d .none) (UU s f c W R)):C (d+8) 82 [.loc 1,.d v.en,.d (aP [(a,a),(a+2,a+2)])] (UU S f c W R) Q:=by
 have h:a.natAbs<=1000:=Wh G<|ab rfl;have t:(a+2).natAbs<=1000:=qa G (ab rfl) _<|.tail _<|.head _;refine H.step<|AZ L I (r.less<|ab rfl) (Y.L4 h) λm z=>sS L z.I (Rm.after (r.less<|ab rfl) z.e) ((Y.ext z.e).cmp t) λU n=>?_;have A:=z.and n (χ:=λw=>v.ev w<=a+2) λw x=>by rw[bJ,aB Y.ok]
 have b:=Rm.after (k':=3) r A.e;have M:=Y.ext A.e;refine tj L A.I (b.less<|ab rfl) (M.cmp h) λJ p l=>Bd L l.I (Rm.after (b.less<|ab rfl) l.e) ((M.ext l.e).cmp t) λj N y=>?_;have E:=l.e.tt y.e;refine pM (T:=[p,N]) LV.val y.I (Rm.after (k:=2) (k':=1) b E) (λu i=>?_) (Wi rfl) λo Z5=>?_
 ·obtain e|e:=Wo.mp i
  ·rw[e];exact l.ok.ext y.e
  ·rw[Wj.mp e];exact y.ok
 refine⟨trivial,ai (jK L.low)<|q o ?_⟩;have B:cQ Al 3 U o (λw=>v.ev w<=a\/a+2<=v.ev w):=⟨Z5.I,dy E Z5.e λw x=>by
  rw[W5,W5,Yv,XC,ZF,hJ l y.e (λw=>by rw[aB (M.ext l.e).ok,bJ,bJ]) x,y.ev w x,bJ,bJ,agU,agU,aB M.ok]⟩
 have D:=A.and B (χ:=λw=>v.ev w<=a\/a+2<=v.ev w) λw x=>by rw[aB Y.ok]
 exact⟨D.I,D.e.iff λw _=>by rw[bJ];exact Fv⟩
end
noncomputable def Tr.val:Tr->UX
 |.tf b=> .int (if b then 1 else 0)
 |.bit x s=> .bit x s
def Eu{t:Tr}(h:∀x∈t.vs,ah M x=0\/ah M x=1):t.val.ev M=if t.ev M then 1 else 0:=by
 obtain b|⟨x,s⟩:=t
 ·exact XB _
 ·show(if s then 1 else -1)*ah M x+0+(if s then 0 else 1)=if ((ah M x==1)==s)=true then 1 else 0
  rcases h x (.head _) with e|e<;>refine aa e ?_<;>cases s<;>rfl
def c7(t:Tr):List Tr:=if same t (.tf true) then [] else [t]
section
variable{S:St}{c:Bool}{W:O}{a b:List O}
def eW:(UU S c p W (a++o::b))[a.length+9]?=some o:=bV
def Dv:(UU S c p W (a++o::b)).set (a.length+9) y=UU S c p W (a++y::b):=by
 have:(a++o::b).set a.length y=a++y::b:=by rw[aag (h:=WC _),Yq];rfl
 delta UU;rw[<-this];rfl
end
section
variable{S:St}{c:Bool}{f:V}{W:O}{R a R1:List O}{Q:V->UT->Prop}{d:Nat}{h:UT}
def O9(I:Inv Al S)(r:Rm 1 S)(g:aW S t)(q:∀s,cQ Al 1 S s (λw=>t.ev w=true)->Q (.d .none) (UU s c (.d .none) W R)):C (d+3) 57 [.loc 1,.d t.en] (UU S c (.d .none) W R) Q:=
 H.step (pM LV.val I r (λu i=>Wj.mp i▸g) (Wi rfl) λs Z=>q s ⟨Z.I,Z.e.iff λw _=>by rw[W5,Yv,XC]⟩)
def Lh(g:N.length<=100)(q:Q (.d .none) (UU S c (.loc (a.length+9)) W (a++ .list ((N++c7 t).map Tr.en)::R1))):
  C (d+1) 57 [.loc 1,.d t.en] (UU S c (.loc (a.length+9)) W (a++ .list (N.map Tr.en)::R1)) Q:=by
 refine H.step<|ai (iS (u:=.tf true)) ?_;unfold c7 at q;rcases e:same t (.tf true) with _|_
 ·rw[e,agP<|by decide,W8] at q
  have A:=cu (σ:=UU S c (.loc<|a.length+9) W<|a++ .list (N.map Tr.en)::R1) eW 0 rfl;refine ec A.1 A.2<|ai (mc eW (by rw[Wm];exact WJ g<|ab rfl)) ?_;rw[<-Dv] at q;exact q
 ·rw[e,agO rfl,WI] at q;exact q
def PZ(I:Inv Al S)(r:Rm 2 S)(m:n9 S u)(t:n9 S x)(q:∀s,cQ Al 2 S s (λw=>u.ev w<=0/\x.ev w<=0)->Q (.d (.bool true)) (UU s c (.d .none) W (R++ .list [u.en,x.en]::R1))):
  C (d+6) 61 [.loc 1,.loc (R.length+9)] (UU S c (.d .none) W (R++ .list [u.en,x.en]::R1)) Q:=by
 refine H.step<|ai (LV.loc eW).it<|OU I (r.less<|ab rfl) m λn z=>⟨eW,?_⟩;refine OU z.I (Rm.after r z.e) (t.ext z.e) λU Y=>⟨eW,?_⟩;exact q U<|z.and Y λw v=>by rw[aB t.ok]
def PV(Y:f=.loc (a.length+9))(L:Lo f W (a++ .list []:: .list [p.en,y.en]::R1))(I:Inv Al S)(r:Rm 7 S)(m:n9 S p)(v:n9 S y)
  (q:∀s t,dK 7 S s t (λw=>decide (p.ev w<=0)&&decide (y.ev w<=0))->Q (.d t.en) (UU s c (.loc (a.length+9)) W (a++ .list ((c7 t).map Tr.en):: .list [p.en,y.en]::R1))):
  C (d+6) 61 [.loc 1,.loc (a.length+10)] (UU S c f W (a++ .list []:: .list [p.en,y.en]::R1)) Q:=by
 subst Y;have g:∀{S:St},(UU S c (.loc<|a.length+9) W<|a++ .list []:: .list [p.en,y.en]::R1)[a.length+10]?=some (.list [p.en,y.en]):=λ{S}=>by
  show(a++O.list []:: .list [p.en,y.en]::R1)[a.length+1]?=_;rw[Xs<|W9 _,ac9<|WC _,Yq];rfl
 refine H.step<|ai (LV.loc g).it<|Me (b:=false) I (r.less<|ab rfl) m λn l j=>⟨g,?_⟩;refine Me (b:=false) j.I (Rm.after (k:=1) (k':=1) (r.less<|ab rfl) j.e) (v.ext j.e) λU J B=>⟨g,?_⟩;have E:=j.e.tt B.e;refine HM (T:=[l,J]) L B.I (Rm.after (k:=2) (k':=5) r E) (λu i=>?_) (Wi rfl) λG z o=>?_
 ·obtain e|e:=Wo.mp i
  ·rw[e];exact j.ok.ext B.e
  ·rw[Wj.mp e];exact B.ok
 refine Lh (N:=[]) (Wz _) (R1:=.list [p.en,y.en]::R1)<|q G z ⟨o.I,E.tt o.e,o.ok,λw x=>?_⟩;rw[o.ev w x];show(l.ev w&&(J.ev w&&true))=_;rw[hJ j (B.e.tt o.e) (λw=>by rw[aB (m.ext j.e).ok]) x,hJ B o.e (λw=>by rw[aB (v.ext E).ok]) x,XT];rfl
end
def Dg{t:Tr}(h:∀x∈t.vs,x<U):km U t.val:=by
 obtain b|⟨x,s⟩:=t
 ·exact ey _
 ·exact⟨WO.mpr ⟨WW,Xr⟩,λp Y=>Wj.mp Y▸h x (.head _),λp Y=>by refine aa (Wj.mp Y) ?_;clear h Y;cases s;exact .inr rfl;exact .inl rfl,Wi rfl⟩
def Af(h:aW S t):∀x∈t.vs,x<S.n/\S.bN x=TR:=by
 obtain b|⟨x,s⟩:=t
 ·exact λ_ h=>nomatch h
 ·exact λy a=>Wj.mp a▸h
def zO{S:St}{t:Tr}(h:aW S t):fj S t.val:=by
 have ok:=Dg λx g=>(Af h x g).1;obtain b|⟨x,s⟩:=t
 ·clear h;cases b<;>exact⟨⟨ok,Wi rfl⟩,Wi rfl,Wi rfl⟩
 ·have e:eU S (Tr.bit x s).val=(0,1):=by
   show pK S (_,_) (x,_)=_;delta pK;rw[h.2];clear h ok;cases s<;>rfl
  exact⟨⟨ok,by clear h ok e;cases s<;>exact Wi rfl⟩,by refine aa e ?_;decide,by refine aa e ?_;decide⟩
def u5(h:aW S t)(v:bH S w):t.val.ev w=if t.ev w then 1 else 0:=Eu λx g=>gw v<|Af h x g
def ux(h:ah w b=if t then 1 else 0):(Told.imp b l).holds w↔(t=true->l.holds w):=by
 show((ah w b==0)||l.holds w)=true↔_;refine aa h ?_;clear h;obtain _|_:=t
 ·exact⟨λ_ h=>(nomatch h),λ_=>rfl⟩
 ·exact⟨λh _=>h,λh=>h rfl⟩
def Es:(nq.mk true [1,-1] [z,y] 0).holds w↔ah w z=ah w y:=by
 show(0+1*ah w z+ -1*ah w y - 0==0)=true↔_;rw[agQ];exact Mr
def Fc:(nq.mk true [1] [z] c).holds w↔ah w z=c:=by
 show(0+1*ah w z - c==0)=true↔_;rw[agQ];exact ME
structure OZ (S S':St) (y:Nat) (t:Tr) (z:Nat):Prop where
 I:Inv Al S'
 e:U4 5 Tt S S'
 lt:z<S'.n
 ev:∀w,bH S' w->ah w z=if t.ev w then ah w y else 1
section
variable{S:St}{f:Bool}{i:V}{W:O}{R:List O}{Q:V->UT->Prop}{d:Nat}{j:UT}{P:U5->Prop}
def Pm{t:Tr}(q:Q (.d (m7 t.val.ps t.val.c)) j):C (d+2) 34 [.d t.en] j Q:=by
 obtain b|⟨x,s⟩:=t
 ·cases b<;>exact H.step (H.step<|H.step q)
 ·exact HJ q
def Mg(I:Inv P S)(L:∀p c,P (.sum p c))(r:Rm 1 S)(h:aW S t)(q:∀s z,A4 P S s t.val z->Q (.d (aH z)) (UU s f i W R)):C (d+4) 45 [.loc 1,.d t.en] (UU S f i W R) Q:=
 have F:=zO h
 H.step (Pm<|iO I (L _ _) r ⟨F.ok.r8,F.ok.lt,F.ok.un,F.ok.len⟩ F.c ⟨F.lo,F.hi⟩ λs z R=>q s z ⟨R.I,R.e,R.lt,R.ev⟩)
def Ui(I:Inv Al S)(r:Rm 5 S)(h:aW S t)(c:y<S.n)(ax:∀w,bH S w->t.ev w->1<=ah w y/\ah w y<=2)
  (q:∀l z,OZ S l y t z->Q (.d (aH z)) (UU l f i W R)):C (d+5) 59 [.loc 1,.d (aH y),.d t.en,.d (aP [(1,2)])] (UU S f i W R) Q:=by
 refine H.step ?_;rcases g:aO (U5.aS y t [(1,2)]).en S.made with _|x
 ·refine jg (κ:=.aS y t [(1,2)]) (m:=[(1,2)]) g (λp Y=>Wj.mp Y▸⟨by decide,by decide⟩) (by have:=r.n;exact fg this) I.kJ ?_
  have I1:=rK I (p:=(.hash S.n,[(1,2)])) (κ:=.aS y t [(1,2)])<|cZ (by decide) (ab rfl) (ab rfl);have n1:(S.push (.hash S.n,[(1,2)]) []<|S.made++[((U5.aS y t [(1,2)]).en,aH S.n)]).n=S.n+1:=bA;have t1:(S.push (.hash S.n,[(1,2)]) []<|S.made++[((U5.aS y t [(1,2)]).en,aH S.n)]).aw.length=S.aw.length:=by show(S.aw++[]).length=_;rw[WI]
  have T:Rm 4 (S.push (.hash S.n,[(1,2)]) []<|S.made++[((U5.aS y t [(1,2)]).en,aH S.n)]):=⟨by rw[n1];have:=r.n;exact this,by rw[t1];have:=r.t;exact Yz<|K6 this⟩;have ag:aW (S.push (.hash S.n,[(1,2)]) []<|S.made++[((U5.aS y t [(1,2)]).en,aH S.n)]) t:=by
   clear ax q g I1 t1 T;cases t with
   |tf b=>trivial
   |bit x s=>exact⟨by rw[n1];exact WM h.1,(eE h.1).trans h.2⟩
  have kp:∀x d,aO x S.made=some d->aO x (S.made++[((U5.aS y t [(1,2)]).en,aH S.n)])=some d:=λx d h=>by rw[d7,h]
  have gz:aO (U5.aS y t [(1,2)]).en (S.made++[((U5.aS y t [(1,2)]).en,aH S.n)])=some (aH S.n):=by
   rw[d7,g];show(match bP _ _ with|true=>some (aH S.n)|false=>none)=_;exact aa (pX<|U5.kd _) rfl
  have ac:∀{k:Nat}{ψ:List Int->Prop}{U:St},U4 k ψ (S.push (.hash S.n,[(1,2)]) []<|S.made++[((U5.aS y t [(1,2)]).en,aH S.n)]) U->
    (∀w v,bH S w->iD v [(1,2)]->(ψ (w++[v])↔v=if t.ev w then ah w y else 1))->U4 (k+1) Tt S U/\∀w,bH U w->ah w S.n=if t.ev (w.take S.n) then ah (w.take S.n) y else 1:=λE h=>sg I (p:=(.hash S.n,[(1,2)])) kp E (λw=>if t.ev w then ah w y else 1) (λw A=>by
   cases e:t.ev w with
   |true=>exact dW.mpr<|ax w A e
   |false=>exact dW.mpr ⟨WT 1,(by decide:(1:Int)<=2)⟩) h
  have ar:aO (U5.aS y t [(1,2)]).en (S.push (.hash S.n,[(1,2)]) []<|S.made++[((U5.aS y t [(1,2)]).en,aH S.n)]).made=some (aH S.n):=gz;generalize S.push (.hash S.n,[(1,2)]) [] (S.made++[((U5.aS y t [(1,2)]).en,aH S.n)])=L at I1 n1 T ag ac ar ⊢;have lz:S.n<L.n:=n1▸WK _;have ly:y<L.n:=n1▸WM c;refine Mg I1 (λ_ _ e=>nomatch e) (T.less<|ab rfl) ag λU b1 V1=>?_;have M:=Rm.after (k:=1) (k':=3) T V1.e;refine f7 (S:=U) (t:=.imp b1 ⟨true,[1,-1],[S.n,y],0⟩) (Ww (YW<|ab rfl) M.t) ?_;have J1:=gQ V1.I (t:=.imp b1 ⟨true,[1,-1],[S.n,y],0⟩) ⟨⟨rfl,λa G=>by obtain e|e:=Wo.mp G;refine aa e ?_;decide;refine aa (Wj.mp e) ?_;decide⟩,Wi rfl,λx o=>?_⟩;rotate_left
  ·obtain e|e:=Wo.mp o
   ·exact aa e V1.lt
   ·obtain e|e:=Wo.mp e
    ·exact aa e<|Ww lz V1.e.le
    ·exact aa (Wj.mp e)<|Ww ly V1.e.le
  have am:U4 2 (λw=>t.ev w=true->ah w S.n=ah w y) L (U.ask<|.imp b1 ⟨true,[1,-1],[S.n,y],0⟩):=dy V1.e fJ λw A=>by
   rw[ux<|(V1.ev w A).trans<|u5 (ag.ext V1.e) A,Es,aN ag,au lz,au ly]
  have al:=ag.ext am;have r3:=Rm.after (k:=2) (k':=2) T am;generalize U.ask (.imp b1 ⟨true,[1,-1],[S.n,y],0⟩)=N at J1 am al r3 ⊢;refine qg<|Mg J1 (λ_ _ e=>nomatch e) (r3.less<|ab rfl) (dp al) λS4 b2 V2=>RK (by decide) ?_;have r4:=Rm.after (k:=1) (k':=1) r3 V2.e;refine f7 (S:=S4) (t:=.imp b2 ⟨true,[1],[S.n],1⟩) (Ww (YW<|ab rfl) r4.t) ?_;have l3:S.n<N.n:=Ww lz am.le;have J2:=gQ V2.I (t:=.imp b2 ⟨true,[1],[S.n],1⟩) ⟨⟨rfl,λa G=>by refine aa (Wj.mp G) ?_;decide⟩,Wi rfl,λx o=>(Wo.mp o).elim (λe=>e▸V2.lt) λe=>Wj.mp e▸Ww l3 V2.e.le⟩;have ap:U4 2 (λw=>t.ev w=false->ah w S.n=1) N (S4.ask<|.imp b2 ⟨true,[1],[S.n],1⟩):=dy V2.e fJ λw A=>by
   rw[ux<|(V2.ev w A).trans<|u5 ((dp al).ext V2.e) A,Fc,aN al,au l3,ck,aaB]
  generalize S4.ask (.imp b2 ⟨true,[1],[S.n],1⟩)=S5 at J2 ap ⊢;have F:=ac (am.trans (χ:=λw=>t.ev w=false->ah w S.n=1) ap λw A=>by rw[aN ag,au lz]) λw v A B=>by
   have ez:ah (w++[v]) S.n=v:=av A.len<|aa bC rfl;refine aa ez<|aa (bx (by rw[A.len];exact c)) (av (aN h)<|av A.len<|aa Yn ?_);obtain _|_:=t.ev w
   ·exact⟨λp=>p.2 rfl,λp=>⟨λe=>(nomatch e),λ_=>p⟩⟩
   ·exact⟨λp=>p.1 rfl,λp=>⟨λ_=>p,λe=>nomatch e⟩⟩
  have u:∀w,bH S5 w->ah w S.n=if t.ev w then ah w y else 1:=λw A=>aa (F.2 w A)<|aa (aN h)<|aa (au c) rfl
  have l5:=Ww l3 ap.le;refine q S5 S.n ⟨sd J2 (ap.keep _ _<|am.keep _ _ ar) ⟨l5,λx o=>?_,λe=>(nomatch e),u⟩,F.1,l5,u⟩;obtain e|e:=Wo.mp o
  ·exact aa e<|Ww c F.1.le
  ·exact Ww (Af h x e).1 F.1.le
 ·refine jm g (ae (I.made _ x g) λz J m=>?_)
  clear g;subst J;have m:=m trivial;exact q S z ⟨I,U4.refl.more<|Wz _,m.lt,m.says⟩
end
structure J0 (k:Nat) (S S':St) (i:Nat) (v0:UX) (r:Int) (z:Nat):Prop where
 I:Inv Al S'
 e:U4 k Tt S S'
 lt:z<S'.n
 ev:∀w,bH S' w->ah w z=if ah w i=1 then v0.ev w else r
def DZ{L:Type}{l:List L}(h:l.length=2):∃a b,l=[a,b]:=by
 cases l with
 |nil=>exact nomatch h
 |cons a t=>exact(abq.mp<|Yb h).elim λb e=>⟨a,b,e▸rfl⟩
def uQ{b z:Int}(h:J=1\/J=2):(decide (0<J)&&(decide (J<=2)&&([I,b].getD (J - 1).toNat 0==z)))=true↔z=if J=1 then I else b:=by
 rcases h with e|e<;>subst e
 ·show(I==z)=true↔z=I
  rw[agQ];exact eq_comm
 ·show(b==z)=true↔z=b
  rw[agQ];exact eq_comm
def HK{p:Prop}[Decidable p]{c d:Int}(h:(J=c/\I=d)\/(J=d/\I=c)):(if p then c else d)=J\/(if p then c else d)=I:=by
 by_cases q:p
 ·exact aa (agO q)<|h.elim (λh=> .inl h.1.symm) λh=> .inr h.2.symm
 ·exact aa (agP q)<|h.elim (λh=> .inr h.2.symm) λh=> .inl h.1.symm
section
variable{S:St}{j:Bool}{g:V}{W:O}{R:List O}{Q:V->UT->Prop}{d:Nat}{l:UT}
def QS(L:Lo g W R)(c:Inv Al S)(B:Rm 1 S)(ag:U<S.n)(ac:∀w,bH S w->ah w U=1\/ah w U=2)(G:J.natAbs<=1000)(p:I.natAbs<=1000)
  (q:∀s z,J0 1 S s U (.int J) I z->Q (.d (aT z).en) (UU s j g W R)):C (d+6) 62 [.loc 1,.d (aH U),.d (.lst [.int J,.int I])] (UU S j g W R) Q:=by
 refine H.step<|CU (v:=.int J) ⟨trivial,CU (v:=.int I) ⟨trivial,?_⟩⟩;refine⟨trivial,trivial,f2 L.low λu v Y b=>?_⟩;have o:u.natAbs<=1000/\v.natAbs<=1000:=by rcases b with⟨E,A⟩|⟨E,A⟩<;>refine aa E (aa A ?_)<;>exact⟨by assumption,by assumption⟩
 have m:∀(w:List Int)(x:Int),bH S w->((Told.d8 U [J,I] S.n).holds (w++[x])↔x=if ah w U=1 then J else I):=λw x y=>by
  show(decide (0<ah (w++[x]) U)&&(decide (ah (w++[x]) U<=2)&&([J,I].getD (ah (w++[x]) U - 1).toNat 0==ah (w++[x]) S.n)))=true↔_;refine aa (bx (by rw[y.len];exact ag)) (aa (show ah (w++[x]) S.n=x by rw[<-y.len,bC]) ?_);exact uQ<|ac w y
 refine O0 (κ:=.d8 U [J,I]) (T:=.d8 U [J,I] S.n) (f:=λw=>if ah w U=1 then J else I) c B rfl rfl (Wi rfl) (Ig Y o.1 o.2) ⟨trivial,Wi rfl,λx k=>?_⟩ (λx k=>Wj.mp k▸ag) rfl (λw y=>⟨(zt Y).mpr<|HK b,λx _=>m w x y⟩) (λw x y h=>h) λt z N=>?_
 ·obtain e|e:=Wo.mp k
  ·exact aa e<|WM ag
  ·exact aa (Wj.mp e)<|WK _
 ·refine Mi (v:=.int J) ⟨trivial,Mi (v:=.int I) ⟨trivial,?_⟩⟩
  refine q t z ⟨N.I,N.e,N.lt,λw y=>?_⟩;have h:=N.says w y;have h:=(uQ<|(ac _ (N.e.bwd w y).1).imp (λe=>(au ag).symm.trans e) λe=>(au ag).symm.trans e).mp h;rw[bJ];exact h
def Qk(L:Lo g W R)(I:Inv Al S)(rm:Rm 3 S)(aw:U<S.n)(ag:∀w,bH S w->ah w U=1\/ah w U=2)(ax:fj S (aT Y))(hr:J.natAbs<=1000)
  (q:∀s z,J0 3 S s U (aT Y) J z->Q (.d (aT z).en) (UU s j g W R)):C (d+6) 62 [.loc 1,.d (aH U),.d (.lst [(aT Y).en,.int J])] (UU S j g W R) Q:=by
 have F:∀u∈[aT Y,.int J],fj S u:=λu B=>by
  obtain e|e:=Wo.mp B
  ·rw[e];exact ax
  ·rw[Wj.mp e];exact⟨⟨ey J,Wh hr<|ab rfl⟩,hr,hr⟩
 refine H.step<|CU (v:=aT Y) ⟨trivial,CU (v:=.int J) ⟨trivial,?_⟩⟩;refine JP I ax.ok ax.c ⟨trivial,JP I (ey J) (Wh hr<|ab rfl) ⟨trivial,?_⟩⟩;have ac:∀{lo am:Int},lo=(if J<(eU S<|aT Y).1 then J else (eU S<|aT Y).1)->am=(if (eU S<|aT Y).2<J then J else (eU S<|aT Y).2)->
   lo.natAbs<=1000/\am.natAbs<=1000/\lo<=J/\J<=am/\lo<=(eU S<|aT Y).1/\(eU S<|aT Y).2<=am:=λE G=>by
  have m:=ax.lo;have t:=ax.hi;subst E;subst G;exact⟨Lw hr m,Lw hr t,Mu.1,MC.1,Mu.2,MC.2⟩
 refine⟨trivial,⟨trivial,⟨trivial,⟨trivial,?_⟩⟩⟩⟩;have k0:=ac rfl rfl;refine f0 (λle=>?_) (λgt=>agR (WG k0.2.2.1 k0.2.2.2.1)<|Yp.mpr gt);refine OA I (rm.less<|Wi rfl) F (Wi rfl) λS1 zs Z=>d9 (DZ Z.len) λa b e=>?_;subst e;have ez:∀w,bH S1 w->ah w a=(aT Y).ev w/\ah w b=J:=λw y=>by
  have h:=Xk<|Z.ev w y;exact⟨h.1,(Xk h.2).1.trans<|bJ w J⟩
 have al:=Ww aw Z.e.le;have m:∀w,bH S1 w->ah w U=1\/ah w U=2:=λw y=>by
  have:=ag _ (Z.e.bwd w y).1;rw[au aw] at this;exact this
 have la:=Z.lt a<|.head _;have lb:=Z.lt b<|.tail _<|.head _;have A:∀(w:List Int)(x:Int),bH S1 w->((Told.elem U [a,b] S1.n).holds (w++[x])↔x=if ah w U=1 then ah w a else ah w b):=λw x y=>by
  show(decide (0<ah (w++[x]) U)&&(decide (ah (w++[x]) U<=2)&&([ah (w++[x]) a,ah (w++[x]) b].getD (ah (w++[x]) U - 1).toNat 0==ah (w++[x]) S1.n)))=true↔_;rw[bx (by rw[y.len];exact al),bx (by rw[y.len];exact la),bx (by rw[y.len];exact lb),show ah (w++[x]) S1.n=x by rw[<-y.len,bC]];exact uQ<|m w y
 have ap:∀w,bH S1 w->(eU S<|aT Y).1<=(aT Y).ev w/\(aT Y).ev w<=(eU S<|aT Y).2:=λw y=>by
  have:=qh I (Z.e.bwd w y).1 ax.ok;rw[aB ax.ok] at this;exact this
 refine O0 (κ:=.elem U [a,b]) (T:=.elem U [a,b] S1.n) (f:=λw=>if ah w U=1 then ah w a else ah w b) Z.I (Rm.after (k:=2) (k':=1) rm Z.e) rfl rfl (Wi rfl) (cZ le k0.1 k0.2.1) ⟨trivial,Wi rfl,λx o=>?_⟩ (λx o=>?_) rfl (λw y=>⟨dW.mpr ?_,λx _=>A w x y⟩) (λw x y h=>h) λM z N=>?_
 ·obtain e|o:=Wo.mp o
  ·rw[e];exact WM al
  ·obtain e|o:=Wo.mp o
   ·rw[e];exact WM la
   ·obtain e|o:=Wo.mp o
    ·rw[e];exact WM lb
    ·rw[Wj.mp o];exact WK _
 ·obtain e|o:=Wo.mp o
  ·rw[e];exact al
  ·obtain e|o:=Wo.mp o
   ·rw[e];exact la
   ·rw[Wj.mp o];exact lb
 ·have e:=ez w y
  have b:=ap w y;by_cases p:ah w U=1
  ·rw[agO p,e.1];exact⟨WG k0.2.2.2.2.1 b.1,WG b.2 k0.2.2.2.2.2⟩
  ·rw[agP p,e.2];exact⟨k0.2.2.1,k0.2.2.2.1⟩
 ·refine Mi (v:=aT Y) ⟨trivial,Mi (v:=.int J) ⟨trivial,?_⟩⟩
  refine q M z ⟨N.I,Z.e.tt N.e,N.lt,λw y=>?_⟩;have ar:=(N.e.bwd w y).1;have h:=(uQ<|(m _ ar).imp (λe=>(au al).symm.trans e) λe=>(au al).symm.trans e).mp (N.says w y);have e:=ez _ ar;rw[au la,au lb,aB<|ax.ok.more Z.e.le] at e;exact aa h<|aa e.1<|aa e.2 rfl
end
structure Uv (S:St) (v:UX):Prop where
 ok:km S.n v
 c:v.c.natAbs<=1000
 pos:∀x,v.cf x=0\/v.cf x=1
 nb:v.sG=false
 len:v.ps.length<=1
def Uv.ext(h:Uv S v)(e:U4 k j S s):Uv s v:={h with ok:=h.ok.more e.le}
def Uv.cmp(h:Uv S a)(hb:Uv S b):sI S a b:=
 ⟨h.ok,hb.ok,Wh (Yh h.len hb.len)<|ab rfl,λx=>by
  rcases h.pos x with e|e<;>rcases hb.pos x with g|g<;>refine aa e (aa g ?_)<;>decide,h.c,hb.c⟩
def JJ(z x:Nat):(aT z).cf x=if z=x then 1 else 0:=by
 show 1*ah (Vk x) z+0=_;rw[gC,Xm,XI]
def fL(h:z<S.n):Uv S (aT z):=⟨um h,Wz _,λx=>by
 rw[JJ];by_cases e:z=x
 ·exact aa (agO e)<|.inr rfl
 ·exact aa (agP e)<|.inl rfl,rfl,WC _⟩
def pL(h:i.natAbs<=1000):Uv S (.int i):=⟨ey i,h,λ_=> .inl rfl,rfl,Wz _⟩
def y8(h:(a==0)=false):ib [(z,a)]=[(z,a)]:=by
 have g:ee z [(z,a)]=some a:=by show(match (z:Int)==(z:Int) with|true=>some a|false=>ee z [])=_;rw[U8]
 show(([z].filter λx=> !((ee x [(z,a)]).getD 0==0)).map λx=>(x,(ee x [(z,a)]).getD 0))=_;refine aa Zd<|aa g<|aa h ?_;show[(z,(ee z [(z,a)]).getD 0)]=_;refine aa g ?_;rfl
def EO:cj (.sum [(z,1)] c) (.int k) m=.sum [(z,1)] (c+m*k):=by
 show n6 (ib [(z,1)]) (c+m*k)=_;refine aa (y8 rfl) ?_;rfl
def Sm(S:St):Prop:=∀z,z<2->(vq<|S.bN z).natAbs<=10/\(yK<|S.bN z).natAbs<=10
def Sm.ext(h:Sm S)(two:2<=S.n)(e:U4 k j S s):Sm s:=λz t=>by exact aa (e.bN<|Ww t two)<|h z t
def HH(w:List Int)(z:Nat)(c:Int):(UX.sum [(z,1)] c).ev w=ah w z+c:=by show 1*ah w z+0+c=_;rw[Xm,XI]
def gN(h:Sm S)(two:2<=S.n)(s:z<2)(o:c.natAbs<=100):fj S (.sum [(z,1)] c):=by
 have v:=um<|Ww s two;have d:=h z s;have e:eU S (.sum [(z,1)] c)=(c+mn (1*vq (S.bN z)) (1*yK (S.bN z)),c+mx (1*vq (S.bN z)) (1*yK (S.bN z))):=rfl;have m:(1*vq (S.bN z)).natAbs<=10:=by rw[Xm];exact d.1
 have t:(1*yK (S.bN z)).natAbs<=10:=by rw[Xm];exact d.2
 refine⟨⟨⟨v.r8,v.lt,v.un,v.len⟩,Wh o<|ab rfl⟩,?_,?_⟩
 ·exact aa e<|Wh (XQ _ _) (Wh (Yh o<|Cb m t)<|ab rfl)
 ·exact aa e<|Wh (XQ _ _) (Wh (Yh o<|zT m t)<|ab rfl)
inductive pA (S:St) (u:UX):D->Prop
 |b (b:Bool) (h:∀w,bH S w->b=VI false (u.ev w)):pA S u (.bool b)
 |t:pA S u (rV u false).en
def pA.plain(h:pA S u e):plain 11 e:=by
 cases h with
 |b b h=>rfl
 |t=>exact fu
def pA.no(h:pA S u e)(g:bP e (.bool false))(hw:bH S w):¬u.ev w<=0:=by
 cases h with
 |b b h=>
  obtain _|_:=b
  ·have:=h w hw
   rw[VI,agP<|by decide] at this;exact agZ this.symm
  ·cases g
 |t=>cases g
section
variable{S:St}{a:Bool}{c:V}{W:O}{R:List O}{Q:V->UT->Prop}{d:Nat}{f:UT}
def vZ(I:Inv Al S)(F:n9 S v)(q:∀e,pA S v e->Q (.d e) (UU S a c W R)):C (d+4) 48 [.loc 1,.d (.str 60),.d v.en] (UU S a c W R) Q:=
 jS I F (λb h=>q _<|.b b h) λU=>q _ .t
end
abbrev U1(b:Int)(z:Nat):UX:=cj (.int b) (aT z)<|-1
abbrev U2(b:Int)(z:Nat):UX:=cj (aT z) (.int<|b+1)<|-1
noncomputable abbrev Hf(b:Int):Int:=0+ -1*b+(b+1 - b+1)*0
def tG(b:Int):Hf b= -b:=by show 0+ -1*b+(b+1 - b+1)*0= -b;rw[ZM,XI,XB,Zp,Xm]
def AG(h:c.natAbs<=k):w6 k (.sum [(z,1)] c):=⟨Wi rfl,WO.mpr ⟨WW,Xr⟩,λp Y=>Wj.mp Y▸(by decide:(1:Int).natAbs<=10),h⟩
def m5(h:c.natAbs<=k):w6 k (.int c):=⟨Wz _,Xr,λ_ h=>(nomatch h),h⟩
def jJ{k:Int}(n:J.natAbs<=1000)(h:k.natAbs<=1000)(Q:I.natAbs<=10):(J+I*k).natAbs<=1000000:=
 Wh (XQ _ _) (Wh (Yh n<|Sl Q h)<|ab rfl)
def qC(h:pA S u e)(g:pA S v f):se (.bool false) [e,f]=some (bP e (.bool false)||bP f (.bool false)):=by
 show(match true&&(plain 11 e&&(plain 11 f&&true)) with|true=>some (bP e (.bool false)||(bP f (.bool false)||false))|false=>none)=_;rw[h.plain,g.plain,XC];rfl
section
variable{S:St}{g:Bool}{f:V}{W:O}{R:List O}{Q:V->UT->Prop}{d:Nat}{h:UT}
def uB(L:eR h)(n:c.natAbs<=1000)(M:k.natAbs<=1000)(T:m.natAbs<=10)(q:Q (.d (UX.sum [(z,1)] (c+m*k)).en) h):C (d+3) 35 [.d (UX.sum [(z,1)] c).en,.d (.int k),.d (.int m)] h Q:=
 Cu L (AG<|Wh n<|ab rfl) (m5<|Wh M<|ab rfl) T (jJ n M T) (EO▸q)
def vK(L:Lo f W R)(T:b.natAbs<=60)
  (q:da tab (C (d+6)) (Q9.drop 3) [(0,.loc 1),(23,.d (bI [(b,b+1)] [v,.int r])),(64,.d (.lst [(aT z).en])),(24,.d (.int 0)),(20,.d (UX.sum [(z,1)] (Hf b)).en),(63,.loc (R.length+9)),(1,.d (.int b)),(2,.d (.int (b+1))),(65,.d (aT z).en)]
   (UU S g f W (R++[.list [(U1 b z).en,(U2 b z).en],.eN])) (Kn.en (R.length+9) false Q)):C (d+7) 60 [.loc 1,.d (bI [(b,b+1)] [v,.int r]),.d (.lst [(aT z).en]),.d (.int 0)] (UU S g f W R) Q:=by
 have p:=fH T;have U:b.natAbs<=1000:=Wh T<|ab rfl;have l:Lo f W (R++[.list []]):=L.more λ_=>rfl;have L2:Lo f W (R++[.list []]++[.eN]):=l.more λ_=>rfl;refine H.step<|uB L2.low (ab rfl) U (ab rfl) ?_;have m:(0+ -1*b).natAbs<=1000:=by rw[XB,Zp,Xm,Y9];exact U
 refine uB L2.low m (ab rfl) (by rw[VZ];decide) ?_;have A:=cu (σ:=UU S g f W R++[O.list []]++[O.eN]) Jd 1 rfl;refine ec A.1 A.2<|Cu (a:=.int b) (b:=aT z) L2.low (m5<|Wh U<|ab rfl) iN (ab rfl) (jJ U (Wi rfl)<|ab rfl)<|Cu (a:=aT z) (b:=.int<|b+1) L2.low iN (m5<|Wh p<|ab rfl) (ab rfl) (jJ (Wi rfl) p<|ab rfl)<|ai (a:=(.d .none,UU S g f W R++[.list [(U1 b z).en,(U2 b z).en],.eN])) ?_ ⟨?_,?_⟩
 ·have e:=dO (σ:=UU S g f W R++[O.list []]++[O.eN]) Jd
  show(dB _ _).bind _=_;rw[e,Y4];show(if ([]:List D).length+2<=lim then some (V.d D.none,(UU S g f W R++[O.list []]++[O.eN]).set (UU S g f W R).length<|.list [(U1 b z).en,(U2 b z).en]) else none)=_;exact aa (agO<|ab rfl)<|aa Hz rfl
 ·show(UU S g f W R++[O.list [(U1 b z).en,(U2 b z).en],.eN])[((UU S g f W R)++[O.list []]).length]?=some .eN
  rw[Wv,Xs (WD ..),Nat.add_sub_cancel_left];rfl
 ·exact q
end
inductive Uz (S:St):UX->Prop
 |int (a:Int) (h:a.natAbs<=1000):Uz S (.int a)
 |var (z:Nat) (h:fj S (aT z)):Uz S (aT z)
def Uz.ext(h:Uz S v)(e:U4 k j S s):Uz s v:=by
 cases h with
 |int a h=>exact .int a h
 |var z h=>exact .var z<|h.ext e
def Uz.uv(h:Uz S v):Uv S v:=by
 cases h with
 |int a h=>exact pL h
 |var z h=>exact fL<|h.ok.lt _<|.head _
def J0.more(h:J0 k S s i v r z)(l:k<=m):J0 m S s i v r z:={h with e:=h.e.more l}
def jX:(U1 b z).ev w<=0↔b<=ah w z:=by
 rw[pe (a:=.int b) Xr,bJ,cx];exact⟨ZA,Y7⟩
def jY:(U2 b z).ev w<=0↔ah w z<=b+1:=by
 rw[pe (a:=aT z)<|WO.mpr ⟨WW,Xr⟩,bJ,cx];exact⟨ZA,Y7⟩
def y0(h:z<S.n)(Q:b.natAbs<=1000):n9 S (U1 b z):=((pL Q).cmp<|fL h).sP
def zU(h:z<S.n)(Q:(b+1).natAbs<=1000):n9 S (U2 b z):=((fL h).cmp<|pL Q).sP
def vJ:(UX.sum [(z,1)] (Hf b+1*1)).ev w=ah w z - b+1:=by
 rw[HH,tG,Xm,<-Xc];rfl
def kL:J - I+1=1↔J=I:=GS
def vU(h:I<=J)(t:J<=I+1):J - I+1=1\/J - I+1=2:=K8 h t
structure SO (k:Nat) (S S':St) (b:Int) (z:Nat) (v0:UX) (r:Int) (fv:UX):Prop where
 I:Inv Al S'
 e:U4 k (λw=>b<=ah w z/\ah w z<=b+1) S S'
 uv:Uv S' fv
 ev:∀w,bH S' w->fv.ev w=if ah w z=b then v0.ev w else r
section
variable{S:St}{f:Bool}{j:V}{W:O}{R:List O}{Q:V->UT->Prop}{d:Nat}{k:UT}
def Q2(L:Lo j W R)(I:Inv Al S)(u:Rm 3 S)(T:i<S.n)(g:∀w,bH S w->ah w i=1\/ah w i=2)(Y:Uz S v)(l:r.natAbs<=1000)
  (q:∀s z,J0 3 S s i v r z->Q (.d (aT z).en) (UU s f j W R)):C (d+6) 62 [.loc 1,.d (aH i),.d (.lst [v.en,.int r])] (UU S f j W R) Q:=by
 cases Y with
 |int a h=>exact QS L I (u.less<|ab rfl) T g h l λs z E=>q s z<|E.more<|ab rfl
 |var z h=>exact Qk L I u T g h l q
def QE(L:Lo (.d .none) W R)(T:J.natAbs<=60)(l:I.natAbs<=1000)(ap:Inv Al S)(B:Rm 6 S)(A:U<2)(ar:Sm S)(Y:Uz S p)
  (q:∀s fv,SO 6 S s J U p I fv->Q (.d fv.en) (UU s f (.d .none) W R)):C (d+7) 60 [.loc 1,.d (bI [(J,J+1)] [p,.int I]),.d (.lst [(aT U).en]),.d (.int 0)] (UU S f (.d .none) W R) Q:=by
 have ac:=Ww A ap.two;have F1:=y0 ac<|Wh T<|ab rfl;have F2:=zU ac<|fH T;have L2:Lo (.d .none) W (R++[.list [(U1 J U).en,(U2 J U).en]]++[.eN]):=(L.more λ_=>rfl).more λ_=>rfl;rw[Xq] at L2;have ag:=fF 8 [p,.int I];have al:∀{S:St}{x:D},Vg false (R.length+9) (.d x) (UU S f (.d .none) W<|R++[.list [(U1 J U).en,(U2 J U).en],.eN])=some (.d x,UU S f (.d .none) W R):=λ{S x}=>lv<|L.low;refine vK L T<|ai (dh ag)<|ai (LV.loc<|eW).it<|vZ ap F1 λG m=>⟨eW,vZ ap F2 λy u=>⟨eW,ai (qC m u)<|aX (λg=>?_) (λg=>?_)⟩⟩
 ·refine O9 (t:=.tf false) ap (B.less<|ab rfl) trivial λo N=>ai (agN (W4 (!·))<|dh ag)<|ai al<|q o p ⟨N.I,(N.e.more<|ab rfl).iff λw v=>⟨λh=>(nomatch h),λh=>?_⟩,(Y.ext N.e).uv,λw v=>nomatch (N.e.bwd w v).2⟩
  obtain g|g:=XF.mp g
  ·exact agR (jX.mpr h.1) (m.no g v)
  ·exact agR (jY.mpr h.2) (u.no g v)
 ·refine PZ ap (B.less<|ab rfl) F1 F2 λo N=>?_
  have aw:=Rm.after (k':=4) B N.e;have am:=ar.ext ap.two N.e;have n:(Hf J).natAbs<=60:=by rw[tG,Y9];exact T
  have F:=gN (c:=Hf J+1*1) am N.I.two A<|Wh (XQ _ _)<|Wh (Wy n _)<|ab rfl;refine uB L2.low (Wh n<|ab rfl) (ab rfl) (ab rfl)<|PW N.I trivial (aw.less<|ab rfl) F.ok F.c ⟨F.lo,F.hi⟩ λa i V=>?_;have E2:=N.e.trans (χ:=Tt) V.e λ_ _=>aaq;have vi:∀w,bH a w->ah w i=ah w U - J+1/\(J<=ah w U/\ah w U<=J+1):=λw v=>by
   have h:=(E2.bwd w v).2.1;rw[jX,jY,au ac] at h;exact⟨(V.ev w v).trans vJ,h⟩
  refine Q2 L2 V.I (Rm.after aw V.e) V.lt (λw v=>(vi w v).1▸vU (vi w v).2.1 (vi w v).2.2) (Y.ext E2) l λM x E=>?_;have E3:=E2.trans (χ:=Tt) E.e λ_ _=>aaq;refine ai al<|q M (aT x) ⟨E.I,E3.iff λw v=>⟨λh=>?_,λh=>?_⟩,fL E.lt,λw v=>?_⟩
  ·have:=h.1.1;rw[jX,jY] at this;exact this
  ·exact⟨⟨by rw[jX,jY];exact h,trivial⟩,trivial⟩
  ·have h:=(vi _ (E.e.bwd w v).1).1
   rw[au V.lt,au<|Ww ac E2.le] at h;rw[cx,E.ev w v,h];by_cases e:ah w U=J
   ·rw[agO e,agO<|kL.mpr e]
   ·exact aa (agP e) (aa (agP λg=>e<|kL.mp g) rfl)
end
def AV{t:Tr}:aR M (c7 t)=t.ev M:=by
 unfold c7;rcases e:same t (.tf true) with _|_
 ·exact aa (agP<|by decide)<|XT _
 ·refine aa (agO rfl) (aa (U6.mp e) ?_);rfl
def oq{t:Tr}:(c7 t).length<=1:=by
 unfold c7;cases same t (.tf true)<;>exact Wi rfl
def AR{S:St}{t:Tr}(h:aW S t):∀u∈c7 t,aW S u:=by
 unfold c7;obtain _|_:=same t<|.tf true
 ·exact λu i=>Wj.mp i▸h
 ·exact λ_ h=>nomatch h
structure Rx (k:Nat) (S S':St) (b:Int) (z:Nat) (v0:UX) (r:Int) (fv:UX) (t:Tr):Prop where
 I:Inv Al S'
 e:U4 k Tt S S'
 uv:Uv S' fv
 ok:aW S' t
 tv:∀w,bH S' w->t.ev w=(decide (b<=ah w z)&&decide (ah w z<=b+1))
 ev:∀w,bH S' w->t.ev w->fv.ev w=if ah w z=b then v0.ev w else r
def tJ{S:St}{fr:Bool}{p:V}{W:O}{g:List O}{a b c:O}{x:D}(L:Lo p W (g++[a])):Vg false (g.length+1+9) (.d x) (UU S fr p W (g++a::[b,c]))=some (.d x,UU S fr p W (g++[a])):=by
 have:=lv (r:=[b,c]) (x:=x)<|L.low (S:=S) (fr:=fr);have e:UU S fr p W (g++[a])++[b,c]=UU S fr p W (g++a::[b,c]):=by
  show UU S fr p W (g++[a]++[b,c])=_;rw[Xq];rfl
 rw[e] at this;have l:(UU S fr p W<|g++[a]).length=g.length+1+9:=by
  show(g++[a]).length+9=_;refine aa Wv ?_;rfl
 rw[l] at this;exact this
def Lo.swap{pt:V}{W:O}{R:List O}{l l':List D}(L:Lo pt W (R++[.list l])):Lo pt W (R++[.list l']):=
 ⟨L.pt.imp id λz=>ae z λk M e=>⟨k,by rw[Wv] at M ⊢;exact M,e⟩,L.W,λo f n=>(WH.mp f).elim (λh=>L.R o (W6 _ h) n) λh=>by refine aa (Wj.mp h) ?_;rfl⟩
section
variable{S:St}{f:Bool}{a:V}{W:O}{R:List O}{Q:V->UT->Prop}{d:Nat}{p:UT}
def Qn{v0:UX}(ar:a=.loc (R.length+9))(L:Lo a W (R++[.list []]))(aw:J.natAbs<=60)(hr:I.natAbs<=1000)(ap:Inv Al S)(rm:Rm 16 S)(hz:U<2)(sm:Sm S)(hv:Uz S v0)
  (q:∀B fv t,Rx 16 S B J U v0 I fv t->Q (.d fv.en) (UU B f a W (R++[.list ((c7 t).map Tr.en)]))):C (d+7) 60 [.loc 1,.d (bI [(J,J+1)] [v0,.int I]),.d (.lst [(aT U).en]),.d (.int 0)] (UU S f a W (R++[.list []])) Q:=by
 have ag:=Ww hz ap.two;have F1:=y0 ag<|Wh aw<|ab rfl;have F2:=zU ag<|fH aw;have al:=fF 8 [v0,.int I];refine vK L aw ?_;rw[Xq,Wv];have L2:∀N:List Tr,Lo a W (R++ .list (N.map Tr.en)::[.list [(U1 J U).en,(U2 J U).en],.eN]):=λN=>by
  have:=(((L.swap (l':=N.map Tr.en)).more (o:=.list [(U1 J U).en,(U2 J U).en]) λ_=>rfl).more (o:=.eN) λ_=>rfl);rw[Xq,Xq] at this;exact this
 have g:∀{S:St}{l:List D},(UU S f a W<|R++ .list l::[.list [(U1 J U).en,(U2 J U).en],.eN])[R.length+1+9]?=some (.list [(U1 J U).en,(U2 J U).en]):=λ{S l}=>by
  show(R++O.list l::_)[R.length+1]?=_;rw[Xs<|W9 _,ac9<|WC _,Yq];rfl
 refine ai (dh al)<|ai (LV.loc<|g).it<|vZ ap F1 λe1 s=>⟨g,vZ ap F2 λe2 A=>⟨g,ai (qC s A)<|aX (λh=>?_) (λh=>?_)⟩⟩
 ·clear L2 g;subst ar
  refine Lh (t:=.tf false) (N:=[]) (Wz _) (R1:=[.list [(U1 J U).en,(U2 J U).en],.eN])<|ai (agN (W4 (!·))<|dh al)<|ai (tJ L.swap)<|q S v0 (.tf false) ⟨ap,U4.refl.more<|ab rfl,hv.uv,trivial,λw G=>?_,λw _ h=>nomatch h⟩;show false=_;obtain g|g:=XF.mp h
  ·rw[agY λe=>s.no g G<|jX.mpr e];rfl
  ·rw[agY λe=>A.no g G<|jY.mpr e,ZP]
 ·refine PV ar (L2 []) ap (rm.less<|ab rfl) F1 F2 λS1 t T=>?_
  rw[<-ar];have r1:=Rm.after (k':=9) rm T.e;have tv:∀{B:St}{k:Nat}(e:U4 k Tt S1 B){w:List Int},bH B w->t.ev w=(decide (J<=ah w U)&&decide (ah w U<=J+1)):=λ{B k} e {w} G=>by
   rw[hJ T e (λw=>by rw[aB (F1.ext T.e).ok,aB (F2.ext T.e).ok]) G,decide_eq_decide.mpr jX,decide_eq_decide.mpr jY]
  have ac:∀{k:Nat}{S3:St}{j:Nat}{Z:Kv},Inv Al S3->U4 k Tt S1 S3->k<=6->j<S3.n->(∀w,bH S3 w->(ah w j=1\/ah w j=2)/\(t.ev w->ah w j=ah w U - J+1))->
    (∀S4 fv,Rx 16 S S4 J U v0 I fv t->Z (.d fv.en) (UU S4 f a W<|R++ .list ((c7 t).map Tr.en)::[.list [(U1 J U).en,(U2 J U).en],.eN]))->
    C (d+6) 62 [.loc 1,.d<|aH j,.d<|.lst [v0.en,.int I]] (UU S3 f a W<|R++ .list ((c7 t).map Tr.en)::[.list [(U1 J U).en,(U2 J U).en],.eN]) Z:=λ{k S3 j Z} I3 E3 M hj h y=>by
   have am:=T.e.tt E3;refine Q2 (L2<|c7 t) I3 (Rm.after (r1.less<|Wy M 3) E3) hj (λw G=>(h w G).1) (hv.ext am) hr λS4 x E=>?_;have E4:=E3.tt E.e;refine y S4 (aT x) ⟨E.I,(am.tt E.e).more<|Wy (WL M 7) 3,fL E.lt,T.ok.ext E4,λw G=>tv E4 G,λw G ht=>?_⟩;have h0:=(h _ (E.e.bwd w G).1).2 (by rw[aN<|T.ok.ext E3];exact ht);rw[au hj,au<|Ww ag am.le] at h0;rw[cx,E.ev w G,h0];by_cases e:ah w U=J
   ·rw[agO e,agO<|kL.mpr e]
   ·exact aa (agP e) (aa (agP λg=>e<|kL.mp g) rfl)
  have hc:(Hf J).natAbs<=60:=by rw[tG,Y9];exact aw
  have F:=gN (c:=Hf J+1*1) (sm.ext ap.two T.e) T.I.two hz<|Wh (XQ _ _)<|Wh (Wy hc _)<|ab rfl;refine uB (m:=1) (L2<|c7 t).low (Wh hc<|ab rfl) (ab rfl) (ab rfl)<|PW (v:=.sum [(U,1)]<|Hf J+1*1) T.I trivial (r1.less<|ab rfl) F.ok F.c ⟨F.lo,F.hi⟩ λS2 i V=>?_;have vi:∀w,bH S2 w->ah w i=ah w U - J+1:=λw G=>(V.ev w G).trans vJ;have two:∀w,bH S2 w->t.ev w->ah w i=1\/ah w i=2:=λw G ht=>by
   rw[tv V.e G,W7,agU,agU] at ht;exact vi w G▸vU ht.1 ht.2
  refine ai (iS (u:=.tf true))<|aX (λh=>?_) (λh=>?_)
  ·refine f0 (λ_=>?_) (λgt=>agR gt<|show ¬((2:Int)<1) by decide)
   refine Ui V.I (Rm.after (r1.less<|ab rfl) V.e) (T.ok.ext V.e) V.lt (λw G ht=>?_) λS3 j D=>?_
   ·rcases two w G ht with e|e<;>refine aa e ?_<;>decide
   ·refine ac D.I (V.e.tt D.e) (ab rfl) D.lt (λw G=>?_) λS4 fv Y=>ai (tJ L.swap)<|q S4 fv t Y
    have A:=two _ (D.e.bwd w G).1;have h3:=vi _ (D.e.bwd w G).1;rw[aN<|T.ok.ext V.e,au V.lt] at A;rw[au V.lt,au<|Ww ag (T.e.tt V.e).le] at h3;refine aa (D.ev w G) ?_;rcases e:t.ev w with _|_
    ·exact⟨.inl rfl,λh=>nomatch h⟩
    ·exact⟨A e,λ_=>h3⟩
  ·have et:=U6.mp<|nF h
   refine ac V.I V.e (ab rfl) V.lt (λw G=>⟨two w G<|et▸rfl,λ_=>vi w G⟩) λS4 fv Y=>ai (tJ L.swap)<|q S4 fv t Y
end
def dw{v:List UX}(h:∀u∈v,km U u):v.map (UX.ev (M.take U))=v.map (UX.ev M):=YN λu i=>aB<|h u i
section
variable{S:St}{g:Bool}{f:V}{W:O}{R:List O}{Q:V->UT->Prop}{d:Nat}{h:UT}
def QF(L:Lo f W R)(I:Inv Al S)(x:Rm 8 S)(G:Uv S a)(U:Uv S b)(m:Uv S c)
  (q:∀s t,dK 8 S s t (λw=>(b.ev w !=a.ev w)&&((c.ev w !=a.ev w)&&(c.ev w !=b.ev w)))->Q (.d t.en) (UU s g f W R)):
  C (d+8) 79 [.loc 1,.d (.str 89),.d (.lst [bI [(1,3)] [a,b,c]]),.d (.int 0)] (UU S g f W R) Q:=by
 refine H.step<|iB ⟨trivial,?_⟩;refine⟨trivial,⟨trivial,⟨trivial,⟨trivial,⟨trivial,⟨trivial,?_⟩⟩⟩⟩⟩⟩;refine tA L I (x.less<|ab rfl) U.nb (U.cmp G) λn l N=>⟨trivial,?_⟩;have r:=Rm.after (k':=7) x N.e;have ac:=G.ext N.e;have A:=U.ext N.e;have z:=m.ext N.e;refine tA L N.I (r.less<|ab rfl) m.nb (z.cmp ac) λY M B=>⟨trivial,?_⟩;have j:=Rm.after (k':=6) r B.e;refine tA L B.I (j.less<|ab rfl) m.nb ((z.ext B.e).cmp<|A.ext B.e) λJ t3 p=>⟨trivial,?_⟩;have E:=(N.e.tt B.e).tt p.e;refine HM (T:=[l,M,t3]) L p.I (Rm.after (k:=1) (k':=5) j p.e) (λu i=>?_) (Wi rfl) λo t4 y=>?_
 ·obtain e|i:=Wo.mp i
  ·rw[e];exact N.ok.ext<|B.e.tt p.e
  ·obtain e|i:=Wo.mp i
   ·rw[e];exact B.ok.ext p.e
   ·rw[Wj.mp i];exact p.ok
 refine ai (jK L.low)<|q o t4 ⟨y.I,E.tt y.e,y.ok,λw v=>?_⟩;rw[y.ev w v];show(l.ev w&&(M.ev w&&(t3.ev w&&true)))=_;rw[hJ N ((B.e.tt p.e).tt y.e) (λw=>by rw[aB ac.ok,aB A.ok]) v,hJ B (p.e.tt y.e) (λw=>by rw[aB (ac.ext B.e).ok,aB (z.ext B.e).ok]) v,
  hJ p y.e (λw=>by rw[aB (U.ext E).ok,aB (m.ext E).ok]) v,XT]
def J7{v:List UX}(L:Lo f W R)(aw:Inv Al S)(z:Rm 15 S)(Y:∀u∈v,fj S u)(ax:v.length=3)(M:v.all UX.known=false)(m:Uv S c)(x:Uv S n2){al am ap:List (Int×Int)}
  (q:∀s t,dK 15 S s t (λw=>((((v.map (UX.ev w)).count J:Nat):Int)==c.ev w)&&((((v.map (UX.ev w)).count I:Nat):Int)==n2.ev w))->Q (.d t.en) (UU s g f W R)):
  C (d+8) 79 [.loc 1,.d (.str 101),.d (.lst [bI al v,bI am [.int J,.int I],bI ap [c,n2]]),.d (.int 0)] (UU S g f W R) Q:=by
 refine H.step<|iB ⟨trivial,iB ⟨trivial,iB ⟨trivial,?_⟩⟩⟩;have L1:Lo f W (R++[.eN]):=L.more λ_=>rfl;have l:v≠[]:=λe=>by rw[e] at ax;cases ax
 have ar:v.length<=20:=by rw[ax];decide
 have ag:v.length+1=4:=by rw[ax]
 refine RD aw (z.less (by rw[ag];decide)) Y ar l M λn z1 Z1=>?_;rw[ag] at Z1;have r:=Rm.after (k':=11) z Z1.e;have ac:=m.ext Z1.e;refine J5 L1 Z1.I (r.less<|ab rfl) rfl ((fL Z1.lt).cmp ac) λU o N=>⟨aA,?_⟩;have a:=Rm.after (k':=10) r N.e;have E2:=Z1.e.tt N.e;refine RD N.I (a.less (by rw[ag];decide)) (λu i=>(Y u i).ext E2) ar l M λG z2 Z2=>?_;rw[ag] at Z2;have r3:=Rm.after (k':=6) a Z2.e;have E3:=E2.tt Z2.e;refine J5 L1 Z2.I (r3.less<|ab rfl) rfl ((fL Z2.lt).cmp<|x.ext E3) λS4 j B=>⟨aA,?_⟩;refine HM (T:=[o,j]) L1 B.I (Rm.after (k:=1) (k':=5) r3 B.e) (λu i=>?_) (Wi rfl) λS5 t T=>?_
 ·obtain e|e:=Wo.mp i
  ·rw[e];exact N.ok.ext<|Z2.e.tt B.e
  ·rw[Wj.mp e];exact B.ok
 refine ai (ay L)<|q S5 t ⟨T.I,(E3.tt B.e).tt T.e,T.ok,λw y=>?_⟩;rw[T.ev w y];show(o.ev w&&(j.ev w&&true))=_;have A:∀w,bH U w->o.ev w=((((v.map<|UX.ev w).count J:Nat):Int)==c.ev w):=λw y=>by
  rw[N.ev w y,cx,<-au Z1.lt,Z1.ev _ (N.e.bwd w y).1,dw λu i=>(Y u i).ok.more Z1.e.le]
 have b:∀w,bH S4 w->j.ev w=((((v.map<|UX.ev w).count I:Nat):Int)==n2.ev w):=λw y=>by
  rw[B.ev w y,cx,<-au Z2.lt,Z2.ev _ (B.e.bwd w y).1,dw λu i=>(Y u i).ok.more E3.le]
 have F:=(Z2.e.tt B.e).tt T.e;rw[<-aN N.ok,A _ (F.bwd w y).1,<-aN B.ok,b _ (T.e.bwd w y).1,dw λu i=>(Y u i).ok.more E2.le,dw λu i=>(Y u i).ok.more (E3.tt B.e).le,aB (m.ext E2).ok,aB (x.ext<|E3.tt B.e).ok,XT]
end
structure Te (k:Nat) (S S':St) (t:Tr) (ψ:List Int->Prop) (φ:List Int->Bool):Prop where
 I:Inv Al S'
 e:U4 k ψ S S'
 ok:aW S' t
 ev:∀w,bH S' w->t.ev w=φ w
structure QR (k:Nat) (S S':St) (t u:Tr) (φ:List Int->Bool):Prop where
 I:Inv Al S'
 e:U4 k Tt S S'
 ok:aW S' t
 QO:aW S' u
 ev:∀w,bH S' w->(t.ev w&&u.ev w)=φ w
def dK.pl(T:dK k S s t d)(l:k<=m):QR m S s t (.tf true) d:=⟨T.I,T.e.more l,T.ok,trivial,λw hw=>(XT _).trans<|T.ev w hw⟩
noncomputable def cell(b:Int)(z:Nat)(v:UX)(r:Int)(w:List Int):Int:=if ah w z=b then v.ev w else r
noncomputable def inR(b:Int)(z:Nat)(w:List Int):Bool:=decide (b<=ah w z)&&decide (ah w z<=b+1)
section
variable{S:St}{a:Bool}{c:V}{W:O}{R:List O}{Q:V->UT->Prop}{d:Nat}{f:UT}
def LI(L:Lo (.d .none) W R)(U:b.natAbs<=60)(k:r.natAbs<=1000)(I:Inv Al S)(x:Rm 7 S)(u:z<2)(y:Sm S)(Y:Uz S i)(v:Uv S wv)
  (q:∀s t,Te 7 S s t (λw=>b<=ah w z/\ah w z<=b+1) (λw=>wv.ev w==cell b z i r w)->Q (.d t.en) (UU s a (.d .none) W R)):
  C (d+8) 79 [.loc 1,.d (.str 70),.d (.lst [(aT z).en,bI [(b,b+1)] [i,.int r],wv.en]),.d (.int 0)] (UU S a (.d .none) W R) Q:=by
 refine H.step<|E0 ⟨trivial,iB ⟨trivial,E0 ⟨trivial,?_⟩⟩⟩;refine QE L U k I (x.less<|ab rfl) u y Y λm A E=>J5 L E.I (Rm.after x E.e) v.nb ((v.ext E.e).cmp E.uv) λg t T=>?_;have G:=Ww u I.two;refine ai (jK L.low)<|q g t ⟨T.I,(E.e.trans T.e λ_ _=>aaq).iff λw _=>and_iff_left trivial,T.ok,λw M=>?_⟩;have h:=E.ev _ (T.e.bwd w M).1;rw[aB E.uv.ok,au<|Ww G E.e.le,aB (Y.ext E.e).uv.ok] at h;refine aa (T.ev w M)<|aa h ?_;rfl
def L3(Y:c=.loc (R.length+9))(L:Lo c W (R++[.list []]))(U:b.natAbs<=60)(k:r.natAbs<=1000)(I:Inv Al S)(A:Rm 17 S)(y:z<2)(B:Sm S)(g:Uz S l)(v:Uv S wv)
  (q:∀s t u,QR 17 S s t u (λw=>inR b z w&&(wv.ev w==cell b z l r w))->Q (.d t.en) (UU s a c W (R++[.list ((c7 u).map Tr.en)]))):
  C (d+8) 79 [.loc 1,.d (.str 70),.d (.lst [(aT z).en,bI [(b,b+1)] [l,.int r],wv.en]),.d (.int 0)] (UU S a c W (R++[.list []])) Q:=by
 refine H.step<|E0 ⟨trivial,iB ⟨trivial,E0 ⟨trivial,?_⟩⟩⟩;refine Qn Y L U k I (A.less<|ab rfl) y B g λm G u E=>J5 L.swap E.I (Rm.after A E.e) v.nb ((v.ext E.e).cmp E.uv) λj t T=>?_;have J:=Ww y I.two;have p:Vg false (R++[O.list []]).length.succ.succ.succ.succ.succ.succ.succ.succ.succ (.d t.en) (UU j a c W<|R++[.list<|(c7 u).map Tr.en])=some (.d t.en,UU j a c W<|R++[.list<|(c7 u).map Tr.en]):=by
  have:=jK (x:=t.en) (L.swap (l':=(c7 u).map Tr.en)|>.low (S:=j) (fr:=a));have e:(UU j a c W<|R++[.list<|(c7 u).map Tr.en]).length=(R++[O.list []]).length.succ.succ.succ.succ.succ.succ.succ.succ.succ:=by
   show(R++[O.list<|(c7 u).map Tr.en]).length+9=(R++[O.list []]).length+9;refine aa Wv<|aa Wv ?_;rfl
  rw[e] at this;exact this
 refine ai p<|q j t u ⟨T.I,E.e.tt T.e,T.ok,E.ok.ext T.e,λw M=>?_⟩;have n:=(T.e.bwd w M).1;have o:=Ww J E.e.le;have i:u.ev w=inR b z w:=by
  refine av (aN E.ok)<|aa (E.tv _ n)<|aa (au o) ?_;rfl
 refine aa i<|aa (T.ev w M) ?_;rcases e:inR b z w with _|_
 ·rw[ZP,acP]
 ·have h:=E.ev _ n (by refine aa (aN E.ok)<|aa i ?_;exact e)
  rw[aB E.uv.ok,au o,aB (g.ext E.e).uv.ok] at h;rw[h,XT,acY];rfl
end
set_option genCtorIdx false in
inductive Dr where
 |times (a p1 p2:Int) (t1 t2:Th)|jz (both:Bool) (P:Pl)|xt (a b:Th)|at (b:Int) (py:Bool) (t:Th) (r:Int) (u:Th)
noncomputable def Ef(b:Bool):Th:=match b with|true=> .y|false=> .x
def Hj(both:Bool):D:=match both with|true=>zH|false=>nName 1
def w9(both:Bool):UX:=match both with|true=>Rw|false=>aT 0
def Dr.node:Dr->D
 |.times a p1 p2 t1 t2=> .tup [.str 20,.int 0,.str 101,.tup [jM [.x,.y,.num a],jM [.num p1,.num p2],jM [t1,t2]]]
 |.jz both P=> .tup [.str 18,.int 0,.str 54,Hj both,P.node]
 |.xt a b=> .tup [.str 20,.int 0,.str 89,.tup [jM [a,.y,b]]]
 |.at b py t r u=> .tup [.str 20,.int 0,.str 70,.tup [(Ef py).node,nArr b [t,.num r],u.node]]
def Th.small(t:Th):Prop:=∀i,t=.num i->i.natAbs<=10
def Dr.ok:Dr->Prop
 |.times a p1 p2 t1 t2=>a.natAbs<=10/\p1.natAbs<=10/\p2.natAbs<=10/\t1.small/\t2.small
 |.jz _ P=>P.ok
 |.xt a b=>a.small/\b.small
 |.at b _ t r u=>b.natAbs<=10/\t.small/\r.natAbs<=10/\u.small
noncomputable def bz(b:Bool):Nat:=match b with|true=>1|false=>0
def Dr.means(w:List Int):Dr->Bool
 |.times a p1 p2 t1 t2=>(((([Th.x,.y,.num a].map Th.val).map (UX.ev w)).count p1:Nat):Int)==t1.val.ev w&&(((([Th.x,.y,.num a].map Th.val).map (UX.ev w)).count p2:Nat):Int)==t2.val.ev w
 |.jz both P=>inD ((w9 both).ev w) P.bN
 |.xt a b=>((Th.y).val.ev w !=a.val.ev w)&&((b.val.ev w !=a.val.ev w)&&(b.val.ev w !=(Th.y).val.ev w))
 |.at b py t r u=>inR b (bz py) w&&(u.val.ev w==cell b (bz py) t.val r w)
def Th.small.cJ{t:Th}(h:t.small):t.cJ:=λi e=>Wh (h i e)<|ab rfl
def dg:Th.x.cJ/\Th.y.cJ:=⟨λ_ h=>(nomatch h),λ_ h=>(nomatch h)⟩
def gH{S:St}{t:Th}(I:Inv Al S)(s:Sm S)(h:t.small):Uz S t.val:=by
 obtain _|_|i:=t
 ·exact .var 0 (gN s I.two (ab rfl)<|ab rfl)
 ·exact .var 1 (gN s I.two (ab rfl)<|ab rfl)
 ·exact .int i (Wh (h i rfl)<|ab rfl)
def eg{S:St}{t:Th}(I:Inv Al S)(s:Sm S)(h:t.small):fj S t.val:=by
 obtain _|_|i:=t;iterate 2 exact gN s I.two (ab rfl) (ab rfl)
 ·have h:=h i rfl
  exact⟨⟨ey i,Wh h<|ab rfl⟩,Wh h<|ab rfl,Wh h<|ab rfl⟩
def uA(I:Inv Al S)(b:Bool):Nv S (w9 b):=by
 obtain _|_:=b
 ·exact⟨um<|Ww (ab rfl) I.two,Wz _⟩
 ·exact⟨⟨by decide,λp h=>by
   obtain e|h:=Wo.mp h
   ·exact aa e<|Ww (ab rfl) I.two
   ·exact aa (Wj.mp h)<|Ww (ab rfl) I.two,λp h=>by
   obtain e|h:=Wo.mp h
   ·exact aa e<|.inl rfl
   ·exact aa (Wj.mp h)<|.inl rfl,by decide⟩,Wz _⟩
def I6{P:Pl}(h:P.ok):(∀p∈P.bN,p.1.natAbs<=1000/\p.2.natAbs<=1000)/\P.bN.length<=2:=by
 obtain⟨a,b⟩|_|a|a:=P
 ·rcases e:decide (a<=b) with _|_
  ·have d:(Pl.kW a b).bN=[]:=by rw[Pl.bN,e]
   exact aa d ⟨λ_ Y=>(nomatch Y),Wz _⟩
  ·have d:(Pl.kW a b).bN=[(a,b)]:=by rw[Pl.bN,e]
   exact aa d ⟨λp Y=>by exact aa (Wj.mp Y)<|⟨Wh h.1<|ab rfl,Wh h.2<|ab rfl⟩,Wi rfl⟩
 ·exact⟨λ_ Y=>(nomatch Y),Wz _⟩
 ·exact⟨λp Y=>by exact aa (Wj.mp Y)<|⟨Wh h<|ab rfl,Wh h<|ab rfl⟩,Wi rfl⟩
 ·have t:=qa h<|show 62<=1000 by decide
  have A:=t a<|.head _;have c:=t (a+2)<|.tail _<|.head _;exact⟨λp Y=>by
   obtain e|Y:=Wo.mp Y
   ·exact aa e ⟨A,A⟩
   ·exact aa (Wj.mp Y)<|⟨c,c⟩,Wi rfl⟩
section
variable{S:St}{f:Bool}{c:V}{W:O}{R:List O}{Q:V->UT->Prop}{d:Nat}{g:UT}
def GZ(L:Lo c W R)(q:Q (.d (w9 b).en) (UU S f c W R)):C (d+13) 70 [.loc 1,.d (Hj b),.loc 8] (UU S f c W R) Q:=by
 obtain _|_:=b
 ·exact yI L dg.1 q
 ·exact yT L q
def QA{D:Dr}(Y:c=.loc (R.length+9))(L:Lo c W (R++[.list []]))(ok:D.ok)(I:Inv Al S)(A:Rm 19 S)(B:Sm S)
  (q:∀s t u,QR 19 S s t u (λw=>D.means w)->Q (.d t.en) (UU s f c W (R++[.list ((c7 u).map Tr.en)]))):C (d+15) 77 [.loc 1,.d D.node,.loc 8] (UU S f c W (R++[.list []])) Q:=by
 have y1:Th.y.small:=λ_ h=>nomatch h;have U:Th.x.small:=λ_ h=>nomatch h;have N:∀{i:Int},i.natAbs<=10->(Th.num i).small:=λh j e=>by cases e;exact h
 cases D with
 |times a p G M J=>
  have two:∀{u v:Th},u.small->v.small->∀t∈[u,v],t.cJ:=λm l t o=>by
   obtain e|o:=Wo.mp o
   ·exact aa e m.cJ
   ·exact aa (Wj.mp o) l.cJ
  refine H.step<|ej L (λt o=>?_) (Wi rfl) ⟨trivial,?_⟩
  ·obtain e|o:=Wo.mp o
   ·exact aa e dg.1
   ·exact two y1 (N ok.1) t o
  refine ej L (two (N ok.2.1)<|N ok.2.2.1) (Wi rfl) ⟨trivial,?_⟩;refine ej L (two ok.2.2.2.1 ok.2.2.2.2) (Wi rfl) ⟨trivial,?_⟩;refine J7 L I (A.less<|ab rfl) (λu m=>?_) rfl rfl (gH I B ok.2.2.2.1).uv (gH I B ok.2.2.2.2).uv λs t T=>q s t (.tf true)<|T.pl<|ab rfl;refine fc m λt o e=>?_;clear m;subst e;obtain e|o:=Wo.mp o
  ·exact aa e<|eg I B U
  ·obtain e|o:=Wo.mp o
   ·exact aa e<|eg I B y1
   ·exact aa (Wj.mp o)<|eg I B (N ok.1)
 |jz both P=>
  have e:fi (.d<|aP P.bN)=false:=rfl;refine H.step<|TU L ok<|GZ L ?_;have h:=I6 ok;exact Sp (d:=d+6) (k:=0) L I A (uA I both) h.1 h.2 λs t T=>q s t (.tf true)<|T.pl<|WC _
 |xt a b=>
  refine H.step<|ej L (λt o=>?_) (Wi rfl) ⟨trivial,?_⟩
  ·obtain e|o:=Wo.mp o
   ·exact aa e ok.1.cJ
   ·obtain e|o:=Wo.mp o
    ·exact aa e dg.2
    ·exact aa (Wj.mp o) ok.2.cJ
  exact QF L I (A.less<|ab rfl) (gH I B ok.1).uv (gH I B y1).uv (gH I B ok.2).uv λs t T=>q s t (.tf true)<|T.pl<|ab rfl
 |«at» b n t r u=>
  have z:bz n<2:=by clear ok q;cases n<;>decide
  have E:(Ef n).val=aT (bz n):=by clear ok q z;cases n<;>rfl
  have fb:(Ef n).cJ:=by clear ok q z E;cases n;exact dg.1;exact dg.2
  refine H.step<|yI L fb ⟨trivial,?_⟩;refine aa E<|uR L (Wh ok.1<|ab rfl) ok.2.1.cJ (Wh ok.2.2.1<|ab rfl) ⟨trivial,?_⟩;refine yI L ok.2.2.2.cJ ⟨trivial,?_⟩;exact L3 Y L (Wh ok.1<|ab rfl) (Wh ok.2.2.1<|ab rfl) I (A.less<|ab rfl) z B (gH I B ok.2.1) (gH I B ok.2.2.2).uv λs t u T=>q s t u ⟨T.I,T.e.more<|ab rfl,T.ok,T.QO,T.ev⟩
end
set_option genCtorIdx false in
inductive Lf where
 |d (D:Dr)|l (eq:Bool)
def jj(eq:Bool):D:=match eq with
 |true=> .tup [.str 18,.int 0,.str 71,nName 111,nName 1]
 |false=> .tup [.str 18,.int 0,.str 73,nName 111,rh 0]
def Lf.node:Lf->D
 |.d D=>D.node
 |.l eq=>jj eq
def Lf.ok:Lf->Prop
 |.d D=>D.ok
 |.l _=>True
noncomputable def ct(w:List Int)(eq:Bool):Bool:=match eq with
 |true=>ah w 1==ah w 0
 |false=>decide<|0<ah w 1
def Lf.means(w:List Int):Lf->Bool
 |.d D=>D.means w
 |.l eq=>ct w eq
section
variable{S:St}{c:Bool}{pt:V}{W:O}{R:List O}{Q:V->UT->Prop}{d:Nat}{g:UT}{K:Kf}{f:D}{r:List D}
def Po{E:Bool}(L:Lo pt W R)(I:Inv Al S)(u:Rm 1 S)
  (q:∀s t,dK 1 S s t (λw=>ct w E)->Q (.d t.en) (UU s c pt W R)):C (d+15) 77 [.loc 1,.d (jj E),.loc 8] (UU S c pt W R) Q:=by
 have v:Uv S (aT 0):=fL<|Ww (ab rfl) I.two;have x:Uv S (aT 1):=fL<|Ww (ab rfl) I.two;obtain _|_:=E
 ·refine H.step (yI (d:=d+4) (t:=.y) L dg.2<|yI (d:=d+4) (t:=.num 0) L (λi e=>by cases e;decide) (CU ?_))
  exact Jl L I u (x.cmp<|pL<|ab rfl) λs t T=>q s t ⟨T.I,T.e,T.ok,λw h=>by refine aa (T.ev w h) ?_;show decide ((UX.int 0).ev w<(aT 1).ev w)=_;rw[cx,bJ];rfl⟩
 ·refine H.step (yI L dg.2<|yI L dg.1<|CU ?_)
  exact IV L I u rfl (x.cmp v) λs t T=>q s t ⟨T.I,T.e,T.ok,λw h=>by refine aa (T.ev w h) ?_;show((aT 1).ev w==(aT 0).ev w)=_;rw[cx,cx];rfl⟩
def Fm{B:Cl}{P:Pl}(l:r.length<=500)(q:iC S c pt W R K B f r):iC S c pt W R K B f (P.node::r):=by
 obtain⟨a,b⟩|_|a|a:=P
 ·exact pz (Wh l<|ab rfl) q
 ·exact Cg (Wh (Wy l 0)<|ab rfl) (ab rfl) q
 ·exact Cg (Wh (Wy l 1)<|ab rfl) (Wi rfl) q
 ·exact Cg (Wh (Wy l 2)<|ab rfl) (Wi rfl) q
def pI{F:Lf}(l:r.length<=400)(k:∀L r,K (.ret (.d (.bool false))) L (UU S c pt W R++[O.list r])):iC S c pt W R K (C (d+2)) f (F.node::r):=by
 obtain D|eq:=F
 ·cases D with
  |times=>exact qd rfl (k · _)
  |xt=>exact qd rfl (k · _)
  |«at»=>exact qd rfl (k · _)
  |jz both P=>
   refine bW (Wh l<|ab rfl) (Wi rfl) rfl rfl rfl<|Fm (Wh (Wy l 4)<|ab rfl) ?_;obtain _|_:=both
   ·exact gE (t:=.x) rfl (k · _)
   ·exact bW (k:=18) (Wh (Wy l 3)<|ab rfl) (Wi rfl) rfl rfl rfl (gE (t:=.y) rfl (k · _))
 ·obtain _|_:=eq
  ·exact bW (k:=18) (Wh l<|ab rfl) (Wi rfl) rfl rfl rfl (Bg (Wh (Wy l 4)<|ab rfl)<|gE (t:=.y) rfl (k · _))
  ·exact bW (k:=18) (Wh l<|ab rfl) (Wi rfl) rfl rfl rfl (gE (t:=.x) rfl (k · _))
def iW{F:Lf}(q:Q (.d F.node) g):C (d+1) 41 [.d F.node] g Q:=by
 obtain D|eq:=F
 ·cases D<;>exact qt rfl rfl q
 ·cases eq<;>exact qt rfl rfl q
end
def wC{A B:List Tr}(h:t[U]?=some (.list (B.map Tr.en)))(J:A.length+B.length<=1000):yi 0 (.d (.lst (A.map Tr.en))) (.loc U) t=some (.lst ((A++B).map Tr.en)):=by
 show((dB t<|.loc U).bind λq=>if 0=0 then Ag (.lst<|A.map Tr.en) (.lst q.2) else none)=_;rw[dO h,Y4,agO rfl];show(if (A.map Tr.en).length+(B.map Tr.en).length<=lim then some (D.lst<|A.map Tr.en++B.map Tr.en) else none)=_;rw[Wm,Wm,agO<|Wh J<|ab rfl,W8]
structure AH (w w':List Int):Prop where
 x:ah w 0=ah w' 0
 y:ah w 1=ah w' 1
def AH.th(h:AH w A)(t:Th):t.val.ev w=t.val.ev A:=by
 obtain _|_|i:=t
 ·exact(cx w 0).trans (h.x.trans (cx A 0).symm)
 ·exact(cx w 1).trans (h.y.trans (cx A 1).symm)
 ·rfl
def AH.z(h:AH w A)(b:Bool):ah w (bz b)=ah A (bz b):=by cases b;exact h.x;exact h.y
def AH.v(h:AH w A)(b:Bool):(w9 b).ev w=(w9 b).ev A:=by
 obtain _|_:=b
 ·exact h.th .x
 ·show 1*ah w 0+(1*ah w 1+0)+0=1*ah A 0+(1*ah A 1+0)+0;exact aa h.x<|aa h.y rfl
def AH.means(h:AH w A)(F:Lf):F.means w=F.means A:=by
 obtain D|eq:=F
 ·cases D with
  |times a p1 p2 t1 t2=>
   have e:([Th.x,.y,.num a].map Th.val).map (UX.ev w)=([Th.x,.y,.num a].map Th.val).map (UX.ev A):=YN λu i=>by
    refine fc i λt _ E=>?_;clear i;subst E;exact h.th t
   delta Lf.means Dr.means;dsimp only;rw[e,h.th,h.th]
  |jz both P=>delta Lf.means Dr.means;dsimp only;rw[h.v]
  |xt a b=>delta Lf.means Dr.means;dsimp only;rw[h.th,h.th a,h.th b]
  |«at» b py t r u=>delta Lf.means Dr.means inR cell;dsimp only;rw[h.z,h.th,h.th]
 ·cases eq<;>(delta Lf.means ct;dsimp only;rw[h.y])<;>rw[h.x]
def dI(h:2<=n):AH (w.take n) w:=⟨au<|Ww (ab rfl) h,au<|Ww (ab rfl) h⟩
section
variable{S:St}{b:Bool}{a:V}{W:O}{R:List O}{Q:V->UT->Prop}{d:Nat}{c:UT}{K:Kf}{f:D}{r:List D}
def Hl(L:Lo a W R):Lo (.loc (R.length+9)) W (R++[.list []]):=⟨.inr ⟨R.length+9,by exact aa Wv<|Nat.add_lt_add_right (WK _) 9,rfl⟩,L.W,λo h=>(WH.mp h).elim (L.R o) λe=>Wj.mp e▸λ_=>rfl⟩
def Mo(E:T=[t])(L:Lo a W R)(I:Inv Al S)(i:aW S t)(q:∀n,dK 0 S S n t.ev->Q (.d n.en) (UU S b a W R)):C (d+3) 51 [.loc 1,.d (.lst (T.map Tr.en))] (UU S b a W R) Q:=by
 have one:∀w,aR w T=t.ev w:=λw=>E▸XT _;have l:T.length=1:=E▸rfl;refine H.step<|(?_:Vb .no _ _ (WQ Tr.en T) _ _ _);refine rD (K:=[]) (tl:=[]) (qg) (λ_ h=>nomatch h) (l▸Wi rfl) (λM v h=>?_) (λtl K U N Y k=>?_)
 ·exact ai (ay L) (q (.tf false) ⟨I,U4.refl,trivial,λw _=>((one w).symm.trans<|h w).symm⟩)
 ·have e:∀u∈K,aW S u:=λu j=>(Y u j).elim (λh=>nomatch h) λh=>by rw[E] at h;exact Wj.mp h▸i
  have N:=l▸(Yx T.length▸N:K.length<=T.length);refine ai (fY aA)<|eB (agT ?_) ?_
  ·rw[Wm];exact XX.mpr<|XA N
  ·refine ai (nZ aA<|gJ K) (aX (λg=>?_) (λg=>?_))
   ·clear U Y;obtain _|⟨u,K⟩:=K
    ·exact Ws g
    obtain _|_:=K
    ·exact ai (agN (λX=>lF tab X<|.int 0) (bR aA)) (ai (ay L)<|q u ⟨I,U4.refl,e u<|.head _,λw _=>(XT _).symm.trans<|(k w).trans<|one w⟩)
    ·exact agR (Yy N) (abT _)
   ·clear U Y e N;obtain _|_:=K
    ·exact ai (ay L) (q (.tf true) ⟨I,U4.refl,trivial,λw _=>(k w).trans<|one w⟩)
    ·exact Ws g
noncomputable def Lf.k(F:Lf):Nat:=match F with|.d _=>24|.l _=>1
def AF{F:Lf}{op:V}{x:V}(L:Lo a W R)(ok:F.ok)(I:Inv Al S)(z:Rm F.k S)(G:Sm S)(q:∀s t,dK F.k S s t (λw=>F.means w)->Q (.d t.en) (UU s b a W R)):
  da tab (C (d+15)) (Oy.drop 5) [(0,.loc 1),(29,.d F.node),(27,.loc 8),(28,op),(3,x)] (UU S b a W R) (Kn.en (R.length+9) false Q):=by
 obtain D|eq:=F
 ·refine QA rfl (Hl L) ok I (z.less (k:=24)<|ab rfl) G λm t u T=>ai (wC (A:=[t]) aA<|Wh (WL oq 1)<|ab rfl)<|HM (L.more λ_=>rfl) T.I (Rm.after z T.e) (λv Y=>?_) ?_ λU J E=>ai (ay L)<|q U J ⟨E.I,T.e.tt E.e,E.ok,λw y=>?_⟩
  ·exact(WH.mp Y).elim (λe=>Wj.mp e▸T.ok) (AR T.QO v)
  ·exact aa Wv<|Wh (WL oq 1) (ab rfl)
  ·refine aa (E.ev w y) ?_
   show(t.ev w&&aR w (c7 u))=_;have h:=T.ev _ (E.e.bwd w y).1;rw[aN T.ok,aN T.QO] at h;exact aa AV<|aa h<|(dI T.I.two).means<|.d D
 ·refine Po (pt:=.loc<|R.length+9) (Hl L) I z λm t T=>ai (wC (A:=[t]) (B:=[]) aA<|Wi rfl)<|Mo (t:=t) rfl (L.more λ_=>rfl) T.I T.ok λJ E=>ai (ay L)<|q m J ⟨T.I,T.e,E.ok,λw y=>(E.ev w y).trans<|T.ev w y⟩
end
section
variable{S:St}{f:Bool}{c:V}{W:O}{R:List O}{Q:V->UT->Prop}{d:Nat}{i:UT}{K:Kf}{g:D}{r:List D}
def A5(L:Lo c W R)(n:Vc l 0=some (.str o))(h:WV o 21=false)(j:∀{Z:V->UT->Prop},Z (.d (.tup l)) (UU S f c W R)->C (d+15) 41 [.d (.tup l)] (UU S f c W R) Z)
  (st:∀{K:Fl->Ev->UT->Prop},(∀a r,K (.ret (.d (.bool false))) a (UU S f c W R++[O.list r]))->iC S f c W R K (C (d+13)) (.tup l) [.tup l])
  (q:da tab (C (d+15)) (Oy.drop 3) [(0,.loc 1),(29,.d (.tup l)),(27,.loc 8),(28,.d (.str o)),(3,.d .none)] (UU S f c W R) (Kn.en (R.length+9) false Q)):C (d+16) 75 [.loc 1,.d (.tup l),.loc 8] (UU S f c W R) Q:=H.step<|j<|ai n<|BY (λz=>qP L (λk=>st k) z) L q
def zl{F:Lf}(L:Lo c W R)(ok:F.ok)(I:Inv Al S)(u:Rm F.k S)(y:Sm S)(q:∀s t,dK F.k S s t (λw=>F.means w)->Q (.d t.en) (UU s f c W R)):C (d+16) 75 [.loc 1,.d F.node,.loc 8] (UU S f c W R) Q:=by
 have T:=λop x=>AF (F:=F) (op:=op) (x:=x) (d:=d) L ok I u y q;have A:∀{l:List D}{o:Nat},F.node=.tup l->Vc l 0=some (.str o)->WV o 21=false->da tab (C<|d+15) (Oy.drop 3) [(0,.loc 1),(29,.d F.node),(27,.loc 8),(28,.d<|.str o),(3,.d .none)] (UU S f c W R) (Kn.en (R.length+9) false Q)->C (d+16) 75 [.loc 1,.d F.node,.loc 8] (UU S f c W R) Q:=λ{l o} e n h q=>by
  have j:∀{Z:V->UT->Prop},Z (.d F.node) (UU S f c W R)->C (d+15) 41 [.d F.node] (UU S f c W R) Z:=λz=>iW z;have st:∀{K:Fl->Ev->UT->Prop},(∀M r,K (.ret<|.d<|.bool false) M<|UU S f c W R++[O.list r])->iC S f c W R K (C<|d+13) F.node [F.node]:=λk=>pI (Wz _) k;rw[e] at q j st ⊢;exact A5 L n h j st q
 clear ok u q;obtain D|eq:=F
 ·cases D<;>exact A rfl rfl rfl (T _ _)
 ·cases eq<;>exact A rfl rfl rfl (T _ _)
def PA{P:St->Tr->Prop}(h:∀{Z:V->UT->Prop},(∀s t,P s t->Z (.d t.en) (UU s (f&& !b) c W R))->C d 75 [.loc 1,.d g,.loc 8] (UU S (f&& !b) c W R) Z)(q:∀s t,P s t->Q (.d t.en) (UU s f c W R)):
  C (d+1) 74 [.loc 1,.d g,.loc 8,.d (.bool b)] (UU S f c W R) Q:=by
 refine H.step ?_;obtain _|_:=f;iterate 2 exact h λs t p=>q s t p
def DT(L:Lo c W R)(I:Inv Al S)(u:Rm 5 S)(Y:aW S a)(J:aW S b)(q:∀s t,dK 5 S s t (λw=>a.ev w|| !b.ev w)->Q (.d t.en) (UU s f c W R)):
  C (d+5) 76 [.loc 1,.d (.str 51),.d a.en,.d b.en] (UU S f c W R) Q:=by
 refine H.step<|qg<|R7 (T:=[a,b.neg]) L I u (λt o=>?_) (Wi rfl) λs t T=>q s t ⟨T.I,T.e,T.ok,λw h=>?_⟩
 ·obtain e|o:=Wo.mp o
  ·rw[e];exact Y
  ·rw[Wj.mp o];exact dp J
 ·rw[T.ev w h,W5,W5,Yv,ck,XC]
def Jp(I:Inv Al S)(u:Rm 1 S)(Y:aW S a)(o:aW S b)(q:∀s t,dK 1 S s t (λw=>a.ev w==b.ev w)->Q (.d t.en) (UU s f c W R)):
  C (d+4) 76 [.loc 1,.d (.str 52),.d a.en,.d b.en] (UU S f c W R) Q:=
 H.step (Rc I u Y o λs t T=>qg<|q s t.neg ⟨T.I,T.e,dp T.ok,λw h=>by rw[ck,T.ev w h];cases a.ev w<;>cases b.ev w<;>rfl⟩)
def Iu(I:Inv Al S)(u:Rm 1 S)(Y:aW S a)(o:aW S b)(q:∀s t,dK 1 S s t (λw=>a.ev w !=b.ev w)->Q (.d t.en) (UU s f c W R)):
  C (d+4) 76 [.loc 1,.d (.str 53),.d a.en,.d b.en] (UU S f c W R) Q:=
 H.step (Rc I u Y o q)
end
inductive y6 where
 |imp|eq|ne
noncomputable def y6.s:y6->Nat|.imp=>51|.eq=>52|.ne=>53
noncomputable def y6.k:y6->Nat|.imp=>5|.eq=>1|.ne=>1
noncomputable def y6.f(a b:Bool):y6->Bool|.imp=>a|| !b|.eq=>a==b|.ne=>a !=b
noncomputable def eL(s:Nat)(a b:D):D:=.tup [.str 18,.int 0,.str s,a,b]
structure s7 (C:Cl) (pt:V) (W:O) (nd:D) (k:Nat) (φ:List Int->Bool):Prop where
 go:∀{S:St}{fr:Bool}{R:List O}{Q:V->UT->Prop},Lo pt W R->Inv Al S->Rm k S->Sm S->(∀S' t,dK k S S' t φ->Q (.d t.en) (UU S' fr pt W R))->C 75 [.loc 1,.d nd,.loc 8] (UU S fr pt W R) Q
 xy:∀w w',AH w w'->φ w=φ w'
def Un(C:Nat->Cl)(n:Nat)(nd:D):Prop:=∀{S:St}{fr:Bool}{pt:V}{W:O}{R:List O}{K:Fl->Ev->UT->Prop}{r:List D}{d:Nat}{all:D},r.length<=n->(∀ρ r,K (.ret<|.d<|.bool false) ρ<|UU S fr pt W R++[O.list r])->iC S fr pt W R K (C<|d+2) all (nd::r)
noncomputable def RA:PS:=.ret<|.me (.v 0) 42 [.sub (.v 29)<|.k<|.int 2,.v 16,.me (.v 0) 41 [.sub (.v 29)<|.k<|.int 4,.v 27,.cmp (.sub (.v 29)<|.k<|.int 2) [8] [.tup [.k<|.str 51,.k<|.str 52,.k<|.str 53]]]]
noncomputable def xQ:O:=.dict 0 [(.str 48,.bool false),(.str 49,.bool true),(.str 50,.bool false),(.str 51,.bool true)]
def u7(o:y6):FN tab 5 (.loc (R.length+9)) [.d (.str o.s)] (UU S f p W (R++[xQ]))=some (.d (match o with|.imp=> .bool true|_=> .none),UU S f p W (R++[xQ])):=by
 show Bs (fe tab (UU S f p W<|R++[xQ])<|.loc<|R.length+9) [.d<|.str o.s] (UU S f p W<|R++[xQ])=_;refine aa (bR aA) ?_;cases o<;>rfl
def kr:nu (UU S f p W (R++[xQ])) (.loc (R.length+9))=none/\zN (Fd tab (UU S f p W (R++[xQ])) (.loc (R.length+9))) 5:=
 ⟨lW aA rfl,agN (λx=>zN (GW x) 5) (bR aA)⟩
section
variable{S:St}{i:Bool}{g:V}{W:O}{R:List O}{Q:V->UT->Prop}{d:Nat}{j:UT}{K:Kf}{m:D}{r:List D}
def v7{F:Lf}:Un C 400 F.node:=λl k=>pI l k
def I7(o:n+4<=400)(h:Un C (n+4) b):Un C n (eL s a b):=λ{S i g W R K r d A} l k=>
 bW (Wh l<|Wh (WD n 4)<|Wh o<|ab rfl) (Wi rfl) rfl rfl rfl (h (Wy l 4) k)
def mr{F:Lf}(ok:F.ok):s7 (C (d+16)) g W F.node F.k (λw=>F.means w):=
 ⟨λL I u s q=>zl L ok I u s q,λw A h=>h.means F⟩
def Tu{o:y6}{a b:Tr}(L:Lo g W R)(I:Inv Al S)(u:Rm o.k S)(Y:aW S a)(J:aW S b)(q:∀l t,dK o.k S l t (λw=>o.f (a.ev w) (b.ev w))->Q (.d t.en) (UU l i g W R)):
  C (d+5) 76 [.loc 1,.d (.str o.s),.d a.en,.d b.en] (UU S i g W R) Q:=by
 obtain _|_|_:=o
 ·exact DT L I u Y J q
 ·exact Jp I u Y J q
 ·exact Iu I u Y J q
def M5{o:y6}{J G:D}{x:List Int->Bool}{a:Tr}{N:Ev}(L:Lo g W R)(I:Inv Al S)(u:Rm (Y+o.k) S)(y:Sm S)(c:aW S a)(h:s7 (C (d+4)) g W G Y x)
  (q:∀l t ac,dK (Y+o.k) S l t (λw=>o.f (a.ev w) (x w))->K (.ret (.d t.en)) ac (UU l i g W R)):
  da tab (C (d+5)) [RA] ((0,.loc 1)::(29,.d (eL o.s J G))::(27,.loc 8)::(28,.d (.str 18))::(3,.d .none)::(16,.d a.en)::N) (UU S i g W R) K:=by
 have A:∀{Z:V->UT->Prop},(∀l t,dK Y S l t x->Z (.d t.en) (UU l i g W R))->C (d+5) 74 [.loc 1,.d G,.loc 8,.d<|.bool true] (UU S i g W R) Z:=λz=>
  PA (λz=>h.go L I (u.less (WD ..)) y z) z
 have B:∀ac p b,dK Y S p b x->C (d+5) 76 [.loc 1,.d<|.str o.s,.d a.en,.d b.en] (UU p i g W R) (Kn.rt ac K):=λac p b T=>
  Tu L T.I (Rm.after u T.e) (c.ext T.e) T.ok λl t E=>q l t ac ⟨E.I,T.e.tt E.e,E.ok,λw v=>by
   have n:=T.ev _ (E.e.bwd w v).1;rw[aN T.ok] at n;exact aa (E.ev w v)<|aa n<|aa (h.xy _ _<|dI T.I.two) rfl⟩
 clear u q;obtain _|_|_:=o;iterate 3 exact A (B _)
def fN{o:y6}{na nb:D}{n:Nat}{ag al:List Int->Bool}(G:s7 (C (d+14)) g W na U ag)(ar:s7 (C (d+14)) g W nb Y al)(un:Un C n nb)(p:4<=n)(am:n<=400):s7 (C (d+16)) g W (eL o.s na nb) (U+(Y+o.k)) (λw=>o.f (ag w) (al w)):=by
 refine⟨λ{S i R Q} L I y J q=>?_,λw B h=>by show o.f (ag w) (al w)=o.f (ag B) (al B);rw[G.xy w B h,ar.xy w B h]⟩;have A:∀{b:Bool}{Z:V->UT->Prop},(∀l t,dK U S l t ag->Z (.d t.en) (UU l i g W R))->C (d+15) 74 [.loc 1,.d na,.loc 8,.d<|.bool b] (UU S i g W R) Z:=λ{b} {Z} z=>
  PA (λz=>G.go L I (y.less (WD ..)) J z) z
 have ap:Un C (n - 4) (eL o.s na nb):=I7 (by rw[ZR p];exact am) (by rw[ZR p];exact un);refine A5 L rfl rfl (λz=>qt rfl rfl z) (λk=>ap (Wz _) k) ?_;have ac:∀{u a aw t},dK U S u a ag->dK (Y+o.k) u aw t (λw=>o.f (a.ev w)<|al w)->dK (U+(Y+o.k)) S aw t (λw=>o.f (ag w)<|al w):=λT E=>⟨E.I,T.e.tt E.e,E.ok,λw v=>by
  exact aa (E.ev w v)<|av (G.xy _ _<|dI T.I.two)<|av (T.ev _ (E.e.bwd w v).1)<|aa (aN T.ok) rfl⟩
 have go:∀{u a R1 K}{N:Ev},dK U S u a ag->Lo g W R1->(∀aw t M,dK (U+(Y+o.k)) S aw t (λw=>o.f (ag w)<|al w)->K (.ret<|.d t.en) M (UU aw i g W R1))->
   da tab (C<|d+15) [RA] ((0,.loc 1)::(29,.d<|eL o.s na nb)::(27,.loc 8)::(28,.d<|.str 18)::(3,.d .none)::(16,.d a.en)::N) (UU u i g W R1) K:=λ{u a R1 K N} T L1 q=>
  M5 L1 T.I (Rm.after y T.e) (J.ext I.two T.e) T.ok ar λaw t M E=>q aw t M<|ac T E
 clear y ap ac;obtain _|_|_:=o
 ·refine A λu a T=>?_
  obtain c|⟨x,s⟩:=a
  ·cases c with
   |true=>exact ec kr.1 kr.2<|ai (u7 .imp)<|ai (ay L)<|q u (.tf true) ⟨T.I,T.e.more (WD ..),trivial,λw v=>by show true=(ag w|| !al w);refine av (T.ev w v) ?_;rfl⟩
   |false=>exact ec kr.1 kr.2<|ai (u7 .imp)<|go T (L.more λ_=>rfl) λaw t M E=>ai (ay L)<|q aw t E
  ·exact go T L λaw t M E=>ai (jK L.low)<|q aw t E
 ·refine A λu a T=>?_
  obtain c|⟨x,s⟩:=a
  ·cases c<;>exact ec kr.1 kr.2 (ai (u7 .eq)<|go T (L.more λ_=>rfl) λaw t M E=>ai (ay L)<|q aw t E)
  ·exact go T L λaw t M E=>ai (jK L.low)<|q aw t E
 ·refine A λu a T=>?_
  obtain c|⟨x,s⟩:=a
  ·cases c<;>exact ec kr.1 kr.2 (ai (u7 .ne)<|go T (L.more λ_=>rfl) λaw t M E=>ai (ay L)<|q aw t E)
  ·exact go T L λaw t M E=>ai (jK L.low)<|q aw t E
end
noncomputable def pN:V:=.d .none
structure sN (C:Cl) (W:O) (nd:D) (b:Bool) (k:Nat) (φ:List Int->Bool):Prop where
 go:∀{S:St}{fr:Bool}{R:List O}{Q:V->UT->Prop},Lo (.d .none) W R->Inv Al S->Rm k S->Sm S->(∀S',cQ Al k S S' (λw=>φ w=true)->Q (.d .none) (UU S' fr (.d .none) W R))->C 80 [.loc 1,.d nd,.loc 8,.d (.bool b)] (UU S fr (.d .none) W R) Q
 xy:∀w w',AH w w'->φ w=φ w'
noncomputable def TB:List PS:=[.asg (.t<|.n 3)<|.me (.v 0) 40 [.v 29,.v 27],.ex<|.me (.v 0) 23 [.ls false [.DG (.v 77) (.v 3)<|.call 36 [.v 3]]]]
def E8(P:Tr->Prop)(h:P t):∀u∈[t],P u:=λu i=>Wj.mp i▸h
def tP{P:L->Prop}(G:P a)(Q:P b):∀u∈[a,b],P u:=λu i=>(Wo.mp i).elim (λe=>e▸G) λh=>Wj.mp h▸Q
section
variable{S:St}{fr:Bool}{c:V}{W:O}{R:List O}{Q:V->UT->Prop}{d:Nat}{f:UT}{K:Kf}{a:D}{r:List D}
def Ha(T:s7 (C (d+2)) (.d .none) W a k j)(L:Lo (.d .none) W R)(I:Inv Al S)(B:Rm (k+1) S)(E:Sm S)
  (q:∀s v,cQ Al (k+1) S s (λw=>(j w==b)=true)->K .next [(0,.loc 1),(29,.d a),(27,.loc 8),(77,.d (.bool b)),(28,x),(70,y),(3,v)] (UU s fr (.d .none) W R)):
  da tab (C (d+2)) TB [(0,.loc 1),(29,.d a),(27,.loc 8),(77,.d (.bool b)),(28,x),(70,y)] (UU S fr (.d .none) W R) K:=T.go L I (B.less (WD ..)) E λm t N=>by
 have A:∀u:Tr,aW m u->(∀w,bH m w->u.ev w=(j w==b))->∀Z:V->UT->Prop,(∀s,cQ Al (k+1) S s (λw=>(j w==b)=true)->Z (.d .none) (UU s fr (.d .none) W R))->C (d+2) 54 [.loc 1,.d<|.lst<|[u].map Tr.en] (UU m fr (.d .none) W R) Z:=λu g i Z z=>
  pM LV.val N.I (Rm.after B N.e) (E8 (aW m) g) (Wi rfl) λU Y=>z U ⟨Y.I,dy N.e Y.e λw h=>by
   rw[W5,Yv,XC,i w h,T.xy _ _<|dI I.two]⟩
 obtain _|_:=b
 ·exact qg (A t.neg (dp N.ok) (λw h=>by refine aa ck<|aa (N.ev w h) ?_;cases j w<;>rfl) _ λU Z=>q U _ Z)
 ·exact A t N.ok (λw h=>by refine aa (N.ev w h) ?_;cases j w<;>rfl) _ λU Z=>q U _ Z
def fq(h:Vc l 0=some (.str o))(g:∀{Z:V->UT->Prop},Z (.d (.tup l)) (UU S fr c W R)->C d 41 [.d (.tup l)] (UU S fr c W R) Z)
  (q:da tab (C d) (Rp.drop 2) [(0,.loc 1),(29,.d (.tup l)),(27,.loc 8),(77,.d (.bool b)),(28,.d (.str o)),(70,.d (.bool fr))] (UU S (fr&&b) c W R) (Kn.en (R.length+9) true Q)):
  C (d+1) 80 [.loc 1,.d (.tup l),.loc 8,.d (.bool b)] (UU S fr c W R) Q:=by
 refine H.step<|g<|ai h ?_;clear g;cases fr<;>exact q
def AQ(P:sN (C (d+1)) W a false k e):sN (C (d+2)) W (.tup [.str 19,.int 0,.str 29,a]) true k e:=
 ⟨λ{S fr R Q} L I u y q=>fq rfl (λz=>qt rfl rfl z) (P.go L I u y λs Z=>q s Z),P.xy⟩
def lC{o:y6}{b:Bool}{e:List Int->Bool}{x y:D}(g:WV o.s 51=false)(T:s7 (C (d+2)) (.d .none) W (eL o.s x y) U e):sN (C (d+3)) W (eL o.s x y) b (U+1) (λw=>e w==b):=by
 refine⟨λ{S fr R Q} L I u E q=>fq rfl (λz=>qt rfl rfl z) ?_,λw B h=>aa (T.xy w B h) rfl⟩;have A:=Ha (b:=b) (x:=.d<|.str 18) (y:=.d<|.bool fr) T L I u E (fr:=fr&&b) (K:=Kn.sq (vS tab (C<|d+2)<|.asg (.at (.v 0) 68) (.v 70)) (Kn.en (R.length+9) true Q)) λj v Z=>q j Z;clear T q;obtain _|_|_:=o
 ·cases g
 iterate 2 (cases b<;>exact A)
end
def Rf(o:Bool)(a b:D):D:=match o with|true=>eL 51 a b|false=>eL 49 a b
section
variable{S:St}{fr:Bool}{f:V}{W:O}{R:List O}{Q:V->UT->Prop}{d:Nat}{i:UT}{K:Kf}{g:D}{r:List D}
def Ih{D:Dr}(ok:D.ok):sN (C (d+17)) W D.node false (24+1) (λw=>D.means w==false):=by
 have T:s7 (C<|d+16) (.d .none) W D.node 24 (λw=>D.means w):=mr (F:=.d D) ok;refine⟨λ{S fr R Q} L I u E q=>?_,λw B h=>by exact aa (T.xy w B h) rfl⟩;have A:=λx=>Ha (b:=false) (x:=x) (y:=.d<|.bool fr) T L I u E (fr:=fr&&false) (K:=Kn.sq (vS tab (C<|d+16)<|.asg (.at (.v 0) 68) (.v 70)) (Kn.en (R.length+9) true Q)) λs v Z=>q s Z;have j:∀{fr}{Z:V->UT->Prop},Z (.d D.node) (UU S fr (.d .none) W R)->C (d+16) 41 [.d D.node] (UU S fr (.d .none) W R) Z:=λz=>iW (F:=.d D) z;clear ok T q;cases D with
 |jz both P=>exact fq rfl j<|A _
 |times=>exact fq rfl j<|A _
 |xt=>exact fq rfl j<|A _
 |«at»=>exact fq rfl j<|A _
def Er(A:sN (C d) W a true l j)(B:sN (C d) W b true k c)(L:Lo (.d .none) W R)(I:Inv Al S)(u:Rm (l+k) S)(y:Sm S)
  (q:∀s,cQ Al (l+k) S s (λw=>(j w&&c w)=true)->Q (.d .none) (UU s fr (.d .none) W R)):C (d+1) 81 [.loc 1,.d (eL 48 a b),.loc 8,.d (.bool true)] (UU S fr (.d .none) W R) Q:=by
 refine H.step<|A.go L I (u.less (WD ..)) y λm z=>⟨trivial,?_⟩;refine B.go L z.I (Rm.after u z.e) (y.ext I.two z.e) λU Y=>⟨trivial,?_⟩;refine ai (jK L.low)<|q U ?_;have:=z.and Y (χ:=λw=>c w=true) λw h=>by rw[B.xy _ _<|dI I.two]
 exact⟨this.I,this.e.iff λw _=>by rw[W7]⟩
def GB(T:s7 (C d) f W g k e)(L:Lo f W R)(I:Inv Al S)(u:Rm k S)(y:Sm S)(q:∀s t,dK k S s t e->Q (.d t.en) (UU s fr f W R)):C (d+1) 74 [.loc 1,.d g,.loc 8,.d (.bool b)] (UU S fr f W R) Q:=
 PA (λz=>T.go L I u y z) q
def Be{K:List Tr}:nk tab (UU S fr f W (R++[.list (K.map Tr.en)])) 9 (.d (.bool true)) (.loc (R.length+9))=some (!K.any λv=>same v (.tf true)):=
 agN (W4 (!·)) ((agN (λX=>bF X (Tr.tf true).en) (bR (o:=.list<|K.map Tr.en) aA)).trans ph)
def uN:nk tab (UU S fr f W R++[.list []]) 9 (.d (.bool true)) (.loc (UU S fr f W R).length)=some true:=Be (K:=[])
def pJ{K:List Tr}(h:K.length<1000):FN tab 0 (.loc (R.length+9)) [.d t.en] (UU S fr f W (R++[.list (K.map Tr.en)]))=some (.d .none,UU S fr f W (R++[.list ((K++[t]).map Tr.en)])):=by
 refine aa (mc aA (by rw[Wm];exact Ww h<|ab rfl)) (aa kR<|aa W8 ?_);rfl
set_option maxHeartbeats 1000000 in
def IQ{o:Bool}{ag al:List Int->Bool}(A:s7 (C (d+2)) pN W a U ag)(B:s7 (C (d+2)) pN W b Y al)(L:Lo pN W R)(I:Inv Al S)(x:Rm (U+Y+1) S)(y:Sm S)
  (q:∀s,cQ Al (U+Y+1) S s (λw=>(ag w||(al w !=o))=true)->Q (.d .none) (UU s fr pN W R)):C (d+4) 81 [.loc 1,.d (Rf o a b),.loc 8,.d (.bool true)] (UU S fr pN W R) Q:=by
 have L1:∀{K:List Tr},Lo pN W (R++[.list<|K.map Tr.en]):=L.more λ_=>rfl;have lc:∀{S:St}{K:List Tr},_:=λ{S:St} {K:List Tr}=>cu (σ:=UU S fr pN W<|R++[.list<|K.map Tr.en]) aA 0 rfl;have ap:∀{a0:St}{T:List Tr}{ρ:Ev},T.length<=4->Inv Al a0->Rm 1 a0->(∀u∈T,aW a0 u)->(∀s,cQ Al 1 a0 s (λw=>T.any (Tr.ev w)=true)->cQ Al (U+Y+1) S s (λw=>(ag w||(al w !=o))=true))->
   C (d+3) 54 [.loc 1,.loc<|R.length+9] (UU a0 fr pN W<|R++[.list<|T.map Tr.en]) (Kn.ex ρ<|Kn.en (R.length+9) false Q):=λJ I2 n j z=>
  pM (LV.loc aA) I2 n j J λM Z3=>ai (ay L)<|q M<|z M Z3
 have aw:∀{m a u},dK U S m a ag->∀a0 b,dK Y m a0 b al->aW a0 u->(∀w,u.ev w=(b.ev w !=o))->∀ρ,C (d+3) 54 [.loc 1,.loc<|R.length+9] (UU a0 fr pN W<|R++[.list<|([a]++[u]).map Tr.en]) (Kn.ex ρ<|Kn.en (R.length+9) false Q):=λ{m a u} N a0 b G ok l ρ=>by
  have E:=N.e.tt G.e;refine ap (T:=[a,u]) (Wi rfl) G.I (Rm.after (k:=U+Y) x E) (tP (N.ok.ext G.e) ok) λM Z3=>⟨Z3.I,dy E Z3.e λw v=>?_⟩;rw[W5,W5,Yv,XC,hJ N G.e (λw=>A.xy _ _<|dI N.I.two) v,l,G.ev w v,A.xy _ _<|dI I.two,B.xy _ _<|dI I.two]
 have first:∀{m a}{ρ:Ev},dK U S m a ag->same a (.tf true)->C (d+3) 54 [.loc 1,.loc<|R.length+9] (UU m fr pN W<|R++[.list<|[a].map Tr.en]) (Kn.ex ρ<|Kn.en (R.length+9) false Q):=λ{m a ρ} N e=>by
  refine ap (Wi rfl) N.I (Rm.after (x.less<|Wy (WD ..) 1) N.e) (E8 _ N.ok) λM Z3=>⟨Z3.I,U4.more (dy N.e Z3.e λw v=>?_) (Wy (WD ..) 1)⟩;have h:=N.ev w v;rw[U6.mp e] at h ⊢;exact aa (A.xy _ _<|dI I.two)<|av h<|⟨λ_=>rfl,λ_=>rfl⟩
 have ac:∀{m:St}{a:Tr}{c:Bool},same a (.tf true)=c->nk tab (UU m fr pN W<|R++[.list<|[a].map Tr.en]) 9 (.d<|.bool true) (.loc<|R.length+9)=some (!c):=λ{m a c} e=>by
  rw[Be,W5,Yv,e,XC]
 have go:∀(b1:Bool){m:St}{K:List Tr}{Z:V->UT->Prop},Inv Al m->Rm Y m->Sm m->(∀s t,dK Y m s t al->Z (.d t.en) (UU s fr pN W<|R++[.list<|K.map Tr.en]))->C (d+3) 74 [.loc 1,.d b,.loc 8,.d<|.bool b1] (UU m fr pN W<|R++[.list<|K.map Tr.en]) Z:=λb1 {m K Z} I1 ax p z=>GB B L1 I1 ax p z;have ar:∀(b1:Bool){Z:V->UT->Prop},(∀s t,dK U S s t ag->Z (.d t.en) (UU s fr pN W<|R++[.list []]))->C (d+3) 74 [.loc 1,.d a,.loc 8,.d<|.bool b1] (UU S fr pN W<|R++[.list []]) Z:=λb1 {Z} z=>GB (b:=b1) A (L1 (K:=[])) I (x.less<|Wh (WD ..)<|W9 _) y z;have am:∀{S:St},nu (UU S fr pN W<|R++[.list []]) (.loc<|R.length+9)=none/\zN (Fd tab (UU S fr pN W<|R++[.list []])<|.loc<|R.length+9) 0:=λ{S}=>lc (S:=S) (K:=[]);clear q ap;obtain _|_:=o
 ·refine H.step (ai uN<|ar false λm a N=>ec am.1 am.2<|ai (pJ (K:=[])<|Wi rfl) ⟨trivial,?_⟩)
  rcases e:same a (.tf true) with _|_
  ·refine ai (ac e) (go false N.I (Rm.after (x.less<|W9 _) N.e) (y.ext I.two N.e) λa0 b G=>ec (lc (K:=[a])).1 lc.2<|ai (pJ (K:=[a])<|Wi rfl) ⟨trivial,?_⟩)
   exact aw N a0 b G G.ok (λw=>by cases b.ev w<;>rfl) []
  ·exact ai (ac e) ⟨trivial,first (ρ:=[]) N e⟩
 ·refine H.step (ai uN<|ar false λm a N=>ec am.1 am.2<|ai (pJ (K:=[])<|Wi rfl) ⟨trivial,?_⟩)
  rcases e:same a (.tf true) with _|_
  ·refine ai (ac e) (go true N.I (Rm.after (x.less<|W9 _) N.e) (y.ext I.two N.e) λa0 b G=>ec (lc (K:=[a])).1 lc.2<|qg<|ai (pJ (K:=[a])<|Wi rfl) ⟨trivial,?_⟩)
   exact aw N a0 b G (dp G.ok) (λw=>by refine aa ck ?_;cases b.ev w<;>rfl) []
  ·exact ai (ac e) ⟨trivial,first (ρ:=[]) N e⟩
end
def EW:inD v d↔iD v d:=by
 show d.any _=true↔_;rw[WR];exact⟨λz=>ae z λp Y h=>⟨p,Y,agS ((W7 ..).mp h).1,agS ((W7 ..).mp h).2⟩,λz=>aj z λp Y m t=>⟨p,Y,(W7 ..).mpr ⟨agT m,agT t⟩⟩⟩
def D8:iD v [(a,a),(a+2,a+2)]↔v=a\/v=a+2:=by
 constructor
 ·rintro ⟨p,Y,h⟩
  obtain e|Y:=Wo.mp Y
  ·rw[e] at h;exact .inl<|Xa h.2 h.1
  ·rw[Wj.mp Y] at h;exact .inr<|Xa h.2 h.1
 ·rintro (e|e)
  ·exact⟨_,.head _,by exact aa e ⟨WT _,WT _⟩⟩
  ·exact⟨_,.tail _<|.head _,by exact aa e ⟨WT _,WT _⟩⟩
def Em:¬iD v []:=λz=>ae z λ_ h _=>nomatch h
section
variable{S:St}{c:Bool}{f:V}{W:O}{R:List O}{Q:V->UT->Prop}{d:Nat}{g:UT}{K:Kf}{i:D}{r:List D}
def SH{v:UX}{P:Pl}(ok:P.ok)(L:Lo f W R)(I:Inv Al S)(u:Rm 5 S)(Y:Nv S v)(q:∀s,cQ Al 5 S s (λw=>inD (v.ev w) P.bN=true)->Q (.d .none) (UU s c f W R)):C (d+8) 82 [.loc 1,.d v.en,.d (aP P.bN)] (UU S c f W R) Q:=by
 have A:∀{s k}{j:List Int->Prop},cQ Al k S s j->k<=5->(∀w,j w↔iD (v.ev w) P.bN)->cQ Al 5 S s (λw=>inD (v.ev w) P.bN=true):=λZ M h=>⟨Z.I,(Z.e.more M).iff λw _=>(h w).trans EW.symm⟩;have n:P.bN=[]->C (d+8) 82 [.loc 1,.d v.en,.d<|aP P.bN] (UU S c f W R) Q:=λe=>by
  have t:=λs (Z:cQ Al 1 S s λ_=>False)=>q s<|A Z (ab rfl) λw=>⟨λh=>h.elim,λh=>agR (e▸h) Em⟩;exact aa e<|FK L I (u.less<|ab rfl) t
 have one:∀a b,P.bN=[(a,b)]->a.natAbs<=60->b.natAbs<=60->C (d+8) 82 [.loc 1,.d v.en,.d<|aP P.bN] (UU S c f W R) Q:=λa b e G T=>by
  have t:=λs (Z:cQ Al 2 S s λw=>a<=v.ev w/\v.ev w<=b)=>q s<|A Z (ab rfl) λw=>by exact aa e dW.symm
  exact aa e<|EP L I (u.less<|ab rfl) Y (Wh G<|ab rfl) (Wh T<|ab rfl) t
 obtain⟨a,b⟩|_|a|a:=P
 ·rcases e:decide (a<=b) with _|_
  ·exact n (by rw[Pl.bN,e])
  ·exact one a b (by rw[Pl.bN,e]) ok.1 ok.2
 ·exact n rfl
 ·exact one a a rfl ok ok
 ·exact Ds L I u Y ok λs Z=>q s<|A Z (ab rfl) λw=>D8.symm
def JD{both:Bool}(ok:P.ok):sN (C (d+15)) W (Dr.jz both P).node true 5 (λw=>(Dr.jz both P).means w):=by
 refine⟨λ{S c R Q} L I u y q=>?_,λw A h=>h.means<|.d<|.jz both P⟩;have j:∀{c}{Z:V->UT->Prop},Z (.d (Dr.jz both P).node) (UU S c (.d .none) W R)->C (d+14) 41 [.d (Dr.jz both P).node] (UU S c (.d .none) W R) Z:=λz=>iW (F:=.d<|.jz both P) z;exact fq rfl j<|qP (d:=d+11) L (λk=>pI (F:=.d<|.jz both P) (Wz _) k) (GZ L<|UD L ok<|SH ok L I u (uA I both) λs Z=>q s Z)
def uj(A:s7 (C (d+2)) pN W a l j)(B:s7 (C (d+2)) pN W b k e):sN (C (d+5)) W (Rf o a b) true (l+k+1) (λw=>j w||(e w !=o)):=by
 refine⟨λ{S c R Q} L I u y q=>?_,λw E h=>aa (A.xy w E h)<|aa (B.xy w E h) rfl⟩;have X:=λ(T:Bool) (Q:V->UT->Prop)=>IQ (o:=o) (fr:=T) (Q:=Q) A B L I u y;obtain _|_:=o;iterate 2 exact fq rfl (λz=>qt rfl rfl z) (X _ _ λs Z=>q s Z)
def FC(A:sN (C (d+1)) W a true l j)(B:sN (C (d+1)) W b true k e):sN (C (d+3)) W (eL 48 a b) true (l+k) (λw=>j w&&e w):=
 ⟨λ{S c R Q} L I u y q=>fq rfl (λz=>qt rfl rfl z) (Er A B L I u y λs Z=>q s Z),λw E h=>aa (A.xy w E h)<|aa (B.xy w E h) rfl⟩
end
def yt{L:Type}{l:List L}:uq (l.map λ_=>D.bool true)=some true:=by
 induction l with
 |nil=>rfl
 |cons a l i=>
  show(uq<|l.map λ_=>D.bool true).map (true&&·)=_;refine aa i ?_;rfl
def Vx{L:Type}{l:List L}:ER tab 14 [.d (.lst (l.map λ_=>D.bool true))] t=some (.d (.bool true),t):=by
 show(uq<|l.map λ_=>D.bool true).map (λb=>(V.d<|.bool b,t))=_;refine aa yt ?_;rfl
def Ie{Q:V->UT->Prop}(e:i=j)(q:Q (.d (.bool j)) t):Q (.d (.bool i)) t:=e▸q
def zg(l:List (Int×Int)):(l.map λp=>D.int p.2).all (plain 11)=true:=aa Zr<|Wt.mpr λ_ _=>rfl
section
variable{S:St}{j:Bool}{o:V}{W:O}{R:List O}{Q:V->UT->Prop}{d:Nat}{g:UT}{K:Kf}{u:D}{r:List D}
def QZ(q:Q (.d (.bool true)) g):C (d+1) 10 [.d (.int i)] g Q:=H.step q
def S7(p:0<=i)(h:i<n)(q:Q (.d (.bool true)) g):C (d+2) 12 [.d (.int i),.d (.int n)] g Q:=H.step<|QZ<|eB (agT p)<|Ie (agT h) q
def UR(h:M.length<=100)(q:Q (.d (.bool true)) g):C (d+2) 11 [.d (cC M)] g Q:=by
 refine H.step (?_:bb .no _ _ (WQ aI M) [] _ _);exact aZ aI id (λ_=> .bool true) (λt p Q k=>QZ<|k) (Wh h<|by decide)<|bG (aQ (by rw[Wm];exact Wh h<|by decide))<|ai Vx q
def rC(J:G.length<=100)(h:∀x∈G,x<U)(q:Q (.d (.bool true)) g):C (d+3) 13 [.d (.str 2),.d (bS G),.d (.int U)] g Q:=by
 refine H.step (?_:bb .no _ _ (WQ aH G) [] _ _);exact aZ aH id (λ_=> .bool true) (λt p Q k=>S7 (YD t) (XX.mpr<|h t p)<|k) (Wh J<|by decide)<|bG (aQ (by rw[Wm];exact Wh J<|by decide))<|ai Vx q
def FO(h:s=58\/s=59)(q:Q (.d (.bool true)) g):C (d+3) 13 [.d (.str 6),.d (.str s),.d n] g Q:=by
 rcases h with e|e<;>subst e<;>exact H.step q
def Bl(J:f.length<=100)(h:∀x∈f,x<Y)(e:U=58\/U=59)(q:Q (.d (.str 13)) g):C (d+4) 14 [.d (Told.diff f U).en,.d (.int Y)] g Q:=by
 refine H.step<|rC J h ⟨trivial,FO e ⟨trivial,?_⟩⟩;exact q
def KS(q:Q (.d (.str 13)) g):da tab (C d) (OC.drop 4) [(13,.d (Told.gZ xs [a,b] [e,f]).en),(17,.d m),(11,.d (.str 106)),(19,.d (.str 124)),(20,.d (.int 3)),(18,.d x)] g (Kn.en n true Q):=by
 refine⟨trivial,trivial,?_⟩;exact q
def KW{e f:Int}(c:xs.length<=100)(h:∀x∈xs,x<U)(q:Q (.d (.str 13)) g):da tab (C (d+3)) (OC.drop 3) [(13,.d (Told.gZ xs [J,I] [e,f]).en),(17,.d (.int U)),(11,.d (.str 106)),(19,.d (.str 124))] g (Kn.en Y true Q):=by
 have E:=KS (d:=d+3) (n:=Y) (m:=.int U) (x:=.str 4) (xs:=xs) (a:=J) (b:=I) (e:=e) (f:=f) q;have A:∀{l:List Int},l.length<=100->∀{Z:V->UT->Prop},Z (.d<|.bool true) g->C (d+3) 13 [.d<|.str 4,.d<|cC l,.d<|.int U] g Z:=λc _ z=>(H.step<|UR c z);refine rC c h ⟨trivial,?_⟩;refine A (Wi rfl) ⟨trivial,?_⟩;refine A (Wi rfl) ⟨trivial,?_⟩;exact A (Wi rfl) ⟨trivial,E⟩
def Cx{e f:Int}(c:i.length<=100)(h:∀x∈i,x<U)(q:Q (.d (.str 13)) g):C (d+4) 14 [.d (Told.gZ i [J,I] [e,f]).en,.d (.int U)] g Q:=
 H.step (KW c h q)
def Ra(h:l.length<=100)(q:Q (.d (cC l)) g):C (d+1) 40 [.d (.lst (l.map aI))] g Q:=by
 refine H.step (?_:bb .no _ _ (WQ aI l) [] _ _);refine aZ aI id aI (λt p Q k=>k) (Wh h<|by decide)<|bG (aQ (by rw[Wm];exact Wh h<|by decide)) ?_;rw[adb];exact q
def UK{i:List UX}(I:Inv Al S)(h:∀v∈i,n9 S v)(J:i.length<=100)(q:∀s,s=58\/s=59->Q (.d (.str s)) (UU S j o W R)):C (d+4) 47 [.loc 1,.d (.lst (i.map UX.en))] (UU S j o W R) Q:=by
 have e:=Wh J<|show 100<=lim by decide
 refine H.step (?_:bb .no _ _ (WQ UX.en i) [] _ _);refine aZ UX.en (eU S) iE (λv a Q k=>JP I (h v a).ok (h v a).c<|k) e<|bG (aQ (by rw[Wm];exact e)) (?_:bb .no _ _ (WQ iE<|i.map<|eU S) [] _ _);refine bh iE (λp=> .int p.2) (λp=>decide<|(500:Int)<p.2 - p.1) (λp Y K b A=>aX (λh=>b h) (λh=>A h)) (by rw[Wm];exact e)<|bG (dj (by rw[Wm];exact e)) ?_;generalize ((i.map<|eU S).filter λp=>decide<|(500:Int)<p.2 - p.1)=l;refine ai (dh<|zg l)<|aX (λ_=>q 58<|.inl rfl) (λ_=>q 59<|.inr rfl)
end
def PU(f:Int->Bool)(p q r:Int):([p,q,r].filter f).isEmpty=(!f p&&(!f q&& !f r)):=by
 cases h:f p with
 |true=>exact aa (Zl h) rfl
 |false=>
  refine aa (Zm λe=>Ws<|h.symm.trans e) ?_;cases t:f q with
  |true=>exact aa (Zl t) rfl
  |false=>
   refine aa (Zm λe=>Ws<|t.symm.trans e) ?_;cases Y:f r with
   |true=>exact aa (Zl Y) rfl
   |false=>exact aa (Zm λe=>Ws<|Y.symm.trans e) rfl
def Qp(p q r v:Int):decide ((1:Int)<(([p,q,r].count v:Nat):Int))=((p==v&&q==v)||((p==v&&r==v)||(q==v&&r==v))):=by
 refine aa aaN<|aa aaN<|aa aaN<|aa List.count_nil ?_;cases p==v<;>cases q==v<;>cases r==v<;>rfl
def KZ(p q r:Int):(([p,q,r].filter λv=>decide ((1:Int)<(([p,q,r].count v:Nat):Int))).isEmpty)=((q !=p)&&((r !=p)&&(r !=q))):=by
 refine aa (PU _ p q r)<|aa (Qp p q r p)<|aa (Qp p q r q)<|aa (Qp p q r r) ?_;refine aa (agW p)<|aa (agW q)<|aa (agW r)<|aa (aaG (a:=p) (b:=q))<|aa (aaG (a:=p) (b:=r))<|aa (aaG (a:=q) (b:=r)) ?_;show _=(!(q==p)&&(!(r==p)&& !(r==q)));cases q==p<;>cases r==p<;>cases r==q<;>rfl
section
variable{S:St}{g:Bool}{f:V}{W:O}{R:List O}{Q:V->UT->Prop}{d:Nat}{i:UT}{K:Kf}{j:D}{r:List D}
def qw(V:Au S s k z)(Y:∀v∈k,fj S v)(o:CY s.n t)(h:∀w,z.map (ah w)=k.map (UX.ev w)->(t.holds w↔ψ w))(b:∀w,k.map (UX.ev (w.take S.n))=k.map (UX.ev w)->(ψ w↔ψ (w.take S.n))):
  cQ Al (k.length+1) S (s.ask t) ψ:=
 ⟨gQ V.I o,dy V.e fJ λw x=>(h w<|V.ev w x).trans<|b w<|dw λu l=>(Y u l).ok⟩
def Mq(L:Lo f W R)(I:Inv Al S)(u:Rm 4 S)(h:∀v∈[a,b,c],fj S v)
  (q:∀k,cQ Al 4 S k (λw=>((b.ev w !=a.ev w)&&((c.ev w !=a.ev w)&&(c.ev w !=b.ev w)))=true)->Q (.d .none) (UU k g f W R)):
  C (d+8) 83 [.loc 1,.d (.str 89),.d (.lst [bI [(1,3)] [a,b,c]]),.d (.int 0)] (UU S g f W R) Q:=by
 refine H.step<|iB ⟨trivial,?_⟩;refine OA I (u.less (k':=3)<|by decide) h (Wi rfl) λm z V=>?_;have n:z.length=3:=V.len;have o:z.length<=100:=by rw[n];decide
 refine UK V.I (λv Y=>((h v Y).ext V.e).ton9) (Wi rfl) λs l=>f8<|Bl o V.lt l ?_;have T:=Rm.after (k':=1) u V.e;refine f7 (d:=d+6) (t:=.diff z s) (Ww (WK _) T.t)<|q _ (qw V h ⟨trivial,by show z.length<=1000;rw[n];decide,V.lt⟩ (λw e=>?_) λw e=>?_)
 ·show((z.map<|ah w).filter λv=>decide<|(1:Int)<((z.map<|ah w).count v:Nat)).isEmpty=true↔_
  rw[e];exact Eq.to_iff<|agN (· =true) (KZ ..)
 ·have e:=Xk e
  have E:=Xk e.2;rw[e.1,E.1,(Xk E.2).1]
def Ky(L:Lo f W R)(I:Inv Al S)(u:Rm 4 S)(h:∀v∈vs,fj S v)(J:vs.length=3)
  (q:∀s,cQ Al 4 S s (λw=>(((((vs.map (UX.ev w)).count p:Nat):Int)==n)&&((((vs.map (UX.ev w)).count x:Nat):Int)==N))=true)->Q (.d .none) (UU s g f W R)):
  C (d+9) 83 [.loc 1,.d (.str 101),.d (.lst [bI c vs,bI o [.int p,.int x],bI a [.int n,.int N]]),.d (.int 0)] (UU S g f W R) Q:=by
 refine H.step<|iB ⟨trivial,iB ⟨trivial,iB ⟨trivial,?_⟩⟩⟩;refine Fu (vs:=[.int n,.int N]) (Wi rfl)<|Ra (l:=[n,N]) (Wi rfl) ?_;refine OA I (u.less (by rw[J];decide)) h (by rw[J];decide) λm z V=>?_;have k:=V.len.trans J;have b:z.length<=100:=by rw[k];decide
 refine Ra (l:=[p,x]) (Wi rfl)<|f8 (d:=d+7)<|Cx b V.lt ?_;have E:=V.e;rw[J] at E;have T:=Rm.after (k':=1) u E;refine f7 (d:=d+7) (t:=.gZ z [p,x] [n,N]) (Ww (WK _) T.t) ?_;have X:=qw (ψ:=λw=>(((((vs.map<|UX.ev w).count p:Nat):Int)==n)&&((((vs.map<|UX.ev w).count x:Nat):Int)==N))=true) (t:=.gZ z [p,x] [n,N]) V h ⟨by show 2<=1000;decide,by show z.length<=1000;rw[k];decide,V.lt⟩ (λw e=>?_) λw e=>?_
 ·rw[J] at X;exact q _ X
 ·show([(((z.map<|ah w).count p:Nat):Int),(((z.map<|ah w).count x:Nat):Int)]==[n,N])=true↔_
  rw[e];show(_&&(_&&true))↔_;rw[XT]
 ·rw[e]
end
section
variable{S:St}{c:Bool}{f:V}{W:O}{R:List O}{Q:V->UT->Prop}{d:Nat}{g:UT}{K:Kf}{l:D}{r:List D}
def IU(L:Lo f W R)(I:Inv Al S)(z:Rm 16 S)(h:∀v∈i,fj S v)(J:i.length=3)(M:i.all UX.known=false)(m:Uv S N)(x:Uv S B)(n:[N,B].all UX.known=false)
  (q:∀s,cQ Al 16 S s (λw=>(((((i.map (UX.ev w)).count p:Nat):Int)==N.ev w)&&((((i.map (UX.ev w)).count A:Nat):Int)==B.ev w))=true)->Q (.d .none) (UU s c f W R)):
  C (d+9) 83 [.loc 1,.d (.str 101),.d (.lst [bI k i,bI a [.int p,.int A],bI b [N,B]]),.d (.int 0)] (UU S c f W R) Q:=by
 refine H.step<|iB ⟨trivial,iB ⟨trivial,iB ⟨trivial,?_⟩⟩⟩;refine Fu (Wi rfl)<|aa n<|J7 L I (z.less<|ab rfl) h J M m x λo t T=>pM LV.val T.I (Rm.after z T.e) (E8 _ T.ok) (Wi rfl) λU Z=>q U ⟨Z.I,dy T.e Z.e λw y=>?_⟩;rw[W5,Yv,XC,T.ev w y,dw λu j=>(h u j).ok,aB m.ok,aB x.ok]
def Nt{r:Int}(L:Lo pN W R)(h:J.natAbs<=60)(k:r.natAbs<=1000)(I:Inv Al S)(x:Rm 8 S)(u:U<2)(y:Sm S)(Y:Uz S a)(M:Uv S wv)
  (q:∀s,cQ Al 8 S s (λw=>(inR J U w&&(wv.ev w==cell J U a r w))=true)->Q (.d .none) (UU s c pN W R)):
  C (d+9) 83 [.loc 1,.d (.str 70),.d (.lst [(aT U).en,bI [(J,J+1)] [a,.int r],wv.en]),.d (.int 0)] (UU S c pN W R) Q:=by
 refine H.step<|E0 ⟨trivial,iB ⟨trivial,E0 ⟨trivial,?_⟩⟩⟩;refine LI L h k I (x.less<|ab rfl) u y Y M λm t T=>pM LV.val T.I (Rm.after x T.e) (E8 _ T.ok) (Wi rfl) λi Z=>?_;have X:=T.e.trans (χ:=λw=>(wv.ev w==cell J U a r w)=true) Z.e λw v=>?_
 ·refine q i ⟨Z.I,X.iff λw _=>?_⟩
  rw[W7];show _↔(decide _&&decide _)=true/\_;rw[W7,agU,agU]
 ·show([t].any _)↔(_==cell J U a r (w.take S.n))=true
  unfold cell;rw[W5,Yv,XC,T.ev w v,aB M.ok,au<|Ww u I.two,aB Y.uv.ok];rfl
def JM{D:Dr}(ok:D.ok):sN (C (d+17)) W D.node true 16 (λw=>D.means w):=by
 refine⟨λ{S c R Q} L I B J q=>?_,λw G h=>h.means<|.d D⟩;have y1:Th.y.small:=λ_ h=>nomatch h;have x1:Th.x.small:=λ_ h=>nomatch h;have T:∀{i:Int},i.natAbs<=10->(Th.num i).small:=λh j e=>by cases e;exact h
 have M:∀{k s}{ψ:List Int->Prop},k<=16->cQ Al k S s ψ->cQ Al 16 S s ψ:=λh Z=>⟨Z.I,Z.e.more h⟩;have ac:∀{c}{Z:V->UT->Prop},Z (.d D.node) (UU S c (.d .none) W R)->C (d+16) 41 [.d D.node] (UU S c (.d .none) W R) Z:=λz=>iW (F:=.d D) z;have st:∀{c}{Z:V->UT->Prop},Z (.d<|.bool false) (UU S c (.d .none) W R)->C (d+16) 69 [.loc 1,.d D.node,.loc 8] (UU S c (.d .none) W R) Z:=λz=>qP (d:=d+13) L (λk=>pI (F:=.d D) (Wz _) k) z;cases D with
 |jz both P=>exact(JD ok).go L I (B.less<|ab rfl) J λs Z=>q s<|M (ab rfl) Z
 |xt a b=>
  refine fq rfl ac<|st<|ej L (λt o=>?_) (Wi rfl) ⟨trivial,?_⟩
  ·obtain e|o:=Wo.mp o
   ·rw[e];exact ok.1.cJ
   ·exact tP dg.2 ok.2.cJ t o
  refine Mq L I (B.less<|ab rfl) (λv Y=>?_) λs Z=>q s<|M (ab rfl) Z;obtain e|Y:=Wo.mp Y
  ·exact aa e<|eg I J ok.1
  ·exact tP (eg I J y1) (eg I J ok.2) v Y
 |«at» b n t r u=>
  have A:bz n<2:=by clear ok q ac st;cases n<;>decide
  have E:(Ef n).val=aT (bz n):=by clear ok q ac st A;cases n<;>rfl
  have fb:(Ef n).cJ:=by clear ok q ac st A E;cases n;exact dg.1;exact dg.2
  refine fq rfl ac<|st<|yI L fb ⟨trivial,?_⟩;refine aa E<|uR L (Wh ok.1<|ab rfl) ok.2.1.cJ (Wh ok.2.2.1<|ab rfl) ⟨trivial,?_⟩;refine yI L ok.2.2.2.cJ ⟨trivial,?_⟩;exact Nt L (Wh ok.1<|ab rfl) (Wh ok.2.2.1<|ab rfl) I (B.less<|ab rfl) A J (gH I J ok.2.1) (gH I J ok.2.2.2).uv λs Z=>q s<|M (ab rfl) Z
 |times a p N t1 U=>
  have two:∀{u v:Th},u.small->v.small->∀t∈[u,v],t.cJ:=λm Y=>tP m.cJ Y.cJ;have ag:∀u∈[Th.x,.y,.num a].map Th.val,fj S u:=λu m=>by
   refine fc m λt o e=>?_;clear m;subst e;obtain e|o:=Wo.mp o
   ·exact aa e<|eg I J x1
   ·exact tP (P:=λt:Th=>fj S t.val) (eg I J y1) (eg I J<|T ok.1) t o
  refine fq rfl ac<|st<|ej L (λt o=>?_) (Wi rfl) ⟨trivial,?_⟩
  ·obtain e|o:=Wo.mp o
   ·exact aa e dg.1
   ·exact two y1 (T ok.1) t o
  refine ej L (two (T ok.2.1)<|T ok.2.2.1) (Wi rfl) ⟨trivial,?_⟩;refine ej L (two ok.2.2.2.1 ok.2.2.2.2) (Wi rfl) ⟨trivial,?_⟩;clear ac st;rcases e:[t1.val,U.val].all UX.known with _|_
  ·exact IU L I B ag rfl rfl (gH I J ok.2.2.2.1).uv (gH I J ok.2.2.2.2).uv e λs Z=>q s Z
  ·obtain _|_|T:=t1
   iterate 2 exact nomatch e
   ·obtain _|_|n2:=U
    iterate 2 exact nomatch e
    ·exact Ky L I (B.less<|ab rfl) ag rfl λs Z=>q s<|M (ab rfl) ⟨Z.I,Z.e.iff λw _=>by show _↔(_==(UX.int T).ev w&&_==(UX.int n2).ev w)=true;rw[bJ,bJ]⟩
end
def gm(n l:D):Nat->D
 |0=>n
 |1=> .tup [.str 19,.int 0,.str 29,n]
 |2=>eL 52 (eL 51 n l) l
 |3=>eL 53 (eL 51 l n) l
 |4=>eL 49 (eL 51 l n) l
 |5=> .tup [.str 19,.int 0,.str 29,eL 52 (eL 51 l n) n]
 |_=>eL 48 (eL 51 n l) (eL 49 n l)
noncomputable def sJ(m l:Bool):Nat->Bool
 |0=>m
 |1=> !m
 |2=>(m|| !l)==l
 |3=>(l|| !m) !=l
 |4=>(l|| !m)||l
 |5=>(l|| !m) !=m
 |_=>(m|| !l)&&(m||l)
def sN.to{C:Cl}{W:O}{n:D}{b:Bool}{d a:List Int->Bool}(P:sN C W n b U d)(M:U<=Y)(h:∀w,d w=a w):sN C W n b Y a:=
 ⟨λL I r sm q=>P.go L I (r.less M) sm λs Z=>q s ⟨Z.I,(Z.e.more M).iff λw _=>by rw[h w]⟩,λw A x=>by rw[<-h,<-h];exact P.xy w A x⟩
section
variable{W:O}{e:Nat}{D:Dr}{eq:Bool}
def w7(ok:D.ok)(Q:Nat):sN (C (e+22)) W (gm D.node (jj eq) Q) true 61 (λw=>sJ (D.means w) (ct w eq) Q):=by
 have T:∀{d},s7 (C<|d+16) pN W D.node 24 (λw=>D.means w):=mr (F:=.d D) ok;have t:∀{d},s7 (C<|d+16) pN W (jj eq) 1 (λw=>ct w eq):=mr (F:=.l eq) trivial;have u:Un C 400 D.node:=v7 (F:=.d D);have U:Un C 400 (jj eq):=v7 (F:=.l eq)
 match Q with
 |0=>exact(JM (d:=e+5) ok).to (ab rfl) λw=>rfl
 |1=>exact(AQ (d:=e+20)<|Ih (d:=e+4) ok).to (ab rfl) λw=>by cases D.means w<;>rfl
 |2=>exact(lC (d:=e+19) (o:=.eq) (b:=true) rfl<|fN (d:=e+5) (o:=.eq) (fN (d:=e+3) (o:=.imp) (T (d:=e+1)) (t (d:=e+1)) U (ab rfl)<|ab rfl) (t (d:=e+3)) U (ab rfl)<|ab rfl).to (ab rfl) λw=>by cases D.means w<;>cases ct w eq<;>rfl
 |3=>exact(lC (d:=e+19) (o:=.ne) (b:=true) rfl<|fN (d:=e+5) (o:=.ne) (fN (d:=e+3) (o:=.imp) (t (d:=e+1)) (T (d:=e+1)) u (ab rfl)<|ab rfl) (t (d:=e+3)) U (ab rfl)<|ab rfl).to (ab rfl) λw=>by cases D.means w<;>cases ct w eq<;>rfl
 |4=>exact(uj (d:=e+17) (o:=false) (fN (d:=e+3) (o:=.imp) (t (d:=e+1)) (T (d:=e+1)) u (ab rfl)<|ab rfl)<|t (d:=e+3)).to (ab rfl) λw=>by cases D.means w<;>cases ct w eq<;>rfl
 |5=>exact(AQ (d:=e+20)<|lC (d:=e+18) (o:=.eq) (b:=false) rfl<|fN (d:=e+4) (o:=.eq) (fN (d:=e+2) (o:=.imp) (t (d:=e)) (T (d:=e)) u (ab rfl)<|ab rfl) (T (d:=e+2)) u (ab rfl)<|ab rfl).to (ab rfl) λw=>by cases D.means w<;>cases ct w eq<;>rfl
 |n+6=>exact(FC (d:=e+19) (uj (d:=e+15) (o:=true) (T (d:=e+1))<|t (d:=e+1))<|uj (d:=e+15) (o:=false) (T (d:=e+1))<|t (d:=e+1)).to (ab rfl) λw=>by cases D.means w<;>cases ct w eq<;>rfl
end
structure Wl where
 cs:List Int
 a:Nat
noncomputable def Wl.o(w:Wl):O:=.dict 0 [(.str 109,.lst<|w.cs.map aI),(.str 108,.int w.a)]
structure Wl.ok (w:Wl):Prop where
 len:w.cs.length<=20
 a:w.a<=100
noncomputable def Wl.up(w:Wl)(k:Nat):Wl:=⟨w.cs,w.a+k⟩
def jQ(h:i.natAbs<=1000000)(e:j.natAbs<=1000000):yi 2 (.d (.int i)) (.d (.int j)) t=some (.int (i*j)):=by
 show(match qk i&&qk j with|true=>some (D.int<|i*j)|false=>none)=_;refine aa (kT h)<|aa (kT e) ?_;rfl
def BG(h:j≠0):yi 3 (.d (.int i)) (.d (.int j)) t=some (.int (i.fmod j)):=agO h
section
variable{w:Wl}{r:UT}{Q:V->UT->Prop}{d:Nat}
def qp(ok:w.ok)(T:0<m)(q:∀k:Int,0<=k->k<m->Q (.d (.int k)) ((w.up 1).o::r)):C (d+1) 84 [.loc 0,.d (.int m)] (w.o::r) Q:=by
 have f:∀i:Int,Q (.d<|.int<|i.fmod m) ((w.up 1).o::r):=λi=>q _ (Int.fmod_nonneg_of_pos _ T)<|Int.fmod_lt_of_pos _ T;have M:m≠0:=abI T;have G:(w.a:Int).natAbs<=1000:=Wh ok.a<|ab rfl;have J:((w.cs.map aI).length:Int).natAbs<=1000:=by rw[Wm];exact Wh ok.len<|ab rfl
 refine H.step<|aX (λh=>?_) (λh=>?_)
 ·have g:w.a<w.cs.length:=by
   have:=agS h;rw[Wm] at this;exact XX.mp this
  exact ai (kQ (z:=0) g)<|ai (BG M)<|f _
 ·exact ai (jQ (ab rfl)<|Wh G<|ab rfl) (ai (jQ (Wh (Xf (abb ..))<|Wh (Zg 4 G)<|ab rfl)<|Wh G<|ab rfl)<|ai (jQ (ab rfl)<|Wh G<|ab rfl)<|ai (jQ (ab rfl)<|Wh J<|ab rfl)<|ai (BG M)<|f _)
end
def AB(n:0<=J)(h:J<2):J=0\/J=1:=Mv n h
def Fi(n:0<=J)(h:J<4):J=0\/J=1\/J=2\/J=3:=Pt n h
def er(h:i.natAbs<=10):(Th.num i).small:=λj e=>by cases e;exact h
def wc:Th.x.small:=λ_ h=>nomatch h
section
variable{w:Wl}{r a:UT}{Q:V->UT->Prop}{d:Nat}
def CV(q:Q (.d (fW n)) a):C (d+1) 85 [.d (.int n)] a Q:=by
 unfold fW at q;refine H.step<|aX (λh=>?_) (λh=>?_)
 ·rw[show decide (0<=n)=true from h] at q;exact q
 ·rw[show decide (0<=n)=false from h] at q;exact q
def OS{t:Th}(q:Q (.d t.node) a):C (d+2) 87 [.d t.d] a Q:=by
 obtain _|_|i:=t;iterate 2 exact H.step q
 ·exact H.step (CV q)
def Kz(h:ts.length<=50)(q:Q (.d (jM ts)) a):C (d+3) 88 [.d (.tup (ts.map Th.d))] a Q:=by
 have Y:ts.length<=lim:=Wh h<|ab rfl;refine H.step (?_:bb .no _ _ (WQ Th.d ts) [] _ _);exact fh Th.d Th.node (λt o K k=>OS<|k) Y<|bG (aQ Y) q
def NX(ok:w.ok)(q:∀t:Th,t.small->Q (.d t.d) ((w.up 1).o::r)):C (d+2) 86 [.loc 0] (w.o::r) Q:=by
 refine H.step<|qp ok (by decide) λk n h=>?_;rcases(O8 n h) with e|e|e|e|e<;>subst e
 ·exact q .x wc
 ·exact q .y (λ_ h=>nomatch h)
 ·exact q (.num<|-1) (er<|ab rfl)
 ·exact q (.num 0) (er<|ab rfl)
 ·exact q (.num 1) (er<|ab rfl)
end
def Pl.ints:Pl->List Int
 |.kW a b=>strip (a,b)
 |.s0=>[]
 |.s1 a=>[a]
 |.s2 a=>[a,a+2]
noncomputable def Qq(both:Bool):List Th:=match both with|true=>[.x,.y]|false=>[.x]
def Dr.told:Dr->D
 |.times a p1 p2 t1 t2=> .tup [.str 112,.tup ([Th.x,.y,.num a].map Th.d),.tup ([Th.num p1,.num p2].map Th.d),.tup ([t1,t2].map Th.d)]
 |.jz both P=> .tup [.str 54,.tup ((Qq both).map Th.d),.lst (P.ints.map aI)]
 |.xt a b=> .tup [.str 113,.tup ([a,.y,b].map Th.d)]
 |.at b py t r u=> .tup [.str 108,(Ef py).d,.int b,.tup ([t,.num r].map Th.d),u.d]
noncomputable def RO:List PS:=[.iff (.cmp (.call 84 [.v 86,.k<|.int 2]) [0] [.k<|.int 0]) [.ret<|.tup [.tup [.k<|.str 18,.k<|.int 0,.k<|.str 54,.tup [.k<|.str 17,.k<|.int 0,.k<|.str 1],.v 20],.tup [.k<|.str 54,.tup [.k<|.str 1],.v 25]]] [],.ret<|.tup [.tup [.k<|.str 18,.k<|.int 0,.k<|.str 54,.tup [.k<|.str 18,.k<|.int 0,.k<|.str 79,.tup [.k<|.str 17,.k<|.int 0,.k<|.str 1],.tup [.k<|.str 17,.k<|.int 0,.k<|.str 111]],.v 20],.tup [.k<|.str 54,.tup [.k<|.str 1,.k<|.str 111],.v 25]]]
def skip{T:Va}{C:Cl}{c:PE}{a r:List PS}{L:Ev}{t:UT}{K:Kf}(m:∀Z:Kv,Z (.d (.bool false)) t->vE T C c L t Z)(h:da T C r L t K):da T C (.iff c a []::r) L t K:=m _ h
section
variable{w:Wl}{r c:UT}{Q:V->UT->Prop}{d:Nat}
def Wl.ok.up(h:w.ok)(h2:w.a<=99):(w.up 1).ok:=⟨h.len,WB h2⟩
def Ql(n:0<=J)(h:J<3):(J - 1).natAbs<=1:=gk (wi n h) rfl
def L0(ok:w.ok)(l:w.a<=80)(q:∀(D:Dr) n,D.ok->n<=6->Q (.d (.tup [D.node,D.told])) ((w.up n).o::r)):
  da tab (C (d+3)) (K5.drop 1) [(86,.loc 0),(18,.d (.int 0))] (w.o::r) (Kn.en (r.length+1) true Q):=by
 have g:=ok.up<|Wh l<|ab rfl;have N:=g.up<|Wh (WB l)<|ab rfl;have z:=N.up<|Wh (WB<|WB l)<|ab rfl;have T:∀{k:Int}{P:Th->Prop},0<=k->k<4->∃t:Th,t.small/\Vc [.str 1,.int 0,.int 1,.int 2] k=some t.d:=λ{k P} p h=>by
  rcases Fi p h with e|e|e|e<;>subst e
  ·exact⟨.x,wc,rfl⟩
  ·exact⟨.num 0,er<|ab rfl,rfl⟩
  ·exact⟨.num 1,er<|ab rfl,rfl⟩
  ·exact⟨.num 2,er<|ab rfl,rfl⟩
 refine qp ok (by decide) λk p h=>?_;obtain⟨G,v,s,J,e⟩:∃G v:Int,G.natAbs<=10/\v.natAbs<=10/\Vc [.tup [.int 0,.int 1],.tup [.int 1,.int 0],.tup [.int 2,.int 0],.tup [.int 1,.int 2],.tup [.int<|-1,.int 2],.tup [.int 2,.int 1]] k=some (.tup [.int G,.int v]):=by
  rcases Pd p h with e|e|e|e|e|e<;>subst e<;>exact⟨_,_,by decide,by decide,rfl⟩
 exact ai e<|qp g (by decide) λa B b=>qp N (by decide) λY p h=>ae (T (P:=λ_=>True) p h) λf M E=>ai E<|qp z (by decide) λA p h=>ae (T (P:=λ_=>True) p h) λI m u=>ai u<|Kz (ts:=[.x,.y,.num a]) (Wi rfl)<|Kz (ts:=[.num G,.num v]) (Wi rfl)<|Kz (ts:=[f,I]) (Wi rfl)<|q (.times a G v f I) 4 ⟨LS B b,s,J,M,m⟩<|ab rfl
def Mb(ok:w.ok)(q:∀b L,K (.ret (.d (.tup [(Dr.jz b P).node,(Dr.jz b P).told]))) L ((w.up 1).o::r)):
  da tab (C (d+3)) RO [(86,.loc 0),(18,.d (.int 1)),(1,.d x1),(91,.d x2),(92,.d x3),(25,.d (.lst (P.ints.map aI))),(20,.d P.node)] (w.o::r) K:=by
 refine qp ok (by decide) λk n h=>?_;rcases AB n h with e|e<;>subst e
 ·exact q false _
 ·exact q true _
def L9(ok:w.ok)(l:w.a<=80)(q:∀(D:Dr) n,D.ok->n<=6->Q (.d (.tup [D.node,D.told])) ((w.up n).o::r)):
  da tab (C (d+3)) (K5.drop 2) [(86,.loc 0),(18,.d (.int 1))] (w.o::r) (Kn.en (r.length+1) true Q):=by
 have f:=ok.up<|Wh l<|ab rfl;have U:=f.up<|Wh (WB l)<|ab rfl;have u:=U.up<|Wh (WB<|WB l)<|ab rfl;have J:=λ(P:Pl) (N:P.ok) (x1 x2 x3:D) (K:Kf) (e:∀b L,K (.ret<|.d<|.tup [(Dr.jz b P).node,(Dr.jz b P).told]) L<|(w.up 4).o::r)=>Mb (d:=d) (w:=(w.up 3)) (r:=r) (x1:=x1) (x2:=x2) (x3:=x3) u e;refine qp ok (by decide) λk p h=>qp f (by decide) λm g y=>qp U (by decide) λz Y s=>?_;have M:=Ql p h;have t:(k - 1).natAbs<=60:=Wh M<|ab rfl;rcases AB Y s with e|e<;>subst e
 ·have T:=Mz p h g y
  exact ai (lU (Wh M<|ab rfl)<|Wh (XQ _ _)<|Wh (Wy T _)<|ab rfl)<|CV<|CV<|J (.kW (k - 1)<|k - 1+(m - 1)) ⟨t,T⟩ _ _ _ _ λb L=>q _ 4 ⟨t,T⟩<|ab rfl
 ·rcases Fi g y with e|e|e|e<;>subst e
  ·exact J .s0 trivial _ _ _ _ λb L=>q _ 4 trivial<|ab rfl
  ·refine CV ⟨trivial,?_⟩
   exact J (.s1<|k - 1) t _ _ _ _ λb L=>q (.jz b<|.s1<|k - 1) 4 t<|ab rfl
  ·refine CV ⟨trivial,CV ⟨trivial,?_⟩⟩
   exact J (.s2<|k - 1) t _ _ _ _ λb L=>q (.jz b<|.s2<|k - 1) 4 t<|ab rfl
  ·refine CV ⟨trivial,CV ⟨trivial,?_⟩⟩
   exact J (.s2<|k - 1) t _ _ _ _ λb L=>q (.jz b<|.s2<|k - 1) 4 t<|ab rfl
def Ml(ok:w.ok)(l:w.a<=80)(q:∀(D:Dr) n,D.ok->n<=6->Q (.d (.tup [D.node,D.told])) ((w.up n).o::r)):
  da tab (C (d+3)) (K5.drop 3) [(86,.loc 0),(18,.d (.int 2))] (w.o::r) (Kn.en (r.length+1) true Q):=by
 have e:=ok.up<|Wh l<|ab rfl;exact NX ok λa G=>NX (d:=d+1) e λb h=>Kz (ts:=[a,.y,b]) (Wi rfl)<|q (.xt a b) 2 ⟨G,h⟩<|ab rfl
def NB(ok:w.ok)(l:w.a<=80)(q:∀(D:Dr) n,D.ok->n<=6->Q (.d (.tup [D.node,D.told])) ((w.up n).o::r)):
  da tab (C (d+3)) (K5.drop 4) [(86,.loc 0),(18,.d (.int 3))] (w.o::r) (Kn.en (r.length+1) true Q):=by
 have g:=ok.up<|Wh l<|ab rfl;have U:=g.up<|Wh (WB l)<|ab rfl;have y:=U.up<|Wh (WB<|WB l)<|ab rfl;have E:=y.up<|Wh (WB<|WB<|WB l)<|ab rfl;refine qp ok (by decide) λk s h=>qp g (by decide) λm x M=>?_;obtain⟨f,e⟩:∃f,Vc [.str 1,.str 111] m=some (Ef f).d:=by
  rcases AB x M with e|e<;>subst e
  ·exact⟨false,rfl⟩
  ·exact⟨true,rfl⟩
 refine ai e<|NX U λt p=>qp y (by decide) λn j N=>?_;obtain⟨u,i,e⟩:∃u:Int,u.natAbs<=10/\Vc [.int 1,.int 2] n=some (.int u):=by
  rcases AB j N with e|e<;>subst e
  ·exact⟨1,by decide,rfl⟩
  ·exact⟨2,by decide,rfl⟩
 refine ai e<|NX E λv Y=>?_;obtain⟨b,T,e⟩:∃b:Int,b.natAbs<=10/\Vc [.int 0,.int<|-1,.int 1,.int 2] k=some (.int b):=by
  rcases Fi s h with e|e|e|e<;>subst e<;>exact⟨_,by decide,rfl⟩
 exact ai e<|CV<|CV<|Kz (ts:=[t,.num u]) (Wi rfl)<|OS<|OS<|q (.at b f t u v) 5 ⟨T,p,i,Y⟩ (ab rfl)
def Sq(ok:w.ok)(l:w.a<=60)(q:∀(D:Dr) n,D.ok->n<=7->Q (.d (.tup [D.node,D.told])) ((w.up n).o::r)):C (d+4) 89 [.loc 0] (w.o::r) Q:=by
 have g:=ok.up<|Wh l<|ab rfl;have L:w.a+1<=80:=Wh (WB l)<|ab rfl;have T:∀(D:Dr) n,D.ok->n<=6->Q (.d<|.tup [D.node,D.told]) (((w.up 1).up n).o::r):=λD n f m=>by
  have:=q D (1+n) f (by rw[Xj];exact WB m);unfold Wl.up at this ⊢;rw[<-W3] at this;exact this
 refine H.step<|qp ok (by decide) λk p h=>Qy ?_;rcases Fi p h with e|e|e|e<;>subst e
 ·exact L0 g L T
 ·exact skip (λ_ z=>z) (L9 g L T)
 ·exact skip (λ_ z=>z) (skip (λ_ z=>z) (Ml g L T))
 ·exact skip (λ_ z=>z) (skip (λ_ z=>z) (skip (λ_ z=>z) (NB g L T)))
end
noncomputable def Wc(eq:Bool):Nat:=match eq with|true=>71|false=>73
section
variable{w:Wl}{r b:UT}{Q:V->UT->Prop}{d:Nat}{x y:Int}
def TM(ok:w.ok)(L:w.a<=70)(q:∀c E,c<7->Q (.d (.tup [gm n (jj E) c,.int (c:Nat),.str (Wc E)])) ((w.up 2).o::r)):C (d+2) 92 [.loc 0,.d n] (w.o::r) Q:=by
 have f:=ok.up<|Wh L<|ab rfl;have I:∀(l:D)(c:Int),0<=c->c<7->∃k:Nat,k<7/\c=(k:Int)/\Vc [gm n l 0,gm n l 1,gm n l 2,gm n l 3,gm n l 4,gm n l 5,gm n l 6] c=some (gm n l k):=λl c p h=>by
  rcases Qo p h with e|e|e|e|e|e|e<;>subst e<;>exact⟨_,by decide,rfl,rfl⟩
 refine H.step<|qp ok (by decide) λc p h=>qp f (by decide) λk z A=>?_;rcases AB z A with e|e<;>subst e
 ·refine aj (I (jj true) c p h) λm T e i=>?_
  subst e;exact ai i<|q m true T
 ·refine aj (I (jj false) c p h) λm T e i=>?_
  subst e;exact ai i<|q m false T
def S8{E one:Bool}(h:U<7)(q:Q (.d (.bool (sJ one (ct [x,y] E) U))) b):C (d+1) 93 [.d (.int U),.d (.str (Wc E)),.d (.bool one),.d (.int x),.d (.int y)] b Q:=by
 have I:∀(m l:Bool),Vc [.bool<|sJ m l 0,.bool<|sJ m l 1,.bool<|sJ m l 2,.bool<|sJ m l 3,.bool<|sJ m l 4,.bool<|sJ m l 5,.bool<|sJ m l 6] (U:Int)=some (.bool<|sJ m l U):=λm l=>by
  rcases Kt h with e|e|e|e|e|e|e<;>subst e<;>rfl
 obtain _|_:=E
 ·have e:ct [x,y] false=decide (0<y):=rfl
  rw[e] at q;refine H.step (?_:da tab (C d) (PR.drop 1) [(87,.d<|.int U),(31,.d<|.str 73),(16,.d<|.bool one),(14,.d<|.int x),(51,.d<|.int y),(21,.d<|.bool<|decide<|0<y)] b (Kn.en b.length true Q));obtain _|_:=one
  ·rcases e:decide (0<y) with _|_
   ·rw[e] at q;exact ai (I false false) q
   ·rw[e] at q;exact ai (I false true) q
  ·rcases e:decide (0<y) with _|_
   ·rw[e] at q;exact ai (I true false) q
   ·rw[e] at q;exact ai (I true true) q
 ·have e:ct [x,y] true=(x==y):=by show(y==x)=(x==y);exact aa aaG rfl
  rw[e] at q;refine H.step (?_:da tab (C d) (PR.drop 1) [(87,.d<|.int U),(31,.d<|.str 71),(16,.d<|.bool one),(14,.d<|.int x),(51,.d<|.int y),(21,.d<|.bool<|x==y)] b (Kn.en b.length true Q));obtain _|_:=one
  ·rcases e:(x==y) with _|_
   ·rw[e] at q;exact ai (I false false) q
   ·rw[e] at q;exact ai (I false true) q
  ·rcases e:(x==y) with _|_
   ·rw[e] at q;exact ai (I true false) q
   ·rw[e] at q;exact ai (I true true) q
end
def FE:bF (.lst (M.map aI)) (.int J)=some (M.any (· ==J)):=by
 show(match true&&(M.map aI).all (plain 11) with|true=>some ((M.map aI).any λy=>bP y<|.int J)|false=>none)=_;refine aa (Wt.mpr λd h=>by refine fc h λi _ e=>?_;clear h;subst e;rfl) (aa ZI ?_);rfl
def zk:(eO a n).any (· ==v)=(decide (a<=v)&&decide (v<a+n)):=by
 induction n generalizing a with
 |zero=>
  by_cases h:a<=v
  ·refine aa (agT h) (aa (agY<|Gh h) ?_);rfl
  ·refine aa (agY h) ?_;rfl
 |succ n i=>
  show((a==v)||(eO (a+1) n).any (· ==v))=_;refine aa i ?_;by_cases e:a=v
  ·clear i;subst e
   rw[agW,agT<|WT a,show decide (a<a+((n+1:Nat):Int))=true from agT L7.2];rfl
  ·rw[show(a==v)=false from agV.mpr e,Z0,XK,W7,W7,agU,agU,agU,agU]
   exact M4 e
def C8{P:Pl}:P.ints.any (· ==J)=inD J P.bN:=by
 obtain⟨a,b⟩|_|a|a:=P
 ·show(eO a (b+1 - a).toNat).any (· ==J)=inD J (match decide (a<=b) with|true=>[(a,b)]|false=>[])
  refine aa zk ?_;by_cases h:a<=b
  ·refine aa (agT h) ?_
   show _=(decide (a<=J)&&decide (J<=b)||false);rw[XC,XK,W7,W7,agU,agU,agU];exact MP
  ·refine aa (agY h) ?_
   show _=false;rw[Zt,agX,agX];exact NJ h
 ·rfl
 ·show((a==J)||false)=(decide (a<=J)&&decide (J<=a)||false)
  rw[XC,XC,XK,W7,agQ,agU,agU];exact Cc
 ·show((a==J)||((a+2==J)||false))=(decide (a<=J)&&decide (J<=a)||(decide (a+2<=J)&&decide (J<=a+2)||false))
  rw[XC,XC,XK,ZF,ZF,W7,W7,agQ,agQ,agU,agU,agU,agU];exact or_congr Cc Cc
section
variable{w:Wl}{r a:UT}{Q:V->UT->Prop}{d:Nat}{x y:Int}
def Kk{t:Th}(L:eR a)(q:Q (.d (.int (t.val.ev [x,y]))) a):C (d+1) 90 [.d t.d,.d (.int x),.d (.int y)] a Q:=by
 have g:(a++[O.dict 0 [(.str 1,.int x),(.str 111,.int y)]])[a.length]?=some (.dict 0 [(.str 1,.int x),(.str 111,.int y)]):=bV;have e:FN tab 5 (.loc a.length) [.d t.d,.d t.d] (a++[.dict 0 [(.str 1,.int x),(.str 111,.int y)]])=some (.d<|.int<|t.val.ev [x,y],a++[.dict 0 [(.str 1,.int x),(.str 111,.int y)]]):=by
  show Bs (fe tab _<|.loc a.length) [.d t.d,.d t.d] _=_;refine aa (bR g) ?_;clear q;obtain _|_|i:=t
  ·rw[show Th.x.val=aT 0 from rfl,cx];rfl
  ·rw[show Th.y.val=aT 1 from rfl,cx];rfl
  ·rw[show(Th.num i).val=.int i from rfl,bJ];rfl
 exact H.step<|ec (lW g rfl) (agN (λx=>zN (GW x) 5) (bR g)) (ai e<|ai (lv L) q)
def M9{both:Bool}{P:Pl}(L:eR a)(q:Q (.d (.bool ((Dr.jz both P).means [x,y]))) a):C (d+2) 91 [.d (Dr.jz both P).told,.d (.int x),.d (.int y)] a Q:=by
 have f:∀v:Int,v=(w9 both).ev [x,y]->bF (.lst<|P.ints.map aI) (.int v)=some ((Dr.jz both P).means [x,y]):=λv e=>by refine aa FE<|aa C8<|aa e ?_;rfl
 have z:∀t:Th,∀Z:V->UT->Prop,Z (.d<|.int<|t.val.ev [x,y]) a->C (d+1) 90 [.d t.d,.d<|.int x,.d<|.int y] a Z:=λt Z z=>Kk L z;obtain _|_:=both
 ·exact H.step (z .x _ ⟨trivial,ai (f _ (by show 0+Th.x.val.ev [x,y]=_;rw[XB];rfl)) q⟩)
 ·exact H.step (z .x _ ⟨trivial,z .y _ ⟨trivial,ai (f _ (by
   show 0+(aT 0).ev [x,y]+(aT 1).ev [x,y]=1*ah [x,y] 0+(1*ah [x,y] 1+0)+0;rw[cx,cx];exact NI)) q⟩⟩)
end
noncomputable def UA:List PS:=[.ret<|.bo true [.cmp (.v 20) [8] [.tup [.k<|.int 0,.k<|.int 1]],.cmp (.call 90 [.sub (.sub (.v 13)<|.k<|.int 3)<|.v 20,.v 14,.v 51]) [0] [.call 90 [.sub (.v 13)<|.k<|.int 4,.v 14,.v 51]]]]
section
variable{w:Wl}{r c:UT}{Q:V->UT->Prop}{d:Nat}{x y:Int}
def MM(L:eR c)(q:Q (.d (.bool ((Dr.xt a b).means [x,y]))) c):C (d+2) 91 [.d (Dr.xt a b).told,.d (.int x),.d (.int y)] c Q:=by
 have z:∀t:Th,∀Z:V->UT->Prop,Z (.d<|.int<|t.val.ev [x,y]) c->C (d+1) 90 [.d t.d,.d<|.int x,.d<|.int y] c Z:=λt Z z=>Kk L z;have q:Q (.d<|.bool<|(Th.y.val.ev [x,y] !=a.val.ev [x,y])&&((b.val.ev [x,y] !=a.val.ev [x,y])&&(b.val.ev [x,y] !=Th.y.val.ev [x,y]))) c:=q;refine H.step<|z a _ ⟨trivial,z .y _ ⟨trivial,z b _ ⟨trivial,?_⟩⟩⟩;generalize a.val.ev [x,y]=i at q ⊢;generalize b.val.ev [x,y]=k at q ⊢;generalize Th.y.val.ev [x,y]=j at q ⊢;rw[bne_comm,bne_comm (a:=k),bne_comm (a:=k)] at q;rcases e:(i==j) with _|_
 ·refine eB (show((!(i==j))==true)=true by refine aa e ?_;rfl) ?_
  rw[bne,e] at q;rcases E:(i==k) with _|_
  ·refine eB (show((!(i==k))==true)=true by refine aa E ?_;rfl) ?_
   rw[bne,E] at q;exact q
  ·rw[bne,E] at q
   exact bM (show((!(i==k))==true)=false by refine aa E ?_;rfl) (Ie (show(!(i==k))=false by refine aa E ?_;rfl) q)
 ·rw[bne,e] at q
  exact bM (show((!(i==j))==true)=false by refine aa e ?_;rfl) (Ie (show(!(i==j))=false by refine aa e ?_;rfl) q)
def Na(L:eR c)(q:Q (.d (.bool ((Dr.times a p v f T).means [x,y]))) c):C (d+2) 91 [.d (Dr.times a p v f T).told,.d (.int x),.d (.int y)] c Q:=by
 have z:∀t:Th,∀Z:V->UT->Prop,Z (.d<|.int<|t.val.ev [x,y]) c->C (d+1) 90 [.d t.d,.d<|.int x,.d<|.int y] c Z:=λt Z z=>Kk L z;refine H.step<|z .x _ ⟨trivial,z .y _ ⟨trivial,z (.num a) _ ⟨trivial,?_⟩⟩⟩;refine⟨trivial,⟨trivial,z f _ ⟨trivial,z T _ ⟨trivial,?_⟩⟩⟩⟩;have e:((((([Th.x,.y,.num a].map Th.val).map<|UX.ev [x,y]).count p:Nat):Int)==f.val.ev [x,y]&&((((([Th.x,.y,.num a].map Th.val).map<|UX.ev [x,y]).count v:Nat):Int)==T.val.ev [x,y]&&true))=(Dr.times a p v f T).means [x,y]:=by rw[XT];rfl
 rw[<-e] at q;exact q
def Nn{b r v:Int}{py m:Bool}(L:eR c)(o:v=0->m=(t.val.ev [x,y]==u.val.ev [x,y]))(h:v=1->m=(r==u.val.ev [x,y]))(A:v≠0->v≠1->m=false)(q:∀a,K (.ret (.d (.bool m))) a c):
  da tab (C (d+1)) UA [(13,.d (Dr.at b py t r u).told),(14,.d (.int x)),(51,.d (.int y)),(20,.d (.int v))] c K:=by
 have z:∀t:Th,∀Z:V->UT->Prop,Z (.d<|.int<|t.val.ev [x,y]) c->C (d+1) 90 [.d t.d,.d<|.int x,.d<|.int y] c Z:=λt Z z=>Kk L z;by_cases E:v=0
 ·rw[o E] at q
  clear o h A;subst E;exact z t _<|z u _<|q _
 ·by_cases e:v=1
  ·rw[h e] at q
   clear o h A E;subst e;have I:=z<|.num r;rw[show(Th.num r).val=.int r from rfl,bJ] at I;exact I _<|z u _<|q _
  ·rw[A E e] at q
   have i:=agV.mpr<|YK E;have N:=agV.mpr<|YK e;have n:((0:Int)==v||((1:Int)==v||false))=false:=by refine aa i<|aa N ?_;rfl
   refine bM (show(((0:Int)==v||((1:Int)==v||false))==true)=false by refine aa n ?_;rfl) ?_;have q:=q [(13,.d (Dr.at b py t r u).told),(14,.d<|.int x),(51,.d<|.int y),(20,.d<|.int v)];rw[<-n] at q;exact q
def KO{r:Int}{py:Bool}(L:eR c)(q:Q (.d (.bool ((Dr.at J py t r u).means [x,y]))) c):C (d+2) 91 [.d (Dr.at J py t r u).told,.d (.int x),.d (.int y)] c Q:=by
 have s:(Ef py).val.ev [x,y]=ah [x,y] (bz py):=by clear q;cases py;exact cx _ 0;exact cx _ 1
 have B:=λm n h z K q=>Nn (d:=d) (b:=J) (r:=r) (py:=py) (t:=t) (u:=u) (x:=x) (y:=y) (v:=(Ef py).val.ev [x,y] - J) (m:=m) (K:=K) L n h z q;rw[s] at B;have X:=B ((Dr.at J py t r u).means [x,y]) (λe=>?_) (λe=>?_) (λi E=>?_) (Kn.sq (da tab (C<|d+1)<|RJ.drop 2)<|Kn.en c.length true Q) λM=>q
 ·exact H.step (Kk L<|aa s X)
 ·show(decide (J<=ah [x,y] (bz py))&&decide (ah [x,y] (bz py)<=J+1)&&(u.val.ev [x,y]==if ah [x,y] (bz py)=J then t.val.ev [x,y] else r))=_
  refine aa (agO<|Yi.mp e)<|aa (agT<|W0 (Yi.mp e).symm)<|aa (agT<|WG (W0<|Yi.mp e) eG)<|aa aaG ?_;rfl
 ·show(decide (J<=ah [x,y] (bz py))&&decide (ah [x,y] (bz py)<=J+1)&&(u.val.ev [x,y]==if ah [x,y] (bz py)=J then t.val.ev [x,y] else r))=_
  refine aa (agP λq=>Z7 _<|X5 (adl _)<|W0<|(zP e).symm.trans q) (aa (agT<|WG eG<|W0 (zP e).symm)<|aa (agT<|W0<|zP e)<|aa aaG ?_);rfl
 ·show(decide (J<=ah [x,y] (bz py))&&decide (ah [x,y] (bz py)<=J+1)&&_)=_
  refine aa (show(decide (J<=ah [x,y] (bz py))&&decide (ah [x,y] (bz py)<=J+1))=false from Zt.mpr (by rw[agX,agX];exact MX i E)) ?_;rfl
def TC{D:Dr}(L:eR c)(q:Q (.d (.bool (D.means [x,y]))) c):C (d+2) 91 [.d D.told,.d (.int x),.d (.int y)] c Q:=by
 cases D with
 |times=>exact Na L q
 |jz=>exact M9 L q
 |xt=>exact MM L q
 |«at»=>exact KO L q
end
section
structure M3 (S:St) (b:List (List Told)):Prop where
 JY:∀z t,t∈b.getD z []->t∈S.aw/\∀y∈t.vars,y<=z
 all:∀t∈S.aw,∃z,z<S.n/\t∈b.getD z []
structure VB (S:St) (b:List (List Told)) (w:List Int):Prop where
 box:∀x<w.length,iD (ah w x) (S.bN x)
 ok:∀z<w.length,∀t∈b.getD z [],t.holds w
def A7(h:J<=I)(t:I<J+U):I∈eO J U:=by
 induction U generalizing J with
 |zero=>exact agR t<|Gh h
 |succ U i=>
  by_cases e:I=J
  ·exact aa e<|.head _
  ·exact .tail _ (i (KU h e)<|EL▸t)
def lu:J∈d.flatMap strip↔iD J d:=by
 rw[List.mem_flatMap];constructor
 ·rintro ⟨p,Y,h⟩
  have:=fk h;exact⟨p,Y,this.1,rH this⟩
 ·rintro ⟨p,Y,m,t⟩
  exact⟨p,Y,A7 m<|GA m t⟩
def oO{Y:Type}{f:Y->Int->Y}{d:m9}{s:Y}:d.foldl (λs p=>(strip p).foldl f s) s=(d.flatMap strip).foldl f s:=by
 induction d generalizing s with
 |nil=>rfl
 |cons p d i=>refine aa XO<|aa ZX<|av i ?_;rfl
def vV{c:Int->Bool}{h:Int->Int}(a:∀v∈M,c v->h v=0):M.foldl (λJ v=>if c v then J+h v else J) J=J:=by
 induction M generalizing J with
 |nil=>rfl
 |cons v M i=>
  refine aa Zj<|aa (i λu j=>a u<|.tail _ j) ?_;by_cases e:c v=true
  ·rw[agO e,a v (.head _) e,XI]
  ·rw[agP e]
def zp{c:Int->Bool}{h:Int->Int}(n:M.Nodup)(G:I∈M)(t:c I)(m:h I=1)(b:∀v∈M,v≠I->c v->h v=0):M.foldl (λJ v=>if c v then J+h v else J) J=J+1:=by
 induction M generalizing J with
 |nil=>cases G
 |cons v M i=>
  have N:=WO.mp n;rw[Zj];by_cases e:v=I
  ·clear i G;subst e
   rw[agO t,m];exact vV λu j=>b u (.tail _ j) λe=>N.1<|e▸j
  ·have r:=(Wo.mp G).resolve_left<|YK e
   rw[show(if c v=true then J+h v else J)=J by
    by_cases g:c v=true
    ·rw[agO g,b v (.head _) e g,XI]
    ·exact aa (agP g) rfl]
   exact i N.2 r λu j=>b u<|.tail _ j
variable{S:St}{b:List (List Told)}{w:List Int}{v:Int}
def VB.up(P:VB S b w)(r:M3 S b)(Y:iD v (S.bN w.length))(M:(b.getD w.length []).all (Told.holds (w++[v]))):VB S b (w++[v]):=by
 have e:(w++[v]).length=w.length+1:=Wv;refine⟨λx g=>?_,λz s t o=>?_⟩
 ·rw[e] at g
  obtain h|h:=aax<|YI g
  ·exact aa (bx h)<|P.box x h
  ·refine aa h (aa bC ?_);exact Y
 ·rw[e] at s
  obtain h|h:=aax<|YI s
  ·exact aa (bD λy a=>bx<|WJ ((r.JY z t o).2 y a) h)<|P.ok z h t o
  ·rw[h] at o;exact Wt.mp M t o
def VB.sol(P:VB S b w)(r:M3 S b)(h:w.length=S.n):bH S w:=
 ⟨h,λx g=>P.box x<|h▸g,λt o=>by
  exact ae (r.all t o) λz s Q=>P.ok z (h▸s) t Q⟩
def pP(h:u.take (w++[v]).length=w++[v]):u.take w.length=w/\ah u w.length=v:=by
 have E:(w++[v]).length=w.length+1:=Wv;rw[E] at h;have e:u.take w.length=(u.take<|w.length+1).take w.length:=by rw[acF,X6<|W9 _]
 refine⟨by rw[e,h,Yn],?_⟩;exact av (au<|WK w.length)<|aa h<|aa bC rfl
def uH(r:M3 S b):∀{k:Nat}{w:List Int},w.length+k=S.n->VB S b w->(∀u,bH S u->u.take w.length≠w)->ways S b k w=0:=by
 intro k
 induction k with
 |zero=>exact λ{w} M P o=>agR (Zb)<|o w<|P.sol r M
 |succ k i=>
  intro w M P o;show(S.bN w.length).foldl _ 0=0;refine aa oO<|vV λv Y m=>?_;exact i (by refine aa Wv ?_;show w.length+1+k=_;exact Cy M) (P.up r (lu.mp Y) m) λu j h=>o u j (pP h).1
def CQ(r:M3 S b)(N:∀x<S.n,((S.bN x).flatMap strip).Nodup)(j:bH S M):∀{k:Nat}{w:List Int},w.length+k=S.n->VB S b w->M.take w.length=w->(∀l,bH S l->l.take w.length=w->l=M)->ways S b k w=1:=by
 intro k
 induction k with
 |zero=>exact λ{w} _ _ _ _=>rfl
 |succ k i=>
  intro w c P z one;have g:=uG c;have o:M.take (w++[ah M w.length]).length=w++[ah M w.length]:=by
   have J:w.length<M.length:=by exact aa j.len g
   refine aa Wv (aa abE<|aa (List.take_succ_eq_append_getElem J)<|aa z ?_)
   congr 2
   show _=M.getD _ 0;delta X8;rw[WS J];rfl
  have s:∀v:Int,(w++[v]).length+k=S.n:=λv=>by refine aa Wv ?_;show w.length+1+k=_;exact Cy c
  have m:(b.getD w.length []).all (Told.holds<|w++[ah M w.length]):=Wt.mpr λt L=>by
   refine av o<|aa (bD λy a=>au (by rw[Wv];exact XA<|(r.JY _ t L).2 y a)) ?_;exact j.all t (r.JY _ t L).1
  have G:=j.box _ g;show(S.bN w.length).foldl _ 0=1;refine aa oO<|zp (N _ g) (lu.mpr G) m ?_ λv Y U m=>?_
  ·exact i (s _) (P.up r G m) o λl I h=>one l I (pP h).1
  ·refine uH r (s _) (P.up r (lu.mp Y) m) λl I h=>?_
   have:=pP h;rw[one l I this.1] at this;exact U this.2.symm
end
noncomputable def M0:List O:=[.inst 2 [(44,.loc 2),(45,.loc 5),(61,.d .none),(66,.loc 6),(67,.loc 7),(68,.d<|.bool true)],.inst 0 [(7,.loc 3),(8,.loc 4),(9,.d<|.tup [.str 0,.none]),(10,.d<|.tup [])],.list [],.list [],.dict 2 [],.dict 0 [],.dict 0 []]
section
variable{w:Wl}{W:O}{r b:UT}{Q:V->UT->Prop}{d:Nat}{x y:Int}
def QJ(q:Q (.d .none) [W,.inst 2 [(44,.loc 2),(45,.loc 5)],.inst 0 [(7,.loc 3),(8,.loc 4),(9,.d (.tup [.str 0,.none])),(10,.d (.tup []))],.list [],.list [],.dict 2 []]):C (d+2) 42 [.loc 1] [W,.inst 2 []] Q:=
 H.step (H.step q)
def O4(q:Q (.d .none) [W,.inst 2 [(44,.loc 2),(45,.loc 5),(61,.d .none)],.inst 0 [(7,.loc 3),(8,.loc 4),(9,.d (.tup [.str 0,.none])),(10,.d (.tup []))],.list [],.list [],.dict 2 []]):C (d+3) 56 [.loc 1] [W,.inst 2 []] Q:=
 H.step (QJ q)
def Pw(q:Q (.d .none) (W::M0)):C (d+4) 67 [.loc 1] [W,.inst 2 []] Q:=H.step<|O4 q
def RG(h:l.length<60)(o:((l++[D.tup [nm,aP m]]).length:Int) - 1=n)(e:∀l,(W::a:: .inst 0 [(7,.loc 3),(8,.loc 4),(9,.d (.tup [.str 0,.none])),(10,.d (.tup []))]::O.list l::r)=(W::a:: .inst 0 [(7,.loc 3),(8,.loc 4),(9,.d (.tup [.str 0,.none])),(10,.d (.tup []))]::O.list l::r))
  (q:Q (.d (.int n)) (W::a:: .inst 0 [(7,.loc 3),(8,.loc 4),(9,.d (.tup [.str 0,.none])),(10,.d (.tup []))]:: .list (l++[.tup [nm,aP m]])::r)):
  C (d+1) 6 [.loc 2,.d nm,.d (aP m)] (W::a:: .inst 0 [(7,.loc 3),(8,.loc 4),(9,.d (.tup [.str 0,.none])),(10,.d (.tup []))]:: .list l::r) Q:=by
 refine H.step<|ai (agO<|ZL h<|ab rfl) ?_;exact HZ o q
end
def It:V6 (M.map aI) (0:Int).toNat (kg (M.map aI).length 20)=(M.take 20).map aI:=by
 have e:kg (M.map aI).length 20=min 20 (M.map aI).length:=by
  show(max 0<|min (if (20:Int)<0 then 20+((M.map aI).length:Int) else 20) ((M.map aI).length:Int)).toNat=_;rw[agP<|by decide];exact MN
 rw[e];show((M.map aI).take<|min 20 (M.map aI).length).drop 0=_;rw[List.drop_zero,List.map_take];obtain h|h:=abB 20 (M.map aI).length
 ·rw[X6 h]
 ·exact aa (YV h) (aa Zb<|aa (X7 h) rfl)
noncomputable def S0(low wide beg:Int):St:=⟨[(.str 1,[(low,low+wide - 1)]),(.str 111,[(beg,beg+1)])],[],[]⟩
def Dj(l:List Int)(D:Dr)(eq:Bool)(way:Nat)(low wide beg:Int):Ev:=
 [(105,.d<|.lst<|l.map aI),(86,.loc 0),(104,.loc 1),(29,.d D.node),(13,.d D.told),(107,.d<|gm D.node (jj eq) way),(87,.d<|.int way),(31,.d<|.str<|Wc eq),(1,.d<|.int low),(108,.d<|.int wide),(93,.d<|.int beg),(44,.loc 2),(14,.d<|.int 0),(51,.d<|.int 1),(27,.loc 8)]
section
variable{w:Wl}{W:O}{r b:UT}{Q:V->UT->Prop}{d:Nat}{x y:Int}
set_option maxHeartbeats 4000000 in
def K9(q:∀(D:Dr) T e (L wide N:Int) (w:Wl),D.ok->T<7->(-1<=L/\L<=1)->(wide=2\/wide=3)->(-1<=N/\N<=1)->
  da tab (C (d+4)) (Nu.drop 7) (Dj M D e T L wide N) (UU (S0 L wide N) true pN w.o []) (Kn.en 0 false Q)):C (d+5) 97 [.d (.lst (M.map aI))] [] Q:=by
 have j:(M.take 20).length<=lim:=Wh (abW ..)<|ab rfl;refine H.step (?_:bb .no _ _ (V6 (M.map aI) (0:Int).toNat<|kg (M.map aI).length 20) [] _ _);refine aa It<|aZ aI (λi=>(i.natAbs:Int)) aI (λt p K k=>k) j ?_;refine bG (aQ (by rw[Wm];exact j)) ?_;have ok:Wl.ok ⟨(M.take 20).map λi=>(i.natAbs:Int),0⟩:=⟨by rw[Wm];exact abW ..,Wz _⟩;generalize (M.take 20).map (λi=>(i.natAbs:Int))=B at ok ⊢;refine Pw<|Sq ok (Wz _) λD n f s=>?_;have G:(Wl.up ⟨B,0⟩ n).ok:=⟨ok.len,by show 0+n<=100;exact gy s rfl⟩;have ag:(Wl.up ⟨B,0⟩ n).a<=20:=by show 0+n<=20;exact gy s rfl
 generalize Wl.up ⟨B,0⟩ n=U at G ag ⊢;refine TM G (Wh ag<|ab rfl) λT e v=>?_;have I:(U.up 2).ok:=⟨G.len,by show U.a+2<=100;exact mZ ag rfl⟩;have c:(U.up 2).a<=30:=by show U.a+2<=30;exact mZ ag rfl
 generalize U.up 2=w2 at I c ⊢;refine qp I (by decide) λY E z=>?_;have o3:=I.up<|Wh c<|ab rfl;have g:(w2.up 1).a<=31:=WB c;generalize w2.up 1=w3 at o3 g ⊢;refine qp o3 (by decide) λA p3 p4=>?_;have o4:=o3.up<|Wh g<|ab rfl;generalize w3.up 1=w4 at o4 ⊢;refine qp o4 (by decide) λu p5 p6=>?_;generalize w4.up 1=w5;have J:=wi E z;have h:=wi p5 p6;have ac:=MI p3 p4;have q:=q D T e (Y - 1) (2+A) (u - 1) w5 f v J ac h;exact RG (nm:=.str 1) (m:=[(Y - 1,Y - 1+(2+A) - 1)]) (l:=[]) (n:=0) (Wi rfl) rfl (λ_=>rfl) (RG (d:=d+3) (W:=w5.o) (nm:=.str 111) (m:=[(u - 1,u - 1+1)]) (Wi rfl) rfl (λ_=>rfl) q)
end
noncomputable def yJ(a b:Int):Int:=if a<b then b else a
def OH(a b:Int):a<=yJ a b:=by unfold yJ;by_cases h:a<b;exact aa (agO h)<|XH h;exact aa (agP h)<|WT a
def PF(a b:Int):b<=yJ a b:=by unfold yJ;by_cases h:a<b;exact aa (agO h)<|WT b;exact aa (agP h)<|x5 h
def LW(a b:Int):yJ a b=a\/yJ a b=b:=by unfold yJ;by_cases h:a<b;exact aa (agO h)<|.inr rfl;exact aa (agP h)<|.inl rfl
def uO{xs:List Int}:∀{a:Int},a<=xs.foldl yJ a/\(∀x∈xs,x<=xs.foldl yJ a)/\(xs.foldl yJ a=a\/xs.foldl yJ a∈xs):=by
 induction xs with
 |nil=>exact λ{a}=>⟨WT _,λ_ h=>(nomatch h),.inl rfl⟩
 |cons x xs i=>
  intro a;have h:=i (a:=yJ a x);refine⟨WG (OH a x) h.1,λy b=>?_,?_⟩
  ·obtain e|b:=Wo.mp b
   ·exact aa e<|WG (PF a x) h.1
   ·exact h.2.1 y b
  ·obtain e|e:=h.2.2
   ·obtain g|g:=LW a x
    ·exact .inl (e.trans g)
    ·exact .inr (by refine aa Zj<|aa e<|aa g ?_;exact .head _)
   ·exact .inr (.tail _ e)
def C0(t:Told):Int:=((nr<|t.vars.map (λx:Nat=>(x:Int))++[0]).getD 0)
def tO(t:Told):nr (t.vars.map (λx:Nat=>(x:Int))++[0])=some (C0 t):=by
 unfold C0;cases t.vars<;>rfl
def Jn(h:U∈t.vars):(U:Int)<=C0 t:=by
 have b:(U:Int)∈t.vars.map (λx:Nat=>(x:Int))++[0]:=W6 _<|Yd h;have e:=tO t;rcases g:t.vars.map (λx:Nat=>(x:Int))++[0] with _|⟨x,xs⟩
 ·rw[g] at b;exact nomatch b
 ·rw[g] at e b
  have e:=e;refine av (Wn e) ?_;have f:=uO (xs:=xs) (a:=x);obtain e|b:=Wo.mp b
  ·exact aa e f.1
  ·exact f.2.1 _ b
def Ik(h:∀y∈t.vars,y<U)(o:0<U):∃z:Nat,z<U/\C0 t=(z:Int):=by
 have e:=tO t;have Q:C0 t∈t.vars.map (λx:Nat=>(x:Int))++[0]:=by
  rcases g:t.vars.map (λx:Nat=>(x:Int))++[0] with _|⟨x,f⟩
  ·exact agR g (by simp)
  ·rw[g] at e
   have e:=e;refine av (Wn e) ?_;obtain e|e:=(uO).2.2
   ·exact aa e<|.head _
   ·exact .tail _ e
 obtain m|m:=WH.mp Q
 ·exact fc m λz s e=>⟨z,h z s,e.symm⟩
 ·exact⟨0,o,Wj.mp m⟩
def bT(S:St):List (List Told):=(eO 0 S.n).map λz=>S.aw.filter λt=>C0 t==z
def rg:(eO a n)[z]?=if z<n then some (a+z) else none:=by
 induction n generalizing a z with
 |zero=>rfl
 |succ n i=>
  obtain _|z:=z
  ·show some a=_;rw[agO<|X9 _];exact agN some (XI a).symm
  ·show(eO (a+1) n)[z]?=_
   rw[i];by_cases h:z<n
   ·rw[agO h,agO<|Nat.succ_lt_succ h];exact agN some<|EL.symm
   ·exact aa (agP h) (aa (agP λg=>h<|abA g) rfl)
def tS(h:z<S.n):(bT S).getD z []=S.aw.filter λt=>C0 t==(z:Int):=by
 delta X8 bT;rw[Xh,rg,agO h,ab5,XB];rfl
def AX(h:¬z<S.n):(bT S).getD z []=[]:=by
 delta X8 bT;rw[Xh,rg,agP h];rfl
def Bo{P:U5->Prop}(I:Inv P S):M3 S (bT S):=by
 refine⟨λz t o=>?_,λt o=>?_⟩
 ·by_cases h:z<S.n
  ·rw[tS h] at o
   have o:=Xl.mp o;refine⟨o.1,λy a=>?_⟩;have:=Jn a;rw[eq_of_beq o.2] at this;exact Xn.mp this
  ·rw[AX h] at o;exact nomatch o
 ·exact ae (Ik (I.aw t o).lt<|Ww (ab rfl) I.two) λz s e=>⟨z,s,by rw[tS s];exact Xl.mpr ⟨o,agQ.mpr e⟩⟩
def Mn{t:Told}{u:UT}(h:t.vars.length<=1000):(yi 0 (.d (bS t.vars)) (.d (.tup [.int 0])) u)=some (.tup (((t.vars.map (λx:Nat=>(x:Int)))++[0]).map aI)):=by
 show(if (t.vars.map aH).length+1<=lim then some (D.tup<|t.vars.map aH++[.int 0]) else none)=_;refine aa (agO (by rw[Wm];exact Wh (WB h)<|ab rfl)) (aa W8<|aa Xu ?_);rfl
def KV:ER tab 8 [.d (.tup (((t.vars.map (λx:Nat=>(x:Int)))++[0]).map aI))] u=some (.d (.int (C0 t)),u):=by
 show((cP<|((t.vars.map (λx:Nat=>(x:Int)))++[0]).map aI).bind nr).map (λn=>(V.d<|.int n,u))=_;rw[dP,Y4,tO];rfl
def QD(h:U<=63):iA [.d (.int U)]=some ((eO 0 U).map aI):=by
 show(if (U:Int).natAbs<=500000 then some (aU 0 (U:Int).toNat) else none)=_;rw[agO<|show(U:Int).natAbs<=500000 from Wh h (ab rfl),yQ];rfl
def lG:(eO a n).length=n:=by
 induction n generalizing a with
 |zero=>rfl
 |succ n i=>exact agN Y6 i
section
variable{W:O}{f:UT}{Q:V->UT->Prop}{d:Nat}{S:St}{l:List Int}{D:Dr}{e:Bool}{b:Nat}{a wide c:Int}
def Ll(L:Lo pN W [])(I:Inv Al S)(m:S.n<=63)(o:S.aw.length<=63)(q:da tab (C (d+4)) (Nu.drop 9) (Dj l D e b a wide c++[(103,.d (.lst ((bT S).map mF)))]) (UU S true pN W []) K):
  da tab (C (d+4)) (Nu.drop 8) (Dj l D e b a wide c) (UU S true pN W []) K:=by
 have g:(eO 0 S.n).length<=lim:=by exact aa lG<|Wh m (ab rfl)
 have T:S.aw.length<=lim:=Wh o<|ab rfl;refine f8<|ai (QD m) (?_:bb .no _ _ (WQ aI<|eO 0 S.n) [] _ _);refine aZ aI (λz=>S.aw.filter λt=>C0 t==z) mF (λz s K k=>?_) g ?_
 ·refine(?_:bb (.ls 4) _ _ (WQ Told.en S.aw) [] _ _)
  refine fz Told.en Told.en (λt=>C0 t==z) rfl (λt o K Y A=>?_) T ?_
  ·have ok:=I.aw t o
   exact Of L.low ok.short<|ai (Mn ok.short)<|ai KV<|aX (λh=>Y h) (λh=>A h)
  ·exact bG (dj T) k
 ·exact bG (aQ (by rw[Wm];exact g)) q
end
def Vn(S:St)(w:List Int):Bool:=((bT S).getD 0 []).all (Told.holds w)&&((bT S).getD 1 []).all (Told.holds w)
def Pb(h:U<[J,I].length):U=0\/U=1:=by
 have h:=h;exact ud h
def yo{S j:St}{d:List Int->Bool}(v:S.n=2)(R:cQ Al U S j (λw=>d w=true))(s:bH S [J,I])(Q:2+Y=j.n):
  (if Vn j [J,I] then ways j (bT j) Y [J,I] else 0)=if d [J,I] then 1 else 0:=by
 have r:=Bo R.I;have l:=v▸R.e.le;have ok:Vn j [J,I]->∀z<[J,I].length,∀t∈(bT j).getD z [],t.holds [J,I]:=λh z A t o=>by
  have h:=(W7 ..).mp h;rcases Pb A with e|e<;>subst e
  ·exact Wt.mp h.1 t o
  ·exact Wt.mp h.2 t o
 have B:∀x<[J,I].length,iD (ah [J,I] x) (j.bN x):=λx g=>by
  have g:x<S.n:=v▸g;rw[R.e.bN g];exact s.box x g
 rcases f:d [J,I] with _|_
 ·rw[show(if false=true then (1:Int) else 0)=0 from rfl]
  by_cases M:Vn j [J,I]=true
  ·rw[agO M]
   refine uH r Q ⟨B,ok M⟩ λu i e=>?_;have:=(R.e.bwd u i).2;rw[v,show u.take 2=[J,I] from e,f] at this;exact nomatch this
  ·exact aa (agP M) rfl
 ·rw[agO rfl]
  refine ae (R.e.fwd _ s f) λu i e=>?_;rw[v] at e;have M:Vn j [J,I]:=by
   have a:∀z,z<2->((bT j).getD z []).all (Told.holds [J,I]):=λz A=>Wt.mpr λt o=>by
    rw[<-e,bD λy b=>au<|WJ ((r.JY z t o).2 y b) A];exact i.all t (r.JY z t o).1
   exact(W7 ..).mpr ⟨a 0<|ab rfl,a 1<|ab rfl⟩
  rw[agO M];exact CQ r (λx g=>(R.I.bN x g).r8) i Q ⟨B,ok M⟩ e λc G E=>R.e.one _ _ G i (by rw[v];exact E.trans e.symm)
def Iy{b p q:Int}(m:J<=p)(t:p<=J+I - 1)(Y:b<=q)(d:q<=b+1):bH (S0 J I b) [p,q]:=
 ⟨rfl,λx g=>by
  have g:=g;rcases ud g with e|e<;>subst e
  ·exact⟨_,.head _,m,t⟩
  ·exact⟨_,.head _,Y,d⟩,λ_ h=>nomatch h⟩
section
variable{low wide beg:Int}
structure OI (low wide beg:Int):Prop where
 low: -1<=low/\low<=1
 wide:wide=2\/wide=3
 beg: -1<=beg/\beg<=1
def Ii(h:OI low wide beg):Inv Al (S0 low wide beg):=by
 have m:=h.low;have t:=h.wide;have Y:=h.beg;refine⟨λx g=>?_,λ_ h=>(nomatch h),λ_ _ h=>(nomatch h),WC _,Wz _⟩;have g:x<2:=g;rcases ud g with e|e<;>subst e
 ·exact cZ (ya t) (gk m rfl) (Bp m t rfl)
 ·exact cZ eG (gk Y rfl) (Bv Y rfl)
def Mp(h:OI low wide beg):Sm (S0 low wide beg):=λz s=>by
 have m:=h.low;have t:=h.wide;have Y:=h.beg;rcases ud s with e|e<;>subst e
 ·exact⟨gk m rfl,Bp m t rfl⟩
 ·exact⟨gk Y rfl,Bv Y rfl⟩
def Ly:Rm 61 (S0 low wide beg):=⟨WC 63,by show 0+61<=63;decide⟩
def H2(w:Wl):Lo pN w.o []:=⟨.inl rfl,λ_=>rfl,λ_ h=>nomatch h⟩
end
def kH(S:St)(l:List Int)(D:Dr)(eq:Bool)(way:Nat)(low wide beg:Int):Ev:=Dj l D eq way low wide beg++[(103,.d<|.lst<|(bT S).map mF)]
noncomputable def JQ:List PS:=[.asg (.t<|.n 111)<|.cmp (.lc [75,16] (.v 16) [.mk (.n 75) (.e<|.tup [.k<|.int 0,.k<|.int 1]) [],.mk (.n 16) (.e<|.sub (.v 103)<|.v 75) [.not<|.call 95 [.v 16,.ls false [.v 109,.v 110]]]]) [0] [.ls false []],.asg (.t<|.n 17)<|.DG (.v 111) (.call 96 [.v 44,.v 103,.ls false [.v 109,.v 110]])<|.k<|.int 0,.iff (.cmp (.v 17) [1] [.bi 10 [.call 93 [.v 87,.v 31,.call 91 [.v 13,.v 109,.v 110],.v 109,.v 110]]]) [.hole] []]
section
variable{W:O}{a:UT}{Q:V->UT->Prop}{d m:Nat}{S:St}{l:List Int}{D:Dr}{eq:Bool}{way:Nat}{low wide beg p q:Int}{K:Kf}
def Jy{ways:Int}(L:eR a)(h:way<7)(n:ways=if sJ (D.means [p,q]) (ct [p,q] eq) way then 1 else 0)(k:K .next (kH S l D eq way low wide beg++[(109,.d (.int p)),(110,.d (.int q)),(111,x),(17,.d (.int ways))]) a):
  da tab (C (d+2)) (JQ.drop 2) (kH S l D eq way low wide beg++[(109,.d (.int p)),(110,.d (.int q)),(111,x),(17,.d (.int ways))]) a K:=by
 refine TC L<|S8 h ?_;rcases e:sJ (D.means [p,q]) (ct [p,q] eq) way with _|_
 ·rw[e] at n;have n:ways=0:=n;subst n;exact k
 ·rw[e,agO rfl] at n;subst n;exact k
def vm(I:Inv P S):∀x,∀t∈(bT S).getD x [],t.cJ/\Vm t/\∀y∈t.vars,y<=x:=λx t o=>
 have h:=(Bo I).JY x t o
 ⟨(I.aw t h.1).cJ,(I.aw t h.1).short,h.2⟩
def tK(o:S.aw.length<=63)(x:Nat):((bT S).getD x []).length<=1000:=by
 by_cases h:x<S.n
 ·exact aa (tS h)<|Wh (Xv ..) (Wh o<|ab rfl)
 ·exact aa (AX h)<|Wz _
def DC(L:Lo pN W [])(I:Inv Al S)(r:S.n<=63)(o:S.aw.length<=63)(T:2+m=S.n)(b:m+4<=c)(Y:p.natAbs<=10)(s:q.natAbs<=10)(k:Q (.d (.int (ways S (bT S) m [p,q]))) (UU S true pN W [])):
  C c 96 [.loc 2,.d (.lst ((bT S).map mF)),.d (.lst ([p,q].map aI))] (UU S true pN W []) Q:=by
 have A:=SF (rd:=bT S) L.low (by rw[bT,Wm,lG]) (Wh r<|ab rfl) (λx h=>(I.bN x h).small) (vm I) (tK o) (k:=m) (d:=c - m - 4) (w:=[p,q]) (Q:=Q) T (tP (P:=λv:Int=>v.natAbs<=1000000) (Wh Y<|ab rfl) (Wh s<|ab rfl)) k;rw[NC b] at A;exact A
theorem Ac(b:m+4<=d+2)(M:t=[]\/∃y,t=[(17,y)])(L:Lo pN W [])(I:Inv Al S)(s:S.n<=63)(r:S.aw.length<=63)(T:2+m=S.n)(Y:p.natAbs<=10)(u:q.natAbs<=10)
  (v:way<7) (o:(if Vn S [p,q] then ways S (bT S) m [p,q] else 0)=if sJ (D.means [p,q]) (ct [p,q] eq) way then 1 else 0)
  (k:∀x y,K .next (kH S l D eq way low wide beg++[(109,.d (.int p)),(110,.d (.int q)),(111,x),(17,y)]) (UU S true pN W [])):
  da tab (C (d+2)) (JQ.drop 1) (kH S l D eq way low wide beg++(109,.d (.int p))::(110,.d (.int q))::(111,.d (.bool (Vn S [p,q])))::t) (UU S true pN W []) K:=by
 have E:=λx ways o=>Jy (S:=S) (l:=l) (D:=D) (eq:=eq) (way:=way) (low:=low) (wide:=wide) (beg:=beg) (p:=p) (q:=q) (x:=x) (ways:=ways) (d:=d) L.low v o<|k _ _;rcases e:Vn S [p,q] with _|_
 ·rw[e] at o
  rcases M with h|⟨y,h⟩<;>subst h<;>exact E _ 0 o
 ·rw[e,agO rfl] at o
  rcases M with h|⟨y,h⟩<;>subst h<;>exact DC L I s r T b Y u (E _ _ o)
end
def CC:((([]++(((bT S).getD 0 []).filter λt=> !t.holds w).map Told.en)++(((bT S).getD 1 []).filter λt=> !t.holds w).map Told.en))=(((((bT S).getD 0 []).filter λt=> !t.holds w)++(((bT S).getD 1 []).filter λt=> !t.holds w)).map Told.en):=by
 rw[ZD,W8]
def DN:(((((bT S).getD 0 []).filter λt=> !t.holds w)++(((bT S).getD 1 []).filter λt=> !t.holds w)).map Told.en).isEmpty=Vn S w:=by
 have h:∀a b:List Told,(a++b).isEmpty=(a.isEmpty&&b.isEmpty):=λa b=>by cases a<;>rfl
 rw[YS,h,iG,iG];rfl
section
variable{W:O}{c:UT}{Q:V->UT->Prop}{d m:Nat}{S:St}{l:List Int}{D:Dr}{j:Bool}{f:Nat}{g wide i p q:Int}{K:Kf}
def Aq(N:(t=[]/\T=[])\/∃a b,t=[(111,a),(17,b)]/\T=[(17,b)])(L:eR c)(I:Inv P S)(r:S.aw.length<=63)(Y:p.natAbs<=10)(v:q.natAbs<=10)
  (k:da tab (C (d+3)) (JQ.drop 1) (kH S l D j f g wide i++(109,.d (.int p))::(110,.d (.int q))::(111,.d (.bool (Vn S [p,q])))::T) c K):
  da tab (C (d+3)) JQ (kH S l D j f g wide i++(109,.d (.int p))::(110,.d (.int q))::t) c K:=by
 have J:(bT S).length=S.n:=by rw[bT,Wm,lG]
 have two:=I.two;have F:∀x,x<2->∀t∈(bT S).getD x [],∀{Z:V->UT->Prop},Z (.d<|.bool<|t.holds [p,q]) c->C (d+3) 95 [.d t.en,.d<|.lst<|[p,q].map aI] c Z:=λx o t r {Z} z=>
  have h:=vm I x t r
  RH L ⟨h.2.1,λy s=>WJ (h.2.2 y s) o,tP (Wh Y<|ab rfl)<|Wh v<|ab rfl⟩ h.1 z
 have U:∀x,((bT S).getD x []).length<=lim:=λx=>cg<|tK r x;have g0:Vc ((bT S).map mF) ((0:Nat):Int)=some (mF<|(bT S).getD 0 []):=kQ (by exact aa J<|Ww (ab rfl) two);have G:Vc ((bT S).map mF) ((1:Nat):Int)=some (mF<|(bT S).getD 1 []):=kQ<|by exact aa J two
 have B:∀x,((((bT S).getD x []).filter λt=> !t.holds [p,q]).map Told.en).length<=1000:=λx=>by rw[Wm];exact Wh (Xv ..)<|tK r x
 have M:(([]++(((bT S).getD 0 []).filter λt=> !Told.holds [p,q] t).map Told.en)++(((bT S).getD 1 []).filter λt=> !Told.holds [p,q] t).map Told.en).length<=lim:=by
  rw[ZD,Wv];exact Wh (Yh (B 0)<|B 1)<|show 1000+1000<=lim by decide
 have e:=dh<|j6<|(((bT S).getD 0 []).filter λt=> !t.holds [p,q])++(((bT S).getD 1 []).filter λt=> !t.holds [p,q]);rw[DN,<-CC] at e;rcases N with⟨E,u⟩|⟨a,b,E,u⟩<;>subst E<;>subst u
 all_goals
  refine ai g0 (?_:bb .no _ _ (WQ Told.en<|(bT S).getD 0 []) [] _ _);refine bh Told.en Told.en (λt=> !t.holds [p,q]) (λt r K w A=>F 0 (ab rfl) t r<|aX (λh=>w h) (λh=>A h)) (U 0) ⟨trivial,bG (XD.mpr (by rw[ZD];exact cg<|B 0)) ?_⟩;refine ai G (?_:bb .no _ _ (WQ Told.en<|(bT S).getD 1 []) [] _ _);refine bh Told.en Told.en (λt=> !t.holds [p,q]) (λt r K w A=>F 1 (ab rfl) t r<|aX (λh=>w h) (λh=>A h)) (U 1) (⟨trivial,bG (XD.mpr M) ?_⟩);exact bG (XD.mpr M)<|ai e k
end
section
variable{W:O}{Q:V->UT->Prop}{d m:Nat}{S:St}{l:List Int}{D:Dr}{eq:Bool}{way:Nat}{low wide f p q:Int}{K:Kf}
def turn{t:Ev}(M:t=[]\/∃a b,t=[(111,a),(17,b)])(c:m+4<=d+3)(L:Lo pN W [])(I:Inv Al S)(s:S.n<=63)(r:S.aw.length<=63)(T:2+m=S.n)(Y:p.natAbs<=10)(u:q.natAbs<=10)
  (h:way<7) (o:(if Vn S [p,q] then ways S (bT S) m [p,q] else 0)=if sJ (D.means [p,q]) (ct [p,q] eq) way then 1 else 0)
  (k:∀x y,K .next (kH S l D eq way low wide f++[(109,.d (.int p)),(110,.d (.int q)),(111,x),(17,y)]) (UU S true pN W [])):
  da tab (C (d+3)) JQ (kH S l D eq way low wide f++(109,.d (.int p))::(110,.d (.int q))::t) (UU S true pN W []) K:=by
 obtain e|⟨a,b,e⟩:=M
 ·exact Aq (.inl ⟨e,rfl⟩) L.low I r Y u (Ac c (.inl rfl) L I s r T Y u h o k)
 ·exact Aq (.inr ⟨a,b,e,rfl⟩) L.low I r Y u (Ac c (.inr ⟨b,rfl⟩) L I s r T Y u h o k)
def Rk:PS:=.for (.n 110) (.e<|.tup [.v 93,.bin 0 (.v 93)<|.k<|.int 1]) JQ
def inner{t:Ev}(N:t=[]\/∃a b c,t=[(110,a),(111,b),(17,c)])(g:m+4<=d+3)(L:Lo pN W [])(I:Inv Al S)(s:S.n<=63)(r:S.aw.length<=63)(U:2+m=S.n)(Y:p.natAbs<=10)(T: -1<=f/\f<=1)
  (w:way<7) (o:∀q,f<=q->q<=f+1->(if Vn S [p,q] then ways S (bT S) m [p,q] else 0)=if sJ (D.means [p,q]) (ct [p,q] eq) way then 1 else 0)
  (k:∀x y z,K .next (kH S l D eq way low wide f++[(109,.d (.int p)),(110,x),(111,y),(17,z)]) (UU S true pN W [])):
  da tab (C (d+3)) [Rk] (kH S l D eq way low wide f++(109,.d (.int p))::t) (UU S true pN W []) K:=by
 have h:=o f (WT _) eG;have v:=o (f+1) eG<|WT _;have A:f.natAbs<=10:=gk T rfl;have i:(f+1).natAbs<=10:=Bv T rfl;have B:=λx y=>turn (K:=Kn.lp .no [.int f,.int<|f+1] (λM u Q=>Q .next M u) (Kn.sq (da tab (C<|d+3) []) K)) (.inr ⟨x,y,rfl⟩) g L I s r U Y i w v λx y=>⟨trivial,k _ _ _⟩;rcases N with e|⟨a,b,c,e⟩<;>subst e
 ·exact turn (.inl rfl) g L I s r U Y A w h λx y=>⟨trivial,B x y⟩
 ·exact turn (.inr ⟨b,c,rfl⟩) g L I s r U Y A w h λx y=>⟨trivial,B x y⟩
structure Tl (t:Ev):Prop where
 is:t=[]\/∃a b c e,t=[(109,a),(110,b),(111,c),(17,e)]
def V4(j:m+4<=d+3)(L:Lo pN W [])(I:Inv Al S)(s:S.n<=63)(r:S.aw.length<=63)(U:2+m=S.n)(T: -1<=f/\f<=1)(v:way<7){all:List Mm.D}:
  ∀{ps:List Int}{t:Ev},Tl t->(∀p∈ps,p.natAbs<=10)->(∀p∈ps,∀q,f<=q->q<=f+1->(if Vn S [p,q] then ways S (bT S) m [p,q] else 0)=if sJ (D.means [p,q]) (ct [p,q] eq) way then 1 else 0)->
  (∀t,Tl t->K .next (kH S l D eq way low wide f++t) (UU S true pN W []))->
  Vb .no all (Kn.fb (da tab (C (d+3)) [Rk]) (.n 109)) (ps.map aI) (kH S l D eq way low wide f++t) (UU S true pN W []) K:=by
 intro ps
 induction ps with
 |nil=>exact λ{t} h _ _ k=>k t h
 |cons p ps i=>
  intro t h Y o k;have N:=λx y z=>i (t:=[(109,.d<|.int p),(110,x),(111,y),(17,z)]) ⟨.inr ⟨_,_,_,_,rfl⟩⟩ (λp h=>Y p<|.tail _ h) (λp h=>o p<|.tail _ h) k;rcases h.is with e|⟨a,b,c,g,e⟩<;>subst e
  ·exact inner (.inl rfl) j L I s r U (Y p<|.head _) T v (o p<|.head _) λx y z=>⟨trivial,N x y z⟩
  ·exact inner (.inr ⟨b,c,g,rfl⟩) j L I s r U (Y p<|.head _) T v (o p<|.head _) λx y z=>⟨trivial,N x y z⟩
end
section
variable{Q:V->UT->Prop}{d:Nat}{l:List Int}
set_option maxHeartbeats 4000000 in
def SQ(q:Q (.d (.bool true)) []):C (d+80) 97 [.d (.lst (l.map aI))] [] Q:=K9 (d:=d+75) λD way eq low wide b w c v J a T=>by
 have B:OI low wide b:=⟨J,a,T⟩;refine(w7 (e:=d+57) (eq:=eq) c way).go (H2 w) (Ii B) Ly (Mp B) λs R=>?_;have r:=R.e.cnt;have o:=Wh R.e.nz (by show 0+61<=63;decide);obtain⟨m,U⟩:∃m,2+m=s.n:=⟨s.n - 2,Nat.add_sub_cancel' R.I.two⟩;refine Ll (d:=d+75) (H2 w) R.I r o ?_;have X:=V4 (d:=d+76) (m:=m) (S:=s) (l:=l) (D:=D) (eq:=eq) (way:=way) (low:=low) (wide:=wide) (K:=Kn.sq (da tab (C<|d+79)<|Nu.drop 10)<|Kn.en 0 false Q) (M8 r U) (H2 w) R.I r o U T v
  (all:=(eO low (low+wide - low).toNat).map aI) (ps:=eO low (low+wide - low).toNat) (t:=[]) ⟨.inl rfl⟩
  (λp Y=>NF J a<|fk Y)
  (λp Y q h u=>yo (S:=S0 low wide b) rfl R (Iy (fk Y).1 (Mh<|fk Y) h u) U)
  (λt o=>q)
 exact ai (lU (gk J rfl)<|G8 J a rfl) X
end
end Mm.G
namespace HL
open Mm
open PySem PySem.W PyProof.Rows PySem.Calls
def so(S:SharedT):∀A:List Addr,mC S.abs.heap A=ja S A:=by
 intro A;have e:(λa=>(S.abs.heap.get? a).map λo=>(a,o))=Pr S:=by
  funext a;unfold Pr;show((absHeap S.tree S.n S.life).get? a).map _=_;cases h:aad a S.n with
  |true=>
   have l:a<S.n:=Wi h;unfold Heap.get?;rw[absHeap_at,agO l];cases (S.tree.get a).getD default with
   |mk c d L s=>cases L<;>rfl
  |false=>rw[abs_get_none λq=>by rw[show aad a S.n=true from Nat.ble_eq_true_of_le q] at h;cases h];rfl
 show A.filterMap _=A.filterMap _;rw[e]
def Wb(w:World)(os:adF):∃S p,R w os=some (.next,S,.body bd ev,p)/\uU w S.abs/\openSeen q loose (importedModules P.main.body) (λ_=>true) true S.abs=ae4 q loose/\Vs (mC S.abs.heap xS)/\lS (mC S.abs.heap xS)=hashW w:=by
 have e:wf w (w.params.followText "special-get-raises")=w:=World.withFollow_self w _;obtain⟨b,e⟩:∃b,wf w b=w:=⟨_,e⟩;have a:IA (wf w b) (R (wf w b) os)=some (.body bd ev,true,ae4 q loose,true,hashW<|wf w b):=by
  cases b with
  |false=>exact RT w os
  |true=>exact Sk w os
 have b:JK (R (wf w b) os)=some (.body bd ev,true):=by
  cases b with
  |false=>exact RM w os
  |true=>exact Tp w os
 rw[e] at a b;revert a b;cases R w os with
 |none=>exact λa=>nomatch a
 |some r=>
  obtain⟨f,S,c,p⟩:=r;cases f with
  |next=>
   intro a b;obtain⟨A,Y⟩:=Yr<|Wn<|show some (c,uU w S.abs,aa5 q loose (importedModules P.main.body) (λ_=>true) true S.abs,uy (ja S xS)&&qY (ja S xS),lS<|ja S xS)=_ from a;obtain⟨Y,d⟩:=Yr Y;obtain⟨d,v⟩:=Yr d;obtain⟨v,B⟩:=Yr v;have b:=(Yr<|Wn<|show some (c,uT<|ja S xS)=_ from b).2;have v:=ew v;refine⟨S,p,by rw[A],Y,?_,by rw[so];show(uT _&&uy _&&qY _)=true;rw[b,v.1,v.2];rfl,by rw[so];exact B⟩;rw[Fast.te4187177175401517315];exact d
  |_=>exact λa=>nomatch a
def V9(s:adx):Bool×List Int:=(Vs<|mC s.heap xS,lS<|mC s.heap xS)
def val(w:World):Bool×List Int:=(true,hashW w)
def says(w:World)(h:Heap):Prop:=∃K:Frag,K.In h/\Vs K/\lS K=hashW w
def left:LeftO P q loose (λ_=>true) V9 val 100000:=λw=>by
 obtain⟨⟨h,g,d,k,os⟩,e,E⟩:=abf.mp<|Mk w;obtain⟨rfl,rfl,rfl,rfl⟩:h=adO w.params/\g=adp []/\d=ad6/\k=boot_toks:=by simpa using E
 obtain⟨S,p,m,u,Y,f,I⟩:=Wb w os;have r:=topRun_mono (100000 - 8287) _ _ _ _<|run m;have z:=Ke w;obtain⟨l,s⟩:=Yr z;obtain⟨s,v⟩:=Yr s;have t:afY adU P w 100000 ⟨adO w.params,#[],ad6,boot_toks,os⟩=some S.abs:=by
  unfold afY;dsimp only;rw[l,s,v];show(ae0 adU P w 11 VS 100000 ⟨adO w.params,#[],ad6,boot_toks,os⟩<|aeM P).bind _=_;rw[show ae0 adU P w 11 VS 100000 ⟨adO w.params,#[],ad6,boot_toks,os⟩ (aeM P)=some S.abs from r];show(match uU w S.abs with|true=>some S.abs|false=>none)=_;rw[u]
 unfold openEnds;rw[e];show(afY adU P w 100000 _).map _=_;rw[t];exact agN some<|acD Y<|acD f I
def Dm{h:Heap}{v:List Value}{l:List Int}(x:ad4 v l):bL CL h [] v (l.map D.int):=by
 induction x with
 |nil=>exact .nil
 |cons i t _ I=>exact .cons (.int i t) I
def V8(d:DefRec)(ag:List (Str×adz))(p:d.name=("law":Str)):WalkO q loose (λ_ _=>True) says (acE aaZ).toRowW d ag (λf i=>PySem.call f i):=by
 intro w a3 M mg mb G Y fa o pm cd a2 dV kV k y am N ar hg ac a4 A aw ap ax a0 al;have T:=G.T;clear y am N
 wrow_args aw ap ax a0 al
 rename_i l _ _ _ _ _ _ _ a i _ U _ wl _ E _ L _
 obtain⟨K,X,F,H⟩:=Y
 let Z:Wq:=SY w M.heap mg mb K M.os X F H T.nolimit T.g T.b T.builtins
 have ea:fa=sM 97:=by
  have:=(Z.gf 97<|show cN.ig 97=true by decide+kernel).1;have e:(mg ("law":Str))=some (.ref<|sM 97):=this;rw[<-p,ar] at e;exact Value.ref.inj<|Wn e
 subst ea;have J:i.length<=63:=by
  rw[Zn E];exact Xn.mp<|X4.mp L
 have c:kI M.heap a i.toArray:=by
  cases wl with
  |list m _=>
   obtain⟨o,t,_,n,j⟩:=U;rw[m] at t;cases t;rw[(Data.seq.inj j).1] at m;exact⟨0,m⟩
 have C:=Mm.G.H7 (λd l Q q=>Mm.G.SQ q) (Br Z (Np F)<|JN F) 1 l (λv _=>v=.d (.bool true)) rfl;refine enter_call ?_;refine C callerA M ⟨[],[]⟩ [.ref a] _ ⟨rfl,by decide+kernel,by decide+kernel⟩ ⟨λ_ _ e=>e,rfl,λ_ _ _ e=>(nomatch e),λ_ _ _ _ e=>(nomatch e),λ_ h=>(nomatch h),λ_ h=>(nomatch h),rfl,hg⟩
  (.cons (.d<|.lst c (λq=>(nomatch q)) (Wh J<|by decide) (Dm E)) .nil) λv x s I z u S r e=>?_
 subst e;cases r.dd.eZ;refine⟨.inl ⟨.bool true,.bool true,[],rfl,λB=>rfl,.bool true,?_,λ_=>⟨Xr,λ_ h=>(nomatch h)⟩⟩,OldK.of_keep λb o e=>u.base b o e,u.os,.of_eq u.gs⟩
 wrow_post
noncomputable abbrev rr:OpenRow:=acE aaZ
def hb:P.bare:=⟨by kernel_rfl,by kernel_rfl,by kernel_rfl,by kernel_rfl,by kernel_rfl,by kernel_rfl⟩
def J6:(chainsOk q&&opensWell P&&(frees rr.toRowW&&rr.within.isEmpty)):=by kernel_rfl
def NZ:(defOf q "law").map (λx=>(x.1.params,x.1.body,x.1.scope))=P.theDef "law":=by kernel_rfl
def UH:(defOf q "law").map (λx=>kwWritten? x.1.params.kwonlyargs x.1.params.kw_defaults)=(defOf q "law").map λx=>some x.2:=by kernel_rfl
def hw:rr.toRowW.promised:=⟨[.list []],by decide+kernel,by decide+kernel⟩
def hY:∀(w:World)(s:adx),V9 s=val w->says w s.heap:=λw s e=>⟨_,Ax s.heap xS,(Yr e).1,(Yr e).2⟩
def Sy:∀(w:World)(h G:Heap),says w h->(∀b o,h.get? b=some o->G.get? b=some o)->says w G:=λw h G ⟨K,X,F,H⟩ k=>⟨K,X.keeps k,F,H⟩
def Uq(s:rr.wellSaid):rr.Holds:=by
 obtain⟨⟨d,kwd⟩,a⟩:=Ye.mp t0;have h:=NZ;have M:=UH;rw[a] at h M;have h:P.theDef "law"=some (d.params,d.body,d.scope):=h.symm;have M:kwWritten? d.params.kwonlyargs d.params.kw_defaults=some kwd:=Wn M;exact holds_open (r:=rr) (q:=q) (loose:=loose) (Xt:=λ_=>true) (XP:=λ_ _=>True) (Yf:=V9) (Ya:=val) (YP:=says) (N:=100000) (d:=d) (kwd:=kwd) left hY Sy
  (λ_ _=>trivial) (λ_ _ _ _ _=>trivial) a h M (λ_ _=>recFacts_nil rfl) rfl s J6 hb hw (V8 d kwd<|defOf_name a)
def cw:aaZ.Holds:=holds_law ws Uq
end HL
end
theorem PySem.Challenge.cw_pc0062_01_holds : PySem.Challenge.rw_pc0062_01.Holds :=
  HL.cw
