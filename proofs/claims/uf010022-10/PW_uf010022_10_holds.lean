import PyProof.Rows.All
import Open.Boot
import Open.Tree
import Wide.All
import Lean
import PySem.Challenge.RW_uf010022_10
set_option Elab.async false
set_option linter.all false
set_option compiler.extract_closed false
set_option genSizeOf false
set_option bootstrap.genMatcherCode false
set_option maxRecDepth 100000
set_option maxHeartbeats 4000000
set_option tactic.hygienic false
set_option genInjectivity false
set_option backward.match.sparseCases false
open Option renaming some->hb,none->Hu,bind_some->HT,map_eq_some_iff->H6,isSome_iff_exists->IV,isNone_iff_eq_none->Jc,map->Jo,map_some->Lr,getD_some->LW,getD_none->MF,isSome_some->O2,map_none->PF
open _root_ renaming List->Hn,Option->Hp,Nat->HG,Int->HI,congrArg->HL,beq_eq_false_iff_ne->HO,if_pos->H5,Bool->Ig,beq_self_eq_true->Ih,decide_eq_true_eq->Ik,decide_eq_true->Ip,if_neg->Ir,decide_eq_false->Iw,absurd->IG,of_decide_eq_true->IW,String->I2,False->Jg,of_decide_eq_false->Ji,cond_false->Kg,cond_true->Ku,or_false->Kv,congrFun->Kx,beq_iff_eq->KA,if_false->K8,Decidable->La,not_or->LR,if_true->MU,decide_eq_false_iff_not->Na,not_eq_of_beq_eq_false->Nk,Unit->Nq,True->N9,le_of_eq_of_le->OM,LawfulBEq->Pm,Array->PX,cond->Qi,lt_of_eq_of_lt->Rp
open PySem renaming PyData->Ho,wpAny_bind->Ht,Addr->Hv,Value->HE,Shared->HM,Str->HP,Expr->HR,wpAny_pure->HV,starEach->Ie,model->Iq,Heap->Iv,Program->IB,Scope->IH,Stmt->IM,mainGlobals->I3,Keeps->I8,World->Ja,eval->Jf,Around->Jh,sliceBounds->Jr,wpAny_field->Jx,swapsWith->JU,wpAny_callSpecial?_slot->JV,attributeBase->J2,Pos->J3,backTo->J4,wpAny_Call_method->J5,wpAny_seqItems->J8,sysModules->Kd,Env->Ke,wpAny_mono->Kf,wpAny_Assign_Name->Kk,wpAny_Assign_Subscript->Kr,Keyword->Ks,wpAny_items_cons->Kt,typeLookup->Kw,wpAny_newFunctionEnv_cells->Kz,partValue->KH,call_isinstance->KI,interactive->KJ,wpAny_newObj_type->KL,wpAny_holding->KR,wpAny_call_entry->KU,builtinsNs->K1,valueAt->K2,wpAny_setField_rec->K5,Comprehension->Lb,codeAny_call_function->Le,wpAny_truthy_bool->Lf,wpAny_loadName_local->Lo,subscripted->Lp,callWith->Lq,isSubtype_type->Ls,IsPair->Lv,Operator->LK,NameKind->LL,wpAny_items_nil->LM,importedModules->LN,wpAny_Expr->LP,cellsFrom->LV,BoolOp->L1,getItem->L2,wpAny_Return_some->L3,wpAny_assign_Name->L5,wpAny_typeOf->L7,isSubtype->Ml,keywordEach->Mp,wpAny_ite_split->My,wpAny_loadName_cell->MA,treeTable->MI,wpAny_Name->MJ,wpAny_Constant_str->MK,stored->ML,foldedSetIterable->MV,notedBy->MW,slot_list_setitem->MZ,wpAny_standAt->M4,wpAny_comprehension_free->M5,wpAny_execs_cons->M8,strPairs->Nb,operate->Nh,codeAny_func->Ni,wpAny_rule->Nj,wpAny_updateSeq->Nm,wpAny_storeName_local->Nr,CmpOp->Nu,backToKw->Ny,wpAny_letGo->Nz,wpAny_updateSeq_pair->NA,seqIndex?->NC,list_getitem_lookup->NM,wpAny_setItem_pairs->NP,behindInMarks->NX,IsZip->NZ,wpAny_onRaise->N0,wpAny_getItem_list->N1,wpAny_pyIter_tuple->N2,assignEach->N3,wpAny_call->N4,holding->Oa,slot_dict_getitem->Ob,bindL->Oc,wpAny_sequenceKey->Od,plainObj_wpAny_Assign_Attribute->Oh,wpAny_getItem_of->Om,wpAny_isInstance->Ot,Arguments->Ov,bindC->Ox,Draws->Oz,wpAny_execs_nil->OA,letOwnedTupleGo->OB,wpAny_AugAssign_AttributeAny->OC,wpAny_specialOf->OE,setItem->OG,wpAny_List->OL,sliceRange->ON,rawInt->OP,wpAny_listPart->OU,call_list_seq->O8,Tok->Pk,storeName->Pn,lastMarks->Pr,standAt->Pu,relabel->Px,codeAny->Pz,builtinLookup_eq_fast->PO,Obj->PR,wpAny_Slice->PW,wpAny_of_eq->P5,wpAny_Constant_bool->Qb,pairTrees_cons_walk->Qd,merged_nil_of_nodup->Qe,isTrue->Qj,truthy->Qk,typeIs_str->Ql,pyNext->Qm,pyIter->Qn,cameBackBy->Qo,wpAny_assign_Tuple->Qp,pairTrees_nil_walk->Qt,entry_list_setitem->Qu,Params->QB,spliced->QE,wpAny_pyIter_list->QF,args_list_setitem->QH,wpAny_pyIter_enum->QI,Const->QL,slicePick->QO,wpAny_Dict_empty->QP,carries_strPairs->QS,wpAny_pyIter_zip->QX,wpAny_Dict_walk->Q6,typeLookup_type->Rd,recursionLimit->Rf,FuncData->Ri,evalEach->Rq,wpAny_setField->Rr,firstArgMember->Rt
open Bool renaming true->Hq,false->HH,and_eq_true->HU,noConfusion->Iu,false_ne_true->ID,and_eq_true_iff->IU,or_eq_false_iff->Jn,or_eq_true->JA,not_eq_true'->JI,false_eq_true->Ko,and_self->MG,or_true->NK,eq_iff_iff->N7,false_and->Og,true_and->Qs,and_true->QA
open List renaming length_map->Hr,mem_cons->Hw,mem_append_right->Hx,mem_singleton->HB,mem_append->HD,mem_append_left->HF,map_append->HJ,lookup_cons->HK,length_append->HN,getElem?_eq_getElem->HQ,map_cons->HS,mem_map->HX,nodup_cons->HZ,range->H0,getElem?_eq_some_iff->H2,nodup_append->H8,not_mem_nil->Ia,map_map->Ii,mem_of_getElem?->Il,length_range->Iy,getElem?_map->Iz,append_nil->IA,isEmpty_iff->IC,flatMap_cons->IF,mem_flatMap->IS,zip_cons_cons->IT,exists_cons_of_length_eq_add_one->IY,filterMap_cons->I1,mem_cons_of_mem->I5,append_assoc->I6,nodup_nil->I9,size_toArray->Jd,filterMap_eq_map'->Je,filter_cons_of_neg->Jm,length_eq_one_iff->Jp,length_cons->Ju,getElem?_eq_none->Jw,filter_cons_of_pos->Jy,take_length->JD,length_reverse->JG,getElem?_toArray->JJ,mem_range->JK,all_eq_true->JM,filter_cons->JN,getD_eq_getElem?_getD->JX,map_congr_left->J0,drop_eq_getElem_cons->J6,length_take->J9,mem_of_mem_take->Kc,take_of_length_le->Kl,length->Km,map_reverse->Kn,of_mem_zip->Ky,mem_filter->KB,take_add_one->KD,getElem_mem->KM,drop_length->KN,nil_append->KX,length_filter_le->KY,mem_of_mem_drop->Lc,getElem?_append_right->Ld,length_drop->Li,cons_append->Lj,map_take->Lw,find?_cons->Lx,filter_append->LC,getElem?_cons_zero->LF,take_append_drop->L0,map_drop->L8,mem_filterMap->Mq,pairwise_cons->Mr,map_inj_right->Mt,getElem?_append_left->MC,getElem?_eq_none_iff->MD,sublist_append_left->MH,getElem?_cons_succ->MO,mem_reverse->MP,map_nil->MX,drop_eq_nil_of_le->MY,getElem?_of_mem->Nf,getElem?_range->Nl,mem_map_of_mem->Nn,filter_sublist->Np,ext_getElem?->NG,getElem?_set->NH,map_set->NI,any_eq_true->NY,length_set->N6,drop_zero->Oi,findIdx?_eq_none_iff->Oo,sublist_append_right->Oq,pairwise_mergeSort->OD,forall_mem_cons->OX,mem_iff_getElem->OY,getElem?_zipIdx->OZ,length_take_le'->O3,toList_toArray->O9,mergeSort_perm->Pb,length_pos_iff->Pf,filter_eq_self->Pg,zip_nil_right->Pp,filterMap_map->Pq,getElem_range->Ps,pairwise_map->Pw,getElem?_inj->PE,perm_middle->PK,flatMap_nil->PL,range_succ->P4,zipIdx_map->P8,any_cons->Qq,all_cons->Qv,Nodup->Q4,drop->Rk,take->Rl
open Nat renaming le_trans->Hs,lt_of_le_of_lt->HC,le_add_right->Ib,add_le_add_left->Ij,add_le_add_right->Im,le_refl->Io,le_of_ble_eq_true->IE,le_of_lt->IK,lt_of_lt_of_le->I0,min_le_right->I7,min_eq_left->Jk,le_add_left->Jl,ne_of_lt->Jq,add_le_add->Js,succ_le_succ->Jv,not_lt->JH,le_of_not_lt->JQ,zero_le->JS,lt_irrefl->JW,le_of_eq->JY,le_succ_of_le->JZ,le_succ->J1,mul_le_mul_left->Kj,min_eq_right->KP,ne_of_gt->KT,succ_pos->KW,sub_eq_zero_of_le->KZ,le_add_left_of_le->K3,lt_succ_of_le->K6,le_of_not_le->Ll,ble->Ln,succ_add_eq_add_succ->LA,add_right_comm->LD,lt_succ_of_lt->LQ,le_of_lt_succ->LS,lt_succ_self->L4,add_assoc->Ma,min_le_left->Mm,sub_le->M1,lt_trans->M6,le_antisymm->M7,lt_of_lt_of_eq->Nv,le_of_succ_le->NQ,lt_of_succ_le->NR,lt_of_succ_lt->NV,lt_add_of_pos_right->OH,sub_self->OT,div_lt_of_lt_mul->Pd,add_left_cancel->Pj,sub_lt_sub_left->Po,not_le->PB,sub_add_cancel->PI,sub_pos_of_lt->PM,le_of_not_ge->P7,lt_add_one->Qy,add_comm->QN,zero_add->QY,min_zero->Q2,mod_lt->Ru,lt_min->Rv
open PySem.Str renaming ofString->HA,empty->KQ,ofString_eq_toList->OV,length_append->PJ,append->Rm
open PySem.Heap renaming get?_push_of_some->HW,get?_push_size->H7,lt_size->II,get?_update_self->Jb,SameBut->KS,size_push->Ms,get?_update_other->M0,IsTuple->QJ,ExtBut->QW
open Int renaming le_trans->HY,natCast_nonneg->H3,emod_lt_of_pos->H9,emod_nonneg->Ic,lt_of_lt_of_le->IJ,le_of_lt->IZ,ofNat_le->I4,ofNat_lt->Jj,natCast_pos->Jt,toNat_le->JE,lt_add_one_of_le->JT,lt_of_le_of_lt->Ka,ne_of_gt->Kb,le_add_of_nonneg_right->Kp,not_lt->Kq,le_of_lt_add_one->KF,natCast_ne_zero_iff_pos->K7,toNat_lt->Lk,toNat_of_nonneg->Lu,toNat_lt'->Lz,succ_ofNat_pos->LG,le_refl->LH,self_le_toNat->LO,sub_pos_of_lt->LU,mul_le_mul_of_nonneg_right->L9,add_le_add_right->Md,sub_le_self->Mj,add_sub_cancel->Mu,not_le->Mx,add_nonneg->Mz,toNat_natCast->ME,neg_ofNat_le_natCast->MM,not_lt_of_ge->MQ,max_eq_right->MS,eq_ofNat_of_zero_le->MT,lt_trans->M3,zero_add->NL,lt_toNat->NU,min_eq_left->N8,le_max_left->Of,le_sub_right_of_add_le->Oj,neg_le_neg->Ol,mul_nonneg->Ow,add_le_add_iff_right->OF,le_of_eq->OJ,ediv_one->OQ,sub_nonneg_of_le->O4,sub_neg->O5,sub_le_sub_right->Pe,add_lt_add_left->Ph,sub_add_cancel->PD,min_eq_right->PQ,lt_of_not_ge->PT,max_eq_left->Qg,ediv_nonneg->Qh,toNat_sub->QC,ofNat_sub->QD,le_total->QR,add_zero->Q0,one_mul->Q3,le_def->Rh
open Option.some renaming inj->H4,injEq->Rj
open PySem.PyData renaming int->IL,eqv->IX,str->JF,strOk->Ki,eqvAll->KE,canLay0->LI,depthAll->Mb,tuple->Mh,canLayAll0->Mv,list->Mw,dict->NS,none->OI,depth->Qc
open List.cons renaming inj->IP,injEq->O0
open PySem.Builtin.Str renaming strSliceIndices->IQ,occurrences->Lg,glued->Rn,tooLong->Ro
open Nat.succ renaming inj->Jz
open PySem.Obj renaming mapSeq->JB,data_mapFields->PG
open PySem.Heap.SameBut renaming update->JL
open Int.ofNat renaming inj->J7
open PySem.NameKind renaming free->Kh,cell->Py
open PySem.Env renaming kindOf->KG
open PySem.Builtin.Tuple renaming tupleExact->K4,tupleItemsOf->QU
open Ne renaming symm->K9
open ForInStep renaming yield->Lh
open PySem.F renaming slot_tuple_iterator_next->Lm,plainAttrs_list->LY,slot_zip_next->Ng,slot_list_append->NN,type_list_append->NO,plainAttrs_dict->N5,args_tuple_iterator_next_1->Ou,entry_tuple_iterator_next->Oy,slot_str_getitem->PU,slot_list_extend->PZ,type_list_extend->P0,slot_dict_values->P6,args_zip_next_1->Qf,entry_zip_next->Qw
open PySem.Calls renaming spliced_cons->Ly,spliced_nil->LB,callWith_builtin->M9,evalArgs_plain->Nx,Name_function_global->PY
open Classical renaming choose_spec->LJ,choose->OS
open PySem.Builtin.List renaming listSubscript?->LX,listSameRef->Mi,listTooLong->NJ,listLengthHint->Q7,listExtendWith->Q8,listAllItems->Ra,listItems->Rb
open PySem.Value renaming type->LZ,none->MR,ref->NT,bool->Pc
open PySem.Builtin.Slice renaming slicePlaces->L6,sliceAdjust->Nt,slicePartIndex->QT,sliceApplied->QV
open List.Sublist renaming refl->Me
open Eq renaming refl->Mg,symm->PV
open Array renaming all_eq_true'->Mn,mk->NB,eq_empty_of_size_eq_zero->NW
open PySem.Arg renaming arg->Mo
open PySem.Heap.DictOf renaming new->MB
open Prod renaming ext->MN,fst->ND,snd->NF
open PySem.Builtin.SmallTypes renaming nextOf->Nc
open PySem.W renaming boot_heap->Nd,openGood->OW,openSeen->P9,openEnds->Qa,SharedT->QM,stepT->Rx
open List.Perm renaming nodup->Nw,swap->O6,cons->O7
open False renaming elim->Oe
open PySem.P renaming append_list->OO,extend_list->Q5
open PySem.PyData.int renaming inj->O1
open PySem.Value.ref renaming inj->Pl
open List.Mem renaming head->PH
open PySem.Txt renaming join->Qr
open PySem.Shared renaming heap->Qx
open PySem.Expr renaming Constant->Qz
open String.Pos.Raw renaming mk_le_mk->QG
open PySem.Heap.IsSliceOf renaming new->QK
open PySem.Builtin.Range renaming rangeSize->QQ
open List.Pairwise renaming nil->QZ,imp->Q1
open PySem.Heap.IsTuple renaming push->Q9
open PySem.Builtin.Int renaming intBits->Rg
open PyProof.Rows renaming plainsOf->Rw
namespace Mine
noncomputable section
open PySem PySem.Calls
variable{Y:IB}{w:Ja}{Hz:Hn Hv}{U:Iv}
section
universe u v w p q r
theorem wsd:PySem.Challenge.rw_uf010022_10.wellSaid=Hq:=by decide +kernel
section
variable{P Q G:Prop}
theorem ew(h:P/\Q)(f:P->Q->G):G:=f h.1 h.2
theorem gQ(h:P)(i:Q):P/\Q:=⟨h,i⟩
variable{aH:Prop}
theorem xg(h:P/\Q/\aH)(f:P->Q->aH->G):G:=f h.1 h.2.1 h.2.2
theorem l6(h:P)(i:Q)(j:aH):P/\Q/\aH:=⟨h,i,j⟩
variable{S:Prop}
theorem Bh(h:P/\Q/\aH/\S)(f:P->Q->aH->S->G):G:=f h.1 h.2.1 h.2.2.1 h.2.2.2
theorem yW(h:P)(i:Q)(j:aH)(k:S):P/\Q/\aH/\S:=⟨h,i,j,k⟩
variable{T:Prop}
theorem CP(h:P/\Q/\aH/\S/\T)(f:P->Q->aH->S->T->G):G:=f h.1 h.2.1 h.2.2.1 h.2.2.2.1 h.2.2.2.2
theorem Er(h:P)(i:Q)(j:aH)(k:S)(l:T):P/\Q/\aH/\S/\T:=⟨h,i,j,k,l⟩
variable{s7:Prop}
theorem e06(h:P/\Q/\aH/\S/\T/\s7)(f:P->Q->aH->S->T->s7->G):G:=f h.1 h.2.1 h.2.2.1 h.2.2.2.1 h.2.2.2.2.1 h.2.2.2.2.2
variable{V:Prop}
theorem Fu(h:P/\Q/\aH/\S/\T/\s7/\V)(f:P->Q->aH->S->T->s7->V->G):G:=f h.1 h.2.1 h.2.2.1 h.2.2.2.1 h.2.2.2.2.1 h.2.2.2.2.2.1 h.2.2.2.2.2.2
theorem i07(h:P)(i:Q)(j:aH)(k:S)(l:T)(m:s7)(n:V):P/\Q/\aH/\S/\T/\s7/\V:=⟨h,i,j,k,l,m,n⟩
variable{W:Prop}
theorem e08(h:P/\Q/\aH/\S/\T/\s7/\V/\W)(f:P->Q->aH->S->T->s7->V->W->G):G:=f h.1 h.2.1 h.2.2.1 h.2.2.2.1 h.2.2.2.2.1 h.2.2.2.2.2.1 h.2.2.2.2.2.2.1 h.2.2.2.2.2.2.2
theorem i08(h:P)(i:Q)(j:aH)(k:S)(l:T)(m:s7)(n:V)(o:W):P/\Q/\aH/\S/\T/\s7/\V/\W:=⟨h,i,j,k,l,m,n,o⟩
end
section
variable{α:Sort u}{P:α->Prop}{G:Prop}
theorem dz(h:∃x,P x)(f:∀x,P x->G):G:=h.elim λx t=>f x t
theorem u9 x(h:P x):∃x,P x:=⟨x,h⟩
variable{Q:α->Prop}
theorem aQ(h:∃x,P x/\Q x)(f:∀x,P x->Q x->G):G:=h.elim λx t=>f x t.1 t.2
theorem i12 x(h:P x)(i:Q x):∃x,P x/\Q x:=⟨x,h,i⟩
variable{aH:α->Prop}
theorem kK(h:∃x,P x/\Q x/\aH x)(f:∀x,P x->Q x->aH x->G):G:=h.elim λx t=>f x t.1 t.2.1 t.2.2
theorem rM x(h:P x)(i:Q x)(j:aH x):∃x,P x/\Q x/\aH x:=⟨x,h,i,j⟩
variable{S:α->Prop}
theorem Cm(h:∃x,P x/\Q x/\aH x/\S x)(f:∀x,P x->Q x->aH x->S x->G):G:=h.elim λx t=>f x t.1 t.2.1 t.2.2.1 t.2.2.2
theorem DO x(h:P x)(i:Q x)(j:aH x)(k:S x):∃x,P x/\Q x/\aH x/\S x:=⟨x,h,i,j,k⟩
variable{T:α->Prop}
theorem e15(h:∃x,P x/\Q x/\aH x/\S x/\T x)(f:∀x,P x->Q x->aH x->S x->T x->G):G:=h.elim λx t=>f x t.1 t.2.1 t.2.2.1 t.2.2.2.1 t.2.2.2.2
theorem i15 x(h:P x)(i:Q x)(j:aH x)(k:S x)(l:T x):∃x,P x/\Q x/\aH x/\S x/\T x:=⟨x,h,i,j,k,l⟩
end
section
variable{α:Sort u}{β:Sort v}{P:α->β->Prop}{G:Prop}
theorem pQ(h:∃x y,P x y)(f:∀x y,P x y->G):G:=h.elim λx h=>h.elim λy t=>f x y t
theorem CB(x y)(h:P x y):∃x y,P x y:=⟨x,y,h⟩
variable{Q:α->β->Prop}
theorem my(h:∃x y,P x y/\Q x y)(f:∀x y,P x y->Q x y->G):G:=h.elim λx h=>h.elim λy t=>f x y t.1 t.2
theorem Ca(x y)(h:P x y)(i:Q x y):∃x y,P x y/\Q x y:=⟨x,y,h,i⟩
variable{aH:α->β->Prop}
theorem j4(h:∃x y,P x y/\Q x y/\aH x y)(f:∀x y,P x y->Q x y->aH x y->G):G:=h.elim λx h=>h.elim λy t=>f x y t.1 t.2.1 t.2.2
theorem mD(x y)(h:P x y)(i:Q x y)(j:aH x y):∃x y,P x y/\Q x y/\aH x y:=⟨x,y,h,i,j⟩
variable{S:α->β->Prop}
theorem i24(x y)(h:P x y)(i:Q x y)(j:aH x y)(k:S x y):∃x y,P x y/\Q x y/\aH x y/\S x y:=⟨x,y,h,i,j,k⟩
end
section
variable{α:Sort u}{β:Sort v}{γ:Sort w}{P Q:α->β->γ->Prop}{G:Prop}
theorem uB(h:∃x y z,P x y z/\Q x y z)(f:∀x y z,P x y z->Q x y z->G):G:=h.elim λx h=>h.elim λy h=>h.elim λz t=>f x y z t.1 t.2
theorem Aw(x y z)(h:P x y z)(i:Q x y z):∃x y z,P x y z/\Q x y z:=⟨x,y,z,h,i⟩
variable{aH:α->β->γ->Prop}
theorem vc(h:∃x y z,P x y z/\Q x y z/\aH x y z)(f:∀x y z,P x y z->Q x y z->aH x y z->G):G:=h.elim λx h=>h.elim λy h=>h.elim λz t=>f x y z t.1 t.2.1 t.2.2
theorem zh(x y z)(h:P x y z)(i:Q x y z)(j:aH x y z):∃x y z,P x y z/\Q x y z/\aH x y z:=⟨x,y,z,h,i,j⟩
variable{S:α->β->γ->Prop}
theorem Au(h:∃x y z,P x y z/\Q x y z/\aH x y z/\S x y z)(f:∀x y z,P x y z->Q x y z->aH x y z->S x y z->G):G:=h.elim λx h=>h.elim λy h=>h.elim λz t=>f x y z t.1 t.2.1 t.2.2.1 t.2.2.2
theorem A3(x y z)(h:P x y z)(i:Q x y z)(j:aH x y z)(k:S x y z):∃x y z,P x y z/\Q x y z/\aH x y z/\S x y z:=⟨x,y,z,h,i,j,k⟩
variable{T:α->β->γ->Prop}
theorem e35(h:∃x y z,P x y z/\Q x y z/\aH x y z/\S x y z/\T x y z)(f:∀x y z,P x y z->Q x y z->aH x y z->S x y z->T x y z->G):G:=h.elim λx h=>h.elim λy h=>h.elim λz t=>f x y z t.1 t.2.1 t.2.2.1 t.2.2.2.1 t.2.2.2.2
theorem i35(x y z)(h:P x y z)(i:Q x y z)(j:aH x y z)(k:S x y z)(l:T x y z):∃x y z,P x y z/\Q x y z/\aH x y z/\S x y z/\T x y z:=⟨x,y,z,h,i,j,k,l⟩
end
section
variable{α:Sort u}{β:Sort v}{γ:Sort w}{δ:Sort p}{P Q:α->β->γ->δ->Prop}{G:Prop}
theorem e42(h:∃x y z a,P x y z a/\Q x y z a)(f:∀x y z a,P x y z a->Q x y z a->G):G:=h.elim λx h=>h.elim λy h=>h.elim λz h=>h.elim λa t=>f x y z a t.1 t.2
variable{aH:α->β->γ->δ->Prop}
theorem e43(h:∃x y z a,P x y z a/\Q x y z a/\aH x y z a)(f:∀x y z a,P x y z a->Q x y z a->aH x y z a->G):G:=h.elim λx h=>h.elim λy h=>h.elim λz h=>h.elim λa t=>f x y z a t.1 t.2.1 t.2.2
variable{S:α->β->γ->δ->Prop}
theorem Ct(h:∃x y z a,P x y z a/\Q x y z a/\aH x y z a/\S x y z a)(f:∀x y z a,P x y z a->Q x y z a->aH x y z a->S x y z a->G):G:=h.elim λx h=>h.elim λy h=>h.elim λz h=>h.elim λa t=>f x y z a t.1 t.2.1 t.2.2.1 t.2.2.2
theorem i44(x y z a)(h:P x y z a)(i:Q x y z a)(j:aH x y z a)(k:S x y z a):∃x y z a,P x y z a/\Q x y z a/\aH x y z a/\S x y z a:=⟨x,y,z,a,h,i,j,k⟩
variable{T:α->β->γ->δ->Prop}
theorem F9(h:∃x y z a,P x y z a/\Q x y z a/\aH x y z a/\S x y z a/\T x y z a)(f:∀x y z a,P x y z a->Q x y z a->aH x y z a->S x y z a->T x y z a->G):G:=h.elim λx h=>h.elim λy h=>h.elim λz h=>h.elim λa t=>f x y z a t.1 t.2.1 t.2.2.1 t.2.2.2.1 t.2.2.2.2
theorem i45(x y z a)(h:P x y z a)(i:Q x y z a)(j:aH x y z a)(k:S x y z a)(l:T x y z a):∃x y z a,P x y z a/\Q x y z a/\aH x y z a/\S x y z a/\T x y z a:=⟨x,y,z,a,h,i,j,k,l⟩
variable{s7 V:α->β->γ->δ->Prop}
theorem e47(h:∃x y z a,P x y z a/\Q x y z a/\aH x y z a/\S x y z a/\T x y z a/\s7 x y z a/\V x y z a)(f:∀x y z a,P x y z a->Q x y z a->aH x y z a->S x y z a->T x y z a->s7 x y z a->V x y z a->G):G:=h.elim λx h=>h.elim λy h=>h.elim λz h=>h.elim λa t=>f x y z a t.1 t.2.1 t.2.2.1 t.2.2.2.1 t.2.2.2.2.1 t.2.2.2.2.2.1 t.2.2.2.2.2.2
theorem i47(x y z a)(h:P x y z a)(i:Q x y z a)(j:aH x y z a)(k:S x y z a)(l:T x y z a)(m:s7 x y z a)(n:V x y z a):∃x y z a,P x y z a/\Q x y z a/\aH x y z a/\S x y z a/\T x y z a/\s7 x y z a/\V x y z a:=⟨x,y,z,a,h,i,j,k,l,m,n⟩
end
section
variable{α:Sort u}{β:Sort v}{γ:Sort w}{δ:Sort p}{ε:Sort q}{P Q aH S:α->β->γ->δ->ε->Prop}{G:Prop}
theorem e54(h:∃x y z a b,P x y z a b/\Q x y z a b/\aH x y z a b/\S x y z a b)(f:∀x y z a b,P x y z a b->Q x y z a b->aH x y z a b->S x y z a b->G):G:=h.elim λx h=>h.elim λy h=>h.elim λz h=>h.elim λa h=>h.elim λb t=>f x y z a b t.1 t.2.1 t.2.2.1 t.2.2.2
variable{T:α->β->γ->δ->ε->Prop}
theorem e55(h:∃x y z a b,P x y z a b/\Q x y z a b/\aH x y z a b/\S x y z a b/\T x y z a b)(f:∀x y z a b,P x y z a b->Q x y z a b->aH x y z a b->S x y z a b->T x y z a b->G):G:=h.elim λx h=>h.elim λy h=>h.elim λz h=>h.elim λa h=>h.elim λb t=>f x y z a b t.1 t.2.1 t.2.2.1 t.2.2.2.1 t.2.2.2.2
variable{s7 V:α->β->γ->δ->ε->Prop}
theorem DJ(h:∃x y z a b,P x y z a b/\Q x y z a b/\aH x y z a b/\S x y z a b/\T x y z a b/\s7 x y z a b/\V x y z a b)(f:∀x y z a b,P x y z a b->Q x y z a b->aH x y z a b->S x y z a b->T x y z a b->s7 x y z a b->V x y z a b->G):G:=h.elim λx h=>h.elim λy h=>h.elim λz h=>h.elim λa h=>h.elim λb t=>f x y z a b t.1 t.2.1 t.2.2.1 t.2.2.2.1 t.2.2.2.2.1 t.2.2.2.2.2.1 t.2.2.2.2.2.2
theorem Fe(x y z a b)(h:P x y z a b)(i:Q x y z a b)(j:aH x y z a b)(k:S x y z a b)(l:T x y z a b)(m:s7 x y z a b)(n:V x y z a b):∃x y z a b,P x y z a b/\Q x y z a b/\aH x y z a b/\S x y z a b/\T x y z a b/\s7 x y z a b/\V x y z a b:=⟨x,y,z,a,b,h,i,j,k,l,m,n⟩
end
theorem th(a b:HG):min (a:HI) b=((min a b:HG):HI):=by
 rcases Nat.le_total a b with h|h
 ·exact(N8 (I4.mpr h)).trans (HL _ (Jk h).symm)
 ·exact(PQ (I4.mpr h)).trans (HL _ (KP h).symm)
theorem apF(a b:HG):((a:HI)-1+ -1*b).toNat=a-1-b:=by rw[Int.neg_mul,Q3,<-Int.sub_eq_add_neg,Int.sub_sub,Nat.sub_sub];exact QC a (1+b)
variable{a d:HG}
theorem Fj{m e:HG}(h0:a+8*e+100<d)(h1:m<=60):a+1+m<d:=HC (by rw[Ma,Ma];exact Ij (Hs (Ij h1 1) (Hs (by decide:1+60<=100) (Jl _ _))) a) h0
variable{x u v:HI}{n:HG}
theorem DC(h:u<=x/\x<=v)(h1:a<x.toNat)(h2:v<=n):a<n:=I0 h1 (JE.mpr (HY h.2 h2))
theorem DP(h:u<=x/\x<=v)(h2:v<=n):x.toNat<=n:=JE.mpr (HY h.2 h2)
variable{c:HG}
theorem apB{b:HG}(h0:b-a=c)(h1:b<=c)(h2:a<=c):a=0:=by
 subst h0;rcases Nat.eq_zero_or_pos a with h|h
 ·exact h
 ·exact Nat.le_zero.mp (Hs h2 (JY (KZ (by
   have:=M1 b a;rcases Nat.lt_or_ge a b with q|q
   ·exact IG (M7 this h1) (Jq (Nat.sub_lt_of_pos_le h (IK q)))
   ·exact q))))
theorem tn3{k:HG}(hu:0<=u)(h:u<=x/\x<=v)(hk:k<=n):x+k<=((x.toNat+n:HG):HI):=
 Int.add_le_add (LO x) (I4.mpr hk)
theorem y7{b:HG}(h0:b<60)(h1:a+c<=2*b):a+1<10000:=HC (Jv (Hs (Ib a c) (Hs h1 (Kj 2 (IK h0))))) (by decide)
variable{m k b:HI}
theorem w7(x:HI){a:HI}(h:0<m)(h1:a<=k)(h2:k+m<=b+1):a<=k+x%m/\k+x%m<=b:=⟨HY h1 (Kp (Ic x (Kb h))),KF (IJ (Ph (H9 x h) k) h2)⟩
theorem DM(x:HI)(h:0<m)(h2:k+m<=n+1):(k+x%m).toNat<=n:=JE.mpr (w7 x h (LH k) h2).2
theorem Bj(x:HI)(h:0<m)(h2:m<=b+1):0<=x%m/\x%m<=b:=⟨Ic x (Kb h),KF (IJ (H9 x h) h2)⟩
theorem DK(x:HI)(h:0<m)(h2:m<=n+1):(x%m).toNat<=n:=JE.mpr (Bj x h h2).2
theorem emc(x:HI){a:HI}(h:0<m)(h1:a+m<=k+1)(h2:k<=b):a<=k-x%m/\k-x%m<=b:=
 ⟨Oj (KF (IJ (Ph (H9 x h) a) h1)),HY (Mj _ (Ic x (Kb h))) h2⟩
theorem anJ{b:HG}(h0:a+8*(c+1)+100<d)(h1:b<=8):a+b+8*c+100<d:=by refine HC (Im ?_ 100) h0;rw[Ma,Nat.mul_add,QN b];exact Ij (Ij h1 _) a
theorem amm{b:HG}(h0:(b:HI)<a):(a:HI)-b+1-1=((a-b:HG):HI):=(Mu _ 1).trans (QD (I4.mp (IZ h0))).symm
theorem aos(a b:HG):a+3+8*b+100<=a+8*(b+1)+100:=by rw[Ma a,QN 3];exact Im (Ij (Ij (by decide) _) a) 100
theorem n0(h:¬(a:HI)-1> -1):a=0:=by
 cases a with
 |zero=>rfl
 |succ n=>exact IG (show(-1:HI)<(n:HI)+1-1 from(Mu (n:HI) 1).symm▸IJ (by decide) (H3 n)) h
variable{α:Type}
theorem wX{P:α->Prop}:∀x∈([]:Hn α),P x:=λ_ h=>nomatch h
theorem fm{P:α->Prop}{a:α}{l:Hn α}(h:P a)(k:∀x∈l,P x):∀x∈a::l,P x:=OX.mpr ⟨h,k⟩
@[elab_as_elim] theorem Cn{P:α->Prop}{a b:α}(c:α)(h:c∈[a,b])(x:P a)(y:P b):P c:=fm x (fm y wX) c h
@[elab_as_elim] theorem F5{P:α->Prop}{a b d e:α}(c:α)(h:c∈[a,b,d,e])(x:P a)(y:P b)(z:P d)(w:P e):P c:=fm x (fm y (fm z (fm w wX))) c h
variable{b:HG}
theorem xP(h:a<=b)(h0:(b:HI)<x):(a:HI)<x:=Ka (I4.mpr h) h0
theorem AU(a:HG)(h:b≠c):a+b≠a+c:=λe=>h (Pj e)
theorem rm1(h:a+(b+1)+100<c):a+1+b+100<c:=by rw[LD a];exact h
theorem l17(h0:b<=d+1)(h1:a+d<=2*c):a+1+b<=2*(c+1):=Hs (Ij h0 _) (Hs (JY (HL (·+1) (LD a 1 d))) (Im h1 2))
theorem tl0(h:x<0):(x+a).toNat<=a:=JE.mpr (HY (Md (IZ h) _) (OJ (NL _)))
theorem bI{α:Type u}{β:Type v}{o:Hp α}{a:α}{f:α->Hp β}{r:Hp β}(h:o=hb a)(k:f a=r):o.bind f=r:=h▸k
theorem bQ{α:Type u}{β:Type v}{o:Hp α}{a:α}{f:α->Hp β}(P:Hp β->Prop)(h:o=hb a)(k:P (f a)):P (o.bind f):=h▸k
variable{c:Prop}
theorem iT{α:Sort u}{d:La c}{a b r:α}(h:c)(k:a=r):@ite _ c d a b=r:=(H5 h).trans k
theorem iF{α:Sort u}{d:La c}{a b r:α}(h:¬c)(k:b=r):@ite _ c d a b=r:=(Ir h).trans k
variable{β:Type}{M:PySem.Model}{A:PySem.Around}{x y:PySem.Sem α}{Q:α->PySem.Shared->Prop}{E:PySem.Value->PySem.Shared->Prop}{s:PySem.Shared}{d:La c}
theorem wI(h:c)(k:PySem.wpAny M A x Q E s):PySem.wpAny M A (@ite _ c d x y) Q E s:=by rw[H5 h];exact k
theorem wN(h:¬c)(k:PySem.wpAny M A y Q E s):PySem.wpAny M A (@ite _ c d x y) Q E s:=by rw[Ir h];exact k
theorem wR(h:x=y)(k:PySem.wpAny M A y Q E s):PySem.wpAny M A x Q E s:=h▸k
variable{α:Sort u}
theorem cFa{c:Ig}{a b r:α}(h:c=HH)(k:b=r):Qi c a b=r:=by subst h;exact k
theorem Dz{a b:α}(P:α->Prop)(h:c)(k:P a):P (@ite _ c d a b):=(H5 h).symm▸k
theorem Fw{a b:α}(P:α->Prop)(h:¬c)(k:P b):P (@ite _ c d a b):=(Ir h).symm▸k
end
section
variable{α:Type}{P:Prop}
theorem no{z:α}(h:Hu=hb z):P:=by contradiction
theorem si{a b:α}(h:hb a=hb b):a=b:=H4 h
variable{β:Type}
theorem ak{o:Hp α}{f:α->Hp β}{z:β}(k:∀a,o=hb a->f a=hb z->P)(h:o.bind f=hb z):P:=by
 induction o with
 |none=>exact no h
 |some a=>exact k a rfl h
theorem jl{c:Prop}[La c]{o:Hp α}{z:α}(k:c->o=hb z->P)(h:(if c then o else Hu)=hb z):P:=by
 by_cases hc:c
 ·rw[H5 hc]at h;exact k hc h
 ·rw[Ir hc]at h;exact no h
inductive ajA{α β:Type}(o:Hp α)(f:α->Hp β)(z:β):Prop
 |mk (a:α) (h:o=hb a) (k:f a=hb z):ajA o f z
theorem ao{o:Hp α}{f:α->Hp β}{z:β}(h:o.bind f=hb z):ajA o f z:=by
 induction o with
 |none=>exact no h
 |some a=>exact⟨a,rfl,h⟩
inductive aoi{α β:Type}(o:Hp α)(f:α->β):β->Prop
 |mk (a:α) (h:o=hb a):aoi o f (f a)
theorem dI{o:Hp α}{f:α->β}{z:β}(h:o.map f=hb z):aoi o f z:=by
 induction o with
 |none=>exact no h
 |some a=>(have e:=si h;subst e;clear h);exact⟨a,rfl⟩
abbrev bA(h h':Iv):Prop:=∀b o,h.get? b=hb o->h'.get? b=hb o
theorem bA.refl(h:Iv):bA h h:=λ_ _ e=>e
theorem bA.trans(x:bA eY mq)(y:bA mq m7):bA eY m7:=λb o e=>y b o (x b o e)
theorem bA.push(h:Iv)(o:PR):bA h (h.push o):=λ_ _ e=>HW o e
theorem aD(s:HM):I8 s s:=⟨s.heap,s.toks,rfl,bA.refl _⟩
theorem ab(x:I8 ay aN)(y:I8 aN dN):I8 ay dN:=by refine my x λh t o1 k=>?_;subst o1;refine my y λh' t' o1 k'=>?_;subst o1;exact Ca h' t' rfl (bA.trans k k')
theorem aK(s:HM)(t:HG):I8 s {s with toks:=t}:=⟨s.heap,t,rfl,bA.refl _⟩
theorem bE(s:HM)(o:PR):I8 s {s with heap:=s.heap.push o}:=⟨s.heap.push o,s.toks,rfl,bA.push _ _⟩
variable{s s':HM}
theorem ag(x:I8 s s'):bA s.heap s'.heap:=by refine my x λh t o1 k=>?_;subst o1;exact k
variable{a:Hv}
theorem aR(h:Iv)(ha:h.objs.size<=a):h.get? a=Hu:=by
 cases e:h.get? a with
 |none=>rfl
 |some o=>exact IG (II e) (JH.mpr ha)
noncomputable abbrev cq(vs:Hn HE)(n:HG):PR:={cls:=.type "list",dict:=Hu,data:=.seq vs.toArray n,slots:=#[]}
noncomputable abbrev kA(vs:Hn HE)(n:HG):PR:={cls:=.type "tuple",dict:=Hu,data:=.seq vs.toArray n,slots:=#[]}
def j0(o:PR):Prop:=∃vs k,o=kA vs k
noncomputable def dictOf(B:Hn (HP×Ho)):Ho:=.dict (B.map λp=>(.str p.1,p.2))
inductive oM(h:Iv)(a dx C:Hv)(m:HP->Hp HE):Prop
 |mk (o:PR) (h1:h.get? a=hb o) (h2:o.cls=.ref C) (h3:∀c,o.data≠.cls c) (h4:o.dict=hb dx) (h5:dx≠a) (h6:h.Ns1 dx m):oM h a dx C m
variable{h h':Iv}{dx C:Hv}{m:HP->Hp HE}
theorem oM.kept(i:oM h a dx C m)(k1:∀o,h.get? a=hb o->h'.get? a=hb o)(k2:∀o,h.get? dx=hb o->h'.get? dx=hb o):oM h' a dx C m:=by obtain⟨o,h1,h2,h3,h4,h5,h6⟩:=i;exact⟨o,k1 o h1,h2,h3,h4,h5,h6.at k2⟩
theorem oM.inst(i:oM h a dx C m):h.Inst a C m:=by obtain⟨o,h1,h2,h3,h4,h5,h6⟩:=i;exact DO o h1 h2 h3 (.inr ⟨dx,h4,h5,h6⟩)
theorem oM.alive(i:oM h a dx C m):∀b∈[a,dx],∃o,h.get? b=hb o/\¬j0 o:=by
 obtain⟨o,h1,h2,h3,h4,h5,o',es,ep,g1,g2,_⟩:=i;intro b U;simp only[Hw,Ia,Kv]at U;clear h5 h4 h3;rcases U with rfl|rfl
 ·refine i12 o h1 ?_;rintro⟨vs,k,rfl⟩;cases h2
 ·refine i12 o' g1 ?_;rintro⟨vs,k,rfl⟩;cases g2
structure js where
 told:Ho
 opened:HI
 given:Ho
 bD:Ho
 held:Hn (HP×HG)
 aC:Hn (HI×HI)
noncomputable def aE(C V p:Hv)(f:js):Ho:=
 .dict [(.tuple [.int C,.int V,.int p],.tuple [f.told,.int f.opened,f.given,f.bD,.tuple (f.held.map λq=>.tuple [.str q.1,.int q.2]),.tuple (f.aC.map λq=>.tuple [.int q.1,.int q.2])])]
noncomputable def oX(V:Hv)(x y:HI):Ho:=.dict [(.int V,.tuple [.int x,.int y])]
noncomputable def d9(C:Hv)(rs:Hn (HP×Hv))(fs:Hn (HP×Ho)):Ho:=.dict [(.list (.int C::rs.map λq=>.tuple [.str q.1,.int q.2]),.dict (fs.map λp=>(.str p.1,p.2)))]
noncomputable def valNames:Hn HP:=["amount","opening"]
noncomputable def aG:Hn HP:=["plots","told","opened","given","standing","held"]
inductive ik(h:Iv)(V b db:Hv)(x y:HI):Prop
 |mk (m:HP->Hp HE) (t u:Pk) (h1:oM h b db V m) (h2:m "amount"=hb (.int x t)) (h3:m "opening"=hb (.int y u)) (h4:Within m valNames):ik h V b db x y
theorem ik.kept{V:Hv}{x y:HI}(i:ik h V b db x y)(k:∀c∈[b,db],∀o,h.get? c=hb o->h'.get? c=hb o):ik h' V b db x y:=by obtain⟨m,t,u,i,r1,r2,r3⟩:=i;exact⟨m,t,u,i.kept (k b (.head _)) (k db (.tail _ (.head _))),r1,r2,r3⟩
section
variable(Y:IB)(w:Ja)
structure bj(h:Iv)(a dx C V p hd:Hv)(aJ:Hn (Hv×Hv))(f:js)(vs:Hn HE)(m:HP->Hp HE)(ks:Hn (HP×HE)):Prop where
 obj:oM h a dx C m
 held:m "held"=hb (.ref hd)
 opened:∃t,m "opened"=hb (.int f.opened t)
 kX:m "plots"=hb (.ref p)
 three:[m "told",m "given",m "standing"]=vs.map hb
 names:Within m aG
 dict:h.DictOf (strKind Y w) hd ks
 mods:(hd==Kd)=HH
 keys:ks.map (·.1)=f.held.map (·.1)
 vals:ks.map (·.2)=f.held.map λq=>.ref (aJ.getD q.2 (0,0)).1
 bound:∀q∈f.held,q.2<aJ.length
 len:aJ.length=f.aC.length
 each:∀(i:HG)(b db:Hv)(x y:HI),aJ[i]? =hb (b,db)->f.aC[i]? =hb (x,y)->ik h V b db x y
noncomputable def bP(a dx hd:Hv)(aJ:Hn (Hv×Hv)):Hn Hv:=a::dx::hd::aJ.flatMap λq=>[q.1,q.2]
variable{Y w}{aJ:Hn (Hv×Hv)}{ks:Hn (HP×HE)}
theorem bj.kept{V hd:Hv}(i:bj Y w h a dx C V p hd aJ f vs m ks)
  (k:∀c∈bP a dx hd aJ,∀o,h.get? c=hb o->h'.get? c=hb o):bj Y w h' a dx C V p hd aJ f vs m ks:=
 {i with
  obj:=i.obj.kept (k a (.head _)) (k dx (.tail _ (.head _)))
  dict:=by exact uB i.dict λo es ep ho r=>Aw o es ep (k hd (.tail _ (.tail _ (.head _))) o ho) r
  each:=λj b db x y e1 e2=>(i.each j b db x y e1 e2).kept λc hc=>k c (by simp only[bP,Hw,IS];exact .inr (.inr (.inr ⟨_,Il e1,by simpa using hc⟩)))}
theorem bj.alive{V hd:Hv}(i:bj Y w h a dx C V p hd aJ f vs m ks):
  ∀c∈bP a dx hd aJ,∃o,h.get? c=hb o/\¬j0 o:=by
 intro c hc;simp only[bP,Hw,IS]at hc;rcases hc with rfl|rfl|rfl|⟨q,hq,hc⟩
 ·exact i.obj.alive _ (.head _)
 ·exact i.obj.alive _ (.tail _ (.head _))
 ·refine vc i.dict λo es ep ho hx o1=>i12 o ho ?_;rintro⟨vs,k,rfl⟩;exact IG hx.1 (by simp)
 ·refine dz (List.mem_iff_getElem?.mp hq) λj hj=>?_;have hl:j<f.aC.length:=by exact i.len▸(H2.mp hj).1
  obtain⟨m',t,u,I,_⟩:=i.each j q.1 q.2 (f.aC[j]).1 (f.aC[j]).2 hj (by simp[hl]);exact I.alive c (by simpa using hc)
end
inductive eF:Hn (HI×HE)->Hn (HI×HP)->Prop
 |nil:eF [] []
 |cons {aW:Hn (HI×HE)} {B:Hn (HI×HP)} (k:HI) (x:HP) (t:Pk):eF aW B->eF ((k,.str x t)::aW) ((k,x)::B)
inductive lJ(Y:IB)(w:Ja)(h:Iv)(a:Hv)(B:Hn (HI×HP)):Prop
 |mk (aW:Hn (HI×HE)) (h1:h.DictOf (intKind Y w) a aW) (h2:(a==Kd)=HH) (h3:eF aW B):lJ Y w h a B
noncomputable def oh(B:Hn (HI×HP)):Ho:=.dict [(.none,.dict (B.map λp=>(.int p.1,.str p.2)))]
theorem lJ.there(i:lJ Y w h a B):∃o,h.get? a=hb o/\(∀fs,o.data≠.fields fs)/\¬j0 o:=by obtain⟨_,⟨o,es,ep,ho,q1,q2,_⟩,_,_⟩:=i;exact rM o ho (λ_ z=>by rw[q2]at z;(cases z)) (λ⟨_,_,e⟩=>by rw[e]at q2;cases q2)
theorem lJ.kept(i:lJ Y w h a B)(k:∀o,h.get? a=hb o->(∀fs,o.data≠.fields fs)->¬j0 o->h'.get? a=hb o):lJ Y w h' a B:=by refine kK i.there λo' e f t=>?_;obtain⟨aW,⟨o,es,ep,ho,q⟩,h2,h3⟩:=i;rw[H4 (e.symm.trans ho)]at f t;exact⟨aW,⟨o,es,ep,k o ho f t,q⟩,h2,h3⟩
section
variable(Y:IB)(w:Ja)(Hz:Hn Hv)
mutual
inductive RD(h:Iv):HE->Ho->Hn Hv->Prop
 |none:RD h .none .none []
 |bool (b:Ig):RD h (.bool b) (.bool b) []
 |int (i:HI) (t:Pk):RD h (.int i t) (.int i) []
 |str (x:HP) (t:Pk):RD h (.str x t) (.str x) []
 |list {a:Hv} {vs:Hn HE} {n:HG} {B:Hn Ho} {as:Hn Hv}:h.get? a=hb (cq vs n)->bH h vs B as->RD h (.ref a) (.list B) (a::as)
 |tuple {a:Hv} {vs:Hn HE} {n:HG} {B:Hn Ho} {as:Hn Hv}:h.get? a=hb (kA vs n)->a∉Hz->bH h vs B as->RD h (.ref a) (.tuple B) as
 |dict {a:Hv} {aW:Hn (HP×HE)} {B:Hn (HP×Ho)} {as:Hn Hv}:h.DictOf (strKind Y w) a aW->(a==Kd)=HH->aW.map (·.1)=B.map (·.1)->bH h (aW.map (·.2)) (B.map (·.2)) as->
   RD h (.ref a) (dictOf B) (a::as)
 |val {V b db:Hv} {x y:HI}:ik h V b db x y->RD h (.ref b) (oX V x y) [b,db]
 |store {a dx C V p hd:Hv} {aJ:Hn (Hv×Hv)} {f:js} {vs:Hn HE} {m:HP->Hp HE} {ks:Hn (HP×HE)} {as:Hn Hv}:bj Y w h a dx C V p hd aJ f vs m ks->bH h vs [f.told,f.given,f.bD] as->RD h (.ref a) (aE C V p f) (bP a dx hd aJ++as)
 |inst {a dx C:Hv} {rs:Hn (HP×Hv)} {fs:Hn (HP×Ho)} {vs:Hn HE} {m:HP->Hp HE} {as:Hn Hv}:oM h a dx C m->(∀q∈rs,m q.1=hb (.ref q.2))->fs.map (λp=>m p.1)=vs.map hb->Within m (rs.map (·.1)++fs.map (·.1))->bH h vs (fs.map (·.2)) as->RD h (.ref a) (d9 C rs fs) (a::dx::as)
 |num {a:Hv} {B:Hn (HI×HP)}:lJ Y w h a B->RD h (.ref a) (oh B) [a]
inductive bH(h:Iv):Hn HE->Hn Ho->Hn Hv->Prop
 |nil:bH h [] [] []
 |cons {u:HE} {us:Hn HE} {x:Ho} {B:Hn Ho} {as bs:Hn Hv}:RD h u x as->bH h us B bs->bH h (u::us) (x::B) (as++bs)
end
end
mutual
noncomputable def flat:Ho->Ig
 |.none=>Hq
 |.bool _=>Hq
 |.int _=>Hq
 |.str _=>Hq
 |.list _=>HH
 |.tuple B=>b7 B
 |.dict _=>HH
noncomputable def b7:Hn Ho->Ig
 |[]=>Hq
 |x::B=>flat x&&b7 B
end
mutual
noncomputable def wf:Ho->Ig
 |.none=>Hq
 |.bool _=>Hq
 |.int _=>Hq
 |.str x=>Ki x&&decide (x.length<=sizeLine)
 |.list B=>decide (B.length<=sizeLine)&&fw B
 |.tuple B=>decide (B.length<=sizeLine)&&fw B
 |.dict aW=>decide (aW.length<=sizeLine)&&x4 aW
noncomputable def fw:Hn Ho->Ig
 |[]=>Hq
 |x::B=>wf x&&fw B
noncomputable def x4:Hn (Ho×Ho)->Ig
 |[]=>Hq
 |(k,x)::B=>wf k&&wf x&&x4 B
end
mutual
noncomputable def nd:Ho->Ig
 |.none=>Hq
 |.bool _=>Hq
 |.int _=>Hq
 |.str _=>Hq
 |.list B=>xV B
 |.tuple B=>xV B
 |.dict _=>HH
noncomputable def xV:Hn Ho->Ig
 |[]=>Hq
 |x::B=>nd x&&xV B
end
mutual
theorem kI:∀x:Ho,wf x=Hq->nd x=Hq->x.canLay0=Hq
 |.none,_,_=>by assumption
 |.bool _,_,_=>by assumption
 |.int _,_,_=>by assumption
 |.str x,h,_=>(IU.mp h).1
 |.list B,h,f=>kq B (IU.mp h).2 f
 |.tuple B,h,f=>kq B (IU.mp h).2 f
 |.dict _,_,h=>Iu h
theorem kq:∀B:Hn Ho,fw B=Hq->xV B=Hq->Mv B=Hq
 |[],_,_=>by assumption
 |x::B,h,f=>by
  simp only[fw,HU]at h;simp only[xV,HU]at f;simp[Mv,kI x h.1 f.1,kq B h.2 f.2]
end
variable{aH:Hn HE->Hn Ho->Hn Hv->Prop}
theorem RD.both{P:HE->Ho->Hn Hv->Prop}(c1:P .none .none [])(c2:∀b,P (.bool b) (.bool b) [])(c3:∀i t,P (.int i t) (.int i) [])(c4:∀x t,P (.str x t) (.str x) [])
  (c5:∀{a vs n B as},h.get? a=hb (cq vs n)->bH Y w Hz h vs B as->aH vs B as->P (.ref a) (.list B) (a::as))(c6:∀{a vs n B as},h.get? a=hb (kA vs n)->a∉Hz->bH Y w Hz h vs B as->aH vs B as->P (.ref a) (.tuple B) as)
  (c7:∀{a}{aW:Hn (HP×HE)}{B:Hn (HP×Ho)}{as},h.DictOf (strKind Y w) a aW->(a==Kd)=HH->aW.map (·.1)=B.map (·.1)->bH Y w Hz h (aW.map (·.2)) (B.map (·.2)) as->aH (aW.map (·.2)) (B.map (·.2)) as->P (.ref a) (dictOf B) (a::as))
  (cv:∀{V b db x y},ik h V b db x y->P (.ref b) (oX V x y) [b,db])
  (cs:∀{a dx C V p hd aJ f vs m ks as},bj Y w h a dx C V p hd aJ f vs m ks->bH Y w Hz h vs [f.told,f.given,f.bD] as->aH vs [f.told,f.given,f.bD] as->P (.ref a) (aE C V p f) (bP a dx hd aJ++as))
  (cr:∀{a dx C}{rs:Hn (HP×Hv)}{fs:Hn (HP×Ho)}{vs:Hn HE}{m:HP->Hp HE}{as},oM h a dx C m->(∀q∈rs,m q.1=hb (.ref q.2))->fs.map (λp=>m p.1)=vs.map hb->Within m (rs.map (·.1)++fs.map (·.1))->bH Y w Hz h vs (fs.map (·.2)) as->aH vs (fs.map (·.2)) as->P (.ref a) (d9 C rs fs) (a::dx::as))
  (cn:∀{a B},lJ Y w h a B->P (.ref a) (oh B) [a])
  (c8:aH [] [] [])(c9:∀{u us x B as bs},RD Y w Hz h u x as->bH Y w Hz h us B bs->P u x as->aH us B bs->aH (u::us) (x::B) (as++bs)):
  (∀{v x as},RD Y w Hz h v x as->P v x as)/\∀{vs B as},bH Y w Hz h vs B as->aH vs B as:=
 ⟨λ{_ _ _} r=>RD.rec (motive_1:=λv x as _=>P v x as) (motive_2:=λvs B as _=>aH vs B as) c1 c2 c3 c4 (λa b c=>c5 a b c) (λa z b c=>c6 a z b c) (λa b c d e=>c7 a b c d e) (λa=>cv a) (λa b c=>cs a b c) (λa b c d e f=>cr a b c d e f) (λa=>cn a) c8 (λa b c d=>c9 a b c d) r,
  λ{_ _ _} r=>bH.rec (motive_1:=λv x as _=>P v x as) (motive_2:=λvs B as _=>aH vs B as) c1 c2 c3 c4 (λa b c=>c5 a b c) (λa z b c=>c6 a z b c) (λa b c d e=>c7 a b c d e) (λa=>cv a) (λa b c=>cs a b c) (λa b c d e f=>cr a b c d e f) (λa=>cn a) c8 (λa b c d=>c9 a b c d) r⟩
theorem aaV(k:bA h h'):(∀{v x as},RD Y w Hz h v x as->RD Y w Hz h' v x as)/\∀{vs B as},bH Y w Hz h vs B as->bH Y w Hz h' vs B as:=
 RD.both .none .bool .int .str (λa _ r=>.list (k _ _ a) r) (λa z _ r=>.tuple (k _ _ a) z r) (λq g e _ r=>.dict (by exact uB q λo es ep ho q=>Aw o es ep (k _ _ ho) q) g e r) (λi=>.val (i.kept λ_ _ _=>k _ _)) (λi _ r=>.store (i.kept λ_ _ _=>k _ _) r) (λi q e n _ r=>.inst (i.kept (k _) (k _)) q e n r) (λi=>.num (i.kept λo e _ _=>k _ o e)) .nil (λ_ _ a r=>.cons a r)
variable{v:HE}{x:Ho}{as:Hn Hv}
theorem RD.grow(k:bA h h')(r:RD Y w Hz h v x as):RD Y w Hz h' v x as:=(aaV k).1 r
variable{vs:Hn HE}{B:Hn Ho}
theorem bH.grow(k:bA h h')(r:bH Y w Hz h vs B as):bH Y w Hz h' vs B as:=(aaV k).2 r
theorem fA(k:∀a o,h.get? a=hb o->a∉Hz->a∉Hy):(∀{v x as},RD Y w Hz h v x as->RD Y w Hy h v x as)/\∀{vs B as},bH Y w Hz h vs B as->bH Y w Hy h vs B as:=
 RD.both .none .bool .int .str (λa _ r=>.list a r) (λa z _ r=>.tuple a (k _ _ a z) r) (λq g e _ r=>.dict q g e r) (λi=>.val i) (λi _ r=>.store i r) (λi q e n _ r=>.inst i q e n r) (λi=>.num i) .nil (λ_ _ a r=>.cons a r)
theorem akc(k:∀z∈Hz,U.get? z=Hu):(∀{v x as},RD Y w [] U v x as->RD Y w Hz U v x as)/\∀{vs B as},bH Y w [] U vs B as->bH Y w Hz U vs B as:=
 fA λa o e _ z=>no ((k a z).symm.trans e)
def Off(W:Hn Hv)(h h':Iv):Prop:=∀b o,h.get? b=hb o->(b∉W∨j0 o)->h'.get? b=hb o
variable{W:Hn Hv}
theorem Off.cM(k:bA h h'):Off W h h':=λb o e _=>k b o e
theorem abP(k:Off W h h'):(∀{v x as},RD Y w Hz h v x as->(∀a∈as,a∉W)->RD Y w Hz h' v x as)/\∀{vs B as},bH Y w Hz h vs B as->(∀a∈as,a∉W)->bH Y w Hz h' vs B as:=
 RD.both (λ_=>.none) (λb _=>.bool b) (λi t _=>.int i t) (λi t _=>.str i t) (λa _ r q=>.list (k _ _ a (.inl (q _ (.head _)))) (r λb U=>q b (.tail _ U))) (λa z _ r q=>.tuple (k _ _ a (.inr ⟨_,_,rfl⟩)) z (r q))
  (λp g e _ r q=>.dict (by exact uB p λo es ep ho p=>Aw o es ep (k _ _ ho (.inl (q _ (.head _)))) p) g e (r λb U=>q b (.tail _ U))) (λi q=>.val (i.kept λc hc o e=>k c o e (.inl (q c hc)))) (λi _ r q=>.store (i.kept λc hc o e=>k c o e (.inl (q c (HF _ hc)))) (r λb U=>q b (Hx _ U))) (λi p e n _ r q=>.inst (i.kept (λo eo=>k _ o eo (.inl (q _ (.head _)))) (λo eo=>k _ o eo (.inl (q _ (.tail _ (.head _)))))) p e n (r λb U=>q b (.tail _ (.tail _ U)))) (λi q=>.num (i.kept λo e _ _=>k _ o e (.inl (q _ (.head _))))) (λ_=>.nil) (λ_ _ a r q=>.cons (a λb U=>q b (HF _ U)) (r λb U=>q b (Hx _ U)))
theorem RD.off(k:Off W h h')(r:RD Y w Hz h v x as)(q:∀a∈as,a∉W):RD Y w Hz h' v x as:=(abP k).1 r q
theorem bH.off(k:Off W h h')(r:bH Y w Hz h vs B as)(q:∀a∈as,a∉W):bH Y w Hz h' vs B as:=(abP k).2 r q
theorem aaz:(∀{v x as},RD Y w Hz h v x as->∀a∈as,∃o,h.get? a=hb o)/\∀{vs B as},bH Y w Hz h vs B as->∀a∈as,∃o,h.get? a=hb o:=
 RD.both (λ_ q=>nomatch q) (λ_ _ q=>nomatch q) (λ_ _ _ q=>nomatch q) (λ_ _ _ q=>nomatch q) (λa _ r b q=>(Hw.mp q).elim (λe=>⟨_,e▸a⟩) (r b)) (λ_ _ _ r b q=>r b q)
  (λp _ _ _ r b q=>(Hw.mp q).elim (λe=>by obtain⟨o,_,_,ho,_⟩:=p;exact⟨o,e▸ho⟩) (r b)) (λi c q=>by obtain⟨m,t,u,i,_⟩:=i;exact(i.alive c q).imp λ_ h=>h.1) (λi _ r c q=>(HD.mp q).elim (λq=>(i.alive c q).imp λ_ h=>h.1) (r c)) (λ{a dx _ _ _ _ _ as} i _ _ _ _ r c q=>(HD.mp (show c∈[a,dx]++as from q)).elim (λq=>(i.alive c q).imp λ_ h=>h.1) (r c)) (λi c q=>by exact(HB.mp q).symm▸i.there.imp λ_ h=>h.1) (λ_ q=>nomatch q) (λ_ _ a r b q=>(HD.mp q).elim (a b) (r b))
theorem RD.alive(r:RD Y w Hz h v x as):∀a∈as,∃o,h.get? a=hb o:=aaz.1 r
theorem bH.alive(r:bH Y w Hz h vs B as):∀a∈as,∃o,h.get? a=hb o:=aaz.2 r
theorem aa7:(∀{v x as},RD Y w Hz h v x as->flat x=Hq->as=[])/\∀{vs B as},bH Y w Hz h vs B as->b7 B=Hq->as=[]:=
 RD.both (λ_=>rfl) (λ_ _=>rfl) (λ_ _ _=>rfl) (λ_ _ _=>rfl) (λ_ _ _ e=>Iu e) (λ_ _ _ r e=>r e) (λ_ _ _ _ _ e=>Iu e) (λ_ e=>Iu e) (λ_ _ _ e=>Iu e) (λ_ _ _ _ _ _ e=>Iu e) (λ_ e=>nomatch(show HH=Hq from e)) (λ_=>rfl)
  (λ_ _ a r e=>by
   simp only[b7,HU]at e;refine(a e.1).symm▸(r e.2).symm▸?_;rfl)
theorem RD.bT(r:RD Y w Hz h v x as)(e:flat x=Hq):as=[]:=aa7.1 r e
theorem bH.bT(r:bH Y w Hz h vs B as)(e:b7 B=Hq):as=[]:=aa7.2 r e
theorem ada:(∀{v x as},RD Y w Hz h v x as->x.canLay0=Hq->Reads h v x as)/\∀{vs B as},bH Y w Hz h vs B as->Mv B=Hq->ReadsAll h vs B as:=
 RD.both (λ_=>.none) (λb _=>.bool b) (λi t _=>.int i t) (λi t _=>.str i t) (λa _ r c=>.list a rfl rfl (r (by simpa[LI]using c))) (λa _ _ r c=>.tuple a rfl rfl (r (by simpa[LI]using c)))
  (λ_ _ _ _ _ c=>Iu c) (λ_ c=>Iu c) (λ_ _ _ c=>Iu c) (λ_ _ _ _ _ _ c=>Iu c) (λ_ c=>Iu c) (λ_=>.nil) (λ_ _ a r c=>by
   simp only[Mv,HU]at c;exact .cons (a c.1) (r c.2))
theorem RD.reads(r:RD Y w Hz h v x as)(c:x.canLay0=Hq):Reads h v x as:=ada.1 r c
theorem bH.ind(c8:aH [] [] [])(c9:∀{u us x B as bs},RD Y w Hz h u x as->bH Y w Hz h us B bs->aH us B bs->aH (u::us) (x::B) (as++bs))(r:bH Y w Hz h vs B as):aH vs B as:=
 (RD.both (P:=λ_ _ _=>N9) (aH:=aH) trivial (λ_=>trivial) (λ_ _=>trivial) (λ_ _=>trivial) (λ_ _ _=>trivial) (λ_ _ _ _=>trivial) (λ_ _ _ _ _=>trivial) (λ_=>trivial) (λ_ _ _=>trivial) (λ_ _ _ _ _ _=>trivial) (λ_=>trivial) c8 (λa b _ r=>c9 a b r)).2 r
theorem bH.length(r:bH Y w Hz h vs B as):vs.length=B.length:=
 bH.ind (aH:=λvs B _=>vs.length=B.length) rfl (λ_ _ r=>by(refine Ju.trans ?_;(dsimp only[Ju];rw[r]))) r
variable{bs:Hn Hv}
theorem bH.append(r:bH Y w Hz h vs B as)(q:bH Y w Hz h ws ys bs):bH Y w Hz h (vs++ws) (B++ys) (as++bs):=
 bH.ind (aH:=λvs B as=>bH Y w Hz h (vs++ws) (B++ys) (as++bs)) q (λa _ r=>by rw[I6];exact .cons a r) r
theorem bH.get(r:bH Y w Hz h vs B as){i:HG}(e:B[i]? =hb x):∃v bs,vs[i]? =hb v/\RD Y w Hz h v x bs/\∀b∈bs,b∈as:=by
 refine bH.ind (aH:=λvs B as=>∀i:HG,B[i]? =hb x->∃v bs,vs[i]? =hb v/\RD Y w Hz h v x bs/\∀b∈bs,b∈as) (λi e=>no e) (λ{u us y ys as bs} a _ r i e=>?_) r i e;induction i with
 |zero=>rw[LF]at e;(have e:=si e;subst e;clear e);exact mD u as rfl a (λb U=>HF _ U)
 |succ i=>exact j4 (r i e) λv bs h1 h2 h3=>mD v bs h1 h2 (λb U=>Hx _ (h3 b U))
theorem bH.part(r:bH Y w Hz h vs B as)(is:Hn HG):
  ∃bs,bH Y w Hz h (is.filterMap λi=>vs[i]?) (is.filterMap λi=>B[i]?) bs/\∀b∈bs,b∈as:=by
 induction is with
 |nil=>exact i12 ([]) .nil (λ_ q=>nomatch q)
 |cons i is ih=>
  refine aQ ih λbs q hq=>?_;by_cases hi:i<B.length
  ·refine j4 (r.get (i:=i) (x:=B[i]) (by simp[hi])) λv cs e1 e2 e3=>i12 (cs++bs) ?_ (λb U=>(HD.mp U).elim (e3 b) (hq b));refine I1.symm▸I1.symm▸e1.symm▸?_;simp only[HQ hi];exact .cons e2 q
  ·obtain hv:vs[i]? =Hu:=Jw (by exact r.length.symm▸JQ hi);obtain hx:B[i]? =Hu:=Jw (JQ hi);refine i12 bs ?_ hq;refine I1.symm▸I1.symm▸hv.symm▸hx.symm▸?_;exact q
noncomputable def dQ:Hn (Ho×Ho)->Ig
 |[]=>Hq
 |(.str _,_)::_=>Hq
 |_=>HH
theorem gf(f:α->HP)(g:α->Ho)(B:Hn α):dQ (B.map λp=>(.str (f p),g p))=Hq:=by cases B<;>rfl
noncomputable def atKey(k:HP):Hn (Ho×Ho)->Hp Ho
 |[]=>Hu
 |(.str x,v)::r=>if x=k then hb v else atKey k r
 |_::r=>atKey k r
section
variable(Y w Hz)
inductive Fa(h:Iv)(x:Ho)(B:Hn Ho):Hn HE->Hn Hv->Prop
 |mk (u:HE) (us:Hn HE) (bs cs:Hn Hv) (a:RD Y w Hz h u x bs) (b:bH Y w Hz h us B cs):Fa h x B (u::us) (bs++cs)
inductive CH(i:HI):HE->Prop
 |mk (t:Pk):CH i (.int i t)
inductive B8(x:HP):HE->Prop
 |mk (t:Pk):B8 x (.str x t)
inductive yY(h:Iv)(B:Hn Ho):HE->Hn Hv->Prop
 |mk (a:Hv) (vs:Hn HE) (n:HG) (bs:Hn Hv) (h1:h.get? a=hb (cq vs n)) (h2:bH Y w Hz h vs B bs):yY h B (.ref a) (a::bs)
inductive B6(h:Iv)(B:Hn Ho)(as:Hn Hv):HE->Prop
 |mk (a:Hv) (vs:Hn HE) (n:HG) (h1:h.get? a=hb (kA vs n)) (hz:a∉Hz) (h2:bH Y w Hz h vs B as):B6 h B as (.ref a)
inductive zi(h:Iv):Hn (Ho×Ho)->HE->Hn Hv->Prop
 |mk (a:Hv) (aW:Hn (HP×HE)) (B:Hn (HP×Ho)) (bs:Hn Hv) (h1:h.DictOf (strKind Y w) a aW) (h2:(a==Kd)=HH) (h3:aW.map (·.1)=B.map (·.1)) (h4:bH Y w Hz h (aW.map (·.2)) (B.map (·.2)) bs):zi h (B.map λp=>(.str p.1,p.2)) (.ref a) (a::bs)
def RDh(h:Iv)(v:HE)(as:Hn Hv):Ho->Prop
 |.none=>v=.none
 |.bool b=>v=.bool b
 |.int i=>CH i v
 |.str x=>B8 x v
 |.list B=>yY Y w Hz h B v as
 |.tuple B=>B6 Y w Hz h B as v
 |.dict ps=>(∃a bs,v=.ref a/\as=a::bs)/\(∀k x,atKey k ps=hb x->dQ ps=Hq)/\(dQ ps=Hq->zi Y w Hz h ps v as)
def ap1(h:Iv)(vs:Hn HE)(as:Hn Hv):Hn Ho->Prop
 |[]=>vs=[]/\as=[]
 |x::B=>Fa Y w Hz h x B vs as
end
theorem bH.head(r:bH Y w Hz h vs B as):ap1 Y w Hz h vs as B:=
 r.casesOn ⟨rfl,rfl⟩ λa b=>⟨_,_,_,_,a,b⟩
variable{u:HE}
theorem bH.cons_inv(r:bH Y w Hz h (u::us) (x::B) as):∃bs cs,as=bs++cs/\RD Y w Hz h u x bs/\bH Y w Hz h us B cs:=by
 have H:∀{vs},Fa Y w Hz h x B vs as->vs=u::us->∃bs cs,as=bs++cs/\RD Y w Hz h u x bs/\bH Y w Hz h us B cs:=λH=>by
  induction H with|mk _ _ _ _ a b=>exactλe=>mD _ _ rfl (List.head_eq_of_cons_eq e▸a) (List.tail_eq_of_cons_eq e▸b)
 exact H r.head rfl
theorem bH.yx(r:bH Y w Hz h vs (x::B) as):Fa Y w Hz h x B vs as:=r.head
theorem RD.head(r:RD Y w Hz h v x as):RDh Y w Hz h v as x:=
 r.casesOn rfl (λ_=>rfl) (λ_ _=>⟨_⟩) (λ_ _=>⟨_⟩) (λa b=>⟨_,_,_,_,a,b⟩) (λa z b=>⟨_,_,_,a,z,b⟩) (λb1 b2 b3 b4=>⟨⟨_,_,rfl,rfl⟩,λ_ _ _=>gf _ _ _,λ_=>⟨_,_,_,_,b1,b2,b3,b4⟩⟩)
  (λ_=>⟨⟨_,_,rfl,rfl⟩,λ_ _ e=>no e,λe=>Iu e⟩) (λ_ _=>⟨⟨_,_,rfl,rfl⟩,λ_ _ e=>no e,λe=>Iu e⟩) (λ_ _ _ _ _=>⟨⟨_,_,rfl,rfl⟩,λ_ _ e=>no e,λe=>Iu e⟩) (λ_=>⟨⟨_,_,rfl,rfl⟩,λ_ _ e=>no e,λe=>Iu e⟩)
variable{i:HI}
theorem RD.dS(r:RD Y w Hz h v (.int i) as):CH i v:=r.head
theorem RD.ig(r:RD Y w Hz h v (.str gc) as):B8 gc v:=r.head
theorem RD.listI(r:RD Y w Hz h v (.list B) as):yY Y w Hz h B v as:=r.head
theorem RD.tupI(r:RD Y w Hz h v (.tuple B) as):B6 Y w Hz h B as v:=r.head
theorem bH.nil_inv(r:bH Y w Hz h vs [] as):vs=[]/\as=[]:=r.head
theorem RD.none_inv(r:RD Y w Hz h v .none as):v=.none:=r.head
theorem RD.bool_inv{b:Ig}(r:RD Y w Hz h v (.bool b) as):v=.bool b:=r.head
theorem RD.int_inv(r:RD Y w Hz h v (.int i) as):∃t,v=.int i t:=by induction r.dS with|mk t=>exact⟨t,rfl⟩
theorem RD.fM(r:RD Y w Hz h v (.list B) as):∃a vs n bs,v=.ref a/\as=a::bs/\h.get? a=hb (cq vs n)/\bH Y w Hz h vs B bs:=by induction r.listI with|mk a vs n bs h1 h2=>exact i44 _ _ _ _ rfl rfl h1 h2
variable{ps:Hn (Ho×Ho)}
theorem RD.ahe(r:RD Y w Hz h v (.dict ps) as)(hk:dQ ps=Hq):∃(a:Hv)(aW:Hn (HP×HE))(B:Hn (HP×Ho))(bs:Hn Hv),v=.ref a/\as=a::bs/\ps=(B.map λp=>(.str p.1,p.2))/\h.DictOf (strKind Y w) a aW/\(a==Kd)=HH/\aW.map (·.1)=B.map (·.1)/\bH Y w Hz h (aW.map (·.2)) (B.map (·.2)) bs:=by induction r.head.2.2 hk with|mk a aW B bs h1 h2 h3 h4=>exact i47 _ _ _ _ rfl rfl rfl h1 h2 h3 h4
theorem RD.nK(r:RD Y w Hz h v (.dict ps) as)(hk:dQ ps=Hq):zi Y w Hz h ps v as:=r.head.2.2 hk
theorem eI(B ys:Hn Ho):fw (B++ys)=(fw B&&fw ys):=by
 induction B with
 |nil=>rfl
 |cons x B ih=>simp[fw,ih,Bool.and_assoc]
theorem cN(B:Hn Ho):fw B=Hq↔∀x∈B,wf x=Hq:=by
 induction B with
 |nil=>decide
 |cons x B ih=>simp[fw,ih]
theorem tu(B:Hn Ho):xV B=Hq↔∀x∈B,nd x=Hq:=by
 induction B with
 |nil=>decide
 |cons x B ih=>simp[xV,ih]
theorem aeX(B:Hn Ho):b7 B=Hq↔∀x∈B,flat x=Hq:=by
 induction B with
 |nil=>decide
 |cons x B ih=>simp[b7,ih]
inductive Fl where
 |d
 |s
 |t
 deriving DecidableEq
structure V where
 x:Ho
 fl:Fl
def V.fix(x:Ho)(f:Fl):V:=⟨x,if flat x then .d else f⟩
inductive E0 where
 |lst (B:Hn Ho)
 |lq (aW:Hn (HI×HP))
 |tree (r:Hp Hv) (x:Ho)
inductive VV where
 |val (v:V)
 |own (o:E0)
abbrev ar:=HP->Hp VV
noncomputable def ar.set(L:ar)(x:HP)(v:VV):ar:=λy=>bif y==x then hb v else L y
theorem eW(L:ar)(x:HP)(v:VV)(y:HP):(L.set x v) y=if y=x then hb v else L y:=by
 by_cases h:y=x
 ·refine Dz _ h ?_;subst h;simp[ar.set]
 ·refine Fw _ h ?_;simp[ar.set,HO.mpr h]
noncomputable def dD:Ho->Ig
 |.list _=>Hq
 |.dict _=>Hq
 |_=>HH
def da(ae:Iv)(W:Hn Hv)(f:Fl)(as:Hn Hv):Prop:=
 match f with
 |.d=>∀a∈as,ae.get? a=Hu/\a∉W
 |.s=>∀a∈as,a∉W
 |.t=>N9
variable{ae:Iv}{f:Fl}
theorem da.nil:da ae W f []:=by cases f<;>simp[da]
theorem da.mono(h:da ae W f as)(hs:∀a∈bs,a∈as):da ae W f bs:=by
 cases f
 ·exactλa ha=>h a (hs a ha)
 ·exactλa ha=>h a (hs a ha)
 ·trivial
theorem da.append(h:da ae W f as)(k:da ae W f bs):da ae W f (as++bs):=by
 cases f
 ·exactλa ha=>(HD.mp ha).elim (h a) (k a)
 ·exactλa ha=>(HD.mp ha).elim (h a) (k a)
 ·trivial
section
variable(Y w Hz)
inductive dK(ae:Iv)(W:Hn Hv)(h:Iv)(u:HE)(v:V):Prop
 |mk (as:Hn Hv) (h1:RD Y w Hz h u v.x as) (h2:wf v.x=Hq) (h3:da ae W v.fl as):dK ae W h u v
inductive hY(ae:Iv)(W:Hn Hv)(h:Iv):Hn HE->Hn V->Prop
 |nil:hY ae W h [] []
 |cons {u:HE} {v:V} {us:Hn HE} {vs:Hn V}:dK Y w Hz ae W h u v->hY ae W h us vs->hY ae W h (u::us) (v::vs)
end
theorem dK.grow(r:dK Y w Hz ae W h u fb)(k:bA h h'):dK Y w Hz ae W h' u fb:=by obtain⟨as,r,c,f⟩:=r;exact⟨as,r.grow k,c,f⟩
theorem hY.grow(r:hY Y w Hz ae W h us Bx)(k:bA h h'):hY Y w Hz ae W h' us Bx:=by
 induction r with
 |nil=>exact .nil
 |cons a _ ih=>exact .cons (a.grow k) ih
theorem dK.fixed(r:RD Y w Hz h u x as)(c:wf x=Hq)(o:da ae W f as):dK Y w Hz ae W h u (V.fix x f):=by
 cases e:flat x with
 |true=>refine⟨as,r,c,?_⟩;rw[r.bT e];exact da.nil
 |false=>exact⟨as,r,c,by simpa[V.fix,e]using o⟩
theorem dK.int:dK Y w Hz ae W h (.int i t) ⟨.int i,.d⟩:=⟨[],.int i t,rfl,da.nil⟩
theorem dK.bool{b:Ig}:dK Y w Hz ae W h (.bool b) ⟨.bool b,.d⟩:=⟨[],.bool b,rfl,da.nil⟩
theorem dK.none:dK Y w Hz ae W h .none ⟨.none,.d⟩:=⟨[],.none,rfl,da.nil⟩
theorem dK.str{x:HP}(hx:wf (.str x)=Hq):dK Y w Hz ae W h (.str x t) ⟨.str x,.d⟩:=⟨[],.str x t,hx,da.nil⟩
section
variable(Y w Hz)
inductive jM(ae:Iv)(W:Hn Hv)(h:Iv):HE->E0->Hn Hv->Prop
 |lst {a:Hv} {vs:Hn HE} {n:HG} {B:Hn Ho} {as:Hn Hv}:h.get? a=hb (cq vs n)->bH Y w Hz h vs B as->wf (.list B)=Hq->
   da ae W .d as->jM ae W h (.ref a) (.lst B) [a]
 |lq {a:Hv} {B:Hn (HI×HP)}:lJ Y w h a B->wf (oh B)=Hq->jM ae W h (.ref a) (.lq B) [a]
 |tree {a:Hv} {r:Hp Hv} {x:Ho} {as:Hn Hv}:RD Y w Hz h (.ref a) x as->as.Nodup->wf x=Hq->dD x=Hq->(∀b,r=hb b->b=a)->jM ae W h (.ref a) (.tree r x) as
inductive Ci(ae:Iv)(W:Hn Hv)(h:Iv)(B:Hn Ho)(a:Hv):Prop
 |mk (vs:Hn HE) (n:HG) (as:Hn Hv) (h1:h.get? a=hb (cq vs n)) (h2:bH Y w Hz h vs B as) (h3:wf (.list B)=Hq) (h4:da ae W .d as):Ci ae W h B a
inductive yJ(h:Iv)(r:Hp Hv)(x:Ho)(as:Hn Hv):HE->Prop
 |mk (a:Hv) (h1:RD Y w Hz h (.ref a) x as) (h2:as.Nodup) (h3:wf x=Hq) (h4:dD x=Hq) (h5:∀b,r=hb b->b=a):yJ h r x as (.ref a)
def aor(ae:Iv)(W:Hn Hv)(h:Iv)(u:HE)(sp:Hn Hv):E0->Prop
 |.lst B=>∀a,u=.ref a->Ci Y w Hz ae W h B a
 |.lq B=>∀a,u=.ref a->lJ Y w h a B/\wf (oh B)=Hq
 |.tree r x=>yJ Y w Hz h r x sp u
def cj(ae:Iv)(W:Hn Hv)(O:Hn (HP×Hn Hv))(h:Iv)(x:HP)(u:HE):VV->Prop
 |.val v=>(v.fl=.d∨v.fl=.s)/\dK Y w Hz ae W h u v
 |.own o=>∃sp,O.lookup x=hb sp/\jM Y w Hz ae W h u o sp
structure fg(U h:Iv):Prop where
 hide:∀z∈Hz,U.get? z=Hu/\∃o,h.get? z=hb o/\j0 o
 lim:U.NoLimit
 seer:U.NoSeer
 tree:Y.given.tree=Hu
 mods:∃o,U.get? Kd=hb o
 grow:bA U h
variable{Y Hz}in
theorem fg.trans(b:fg Y Hz U h)(k:bA h h'):fg Y Hz U h':=⟨λz hz=>let⟨q,o,e,t⟩:=b.hide z hz;⟨q,o,k _ _ e,t⟩,b.lim,b.seer,b.tree,b.mods,b.grow.trans k⟩
variable{Y Hz}in
theorem fg.nolimit(b:fg Y Hz U h):h.NoLimit:=b.lim.keeps b.grow
variable{Y Hz}in
theorem fg.ak1(b:fg Y Hz U h):h.NoSeer:=b.seer.keeps b.grow
noncomputable def WW(K:Ke)(C:Hn Hv)(O:Hn (HP×Hn Hv)):Hn Hv:=K.locals::(C++O.flatMap (·.2))
structure InF(U:Iv)(ae:HM)(X:Hn Hv)(K:Ke)(C:Hn Hv)(L:ar)(O:Hn (HP×Hn Hv))(s:HM):Prop where
 same:∃h tk,s={ae with heap:=h,toks:=tk}
 base:fg Y Hz U s.heap
 keep:∀b o,ae.heap.get? b=hb o->b∉X->s.heap.get? b=hb o
 alive:∀b o,ae.heap.get? b=hb o->∃o',s.heap.get? b=hb o'
 cO:∀a∈WW K C O,∃o,s.heap.get? a=hb o/\¬j0 o
 bZ:∀a∈WW K C O,U.get? a=Hu/\(a∉X->ae.heap.get? a=Hu)
 b9:(WW K C O).Nodup
 kind:K.scope.kind=.function
 glob:K.globals=I3
 jA:K.builtins=K1
 rU:∀x,K.kindOf x=hb .cell->∃c,K.cells.lookup x=hb c
 ns:∃m,s.heap.Ns K.locals m/\∀x vv,L x=hb vv->K.kindOf x=hb .local->∃u,m x=hb u/\cj Y w Hz ae.heap (WW K C O) O s.heap x u vv
 cell:∀x vv,L x=hb vv->K.kindOf x=hb .cell->∃c u,K.cells.lookup x=hb c/\s.heap.IsCell c (hb u)/\cj Y w Hz ae.heap (WW K C O) O s.heap x u vv
end
variable{sp:Hn Hv}
theorem jM.head(r:jM Y w Hz ae W h u o sp):aor Y w Hz ae W h u sp o:=
 r.casesOn (λa b c d _ e=>Pl e▸⟨_,_,_,a,b,c,d⟩) (λa b _ e=>Pl e▸⟨a,b⟩) (λa b c d e=>⟨_,a,b,c,d,e⟩)
theorem jM.AM(r:jM Y w Hz ae W h (.ref a) (.lst B) sp):Ci Y w Hz ae W h B a:=r.head a rfl
theorem jM.pz(r:jM Y w Hz ae W h u (.tree ro x) sp):yJ Y w Hz h ro x sp u:=r.head
structure du(Y:IB)(w:Ja)(Hz:Hn Hv)(U:Iv)(ae:HM)(X:Hn Hv)(K:Ke)(C:Hn Hv)(L:ar)(O:Hn (HP×Hn Hv))(s:HM):Prop extends InF Y w Hz U ae X K C L O s where
 fc:∀x,K.kindOf x=hb .cell->∃c,K.cells.lookup x=hb c/\c∈C
 l9:∀x y c,K.cells.lookup x=hb c->K.cells.lookup y=hb c->x=y
 il:∀x c,K.cells.lookup x=hb c->c∈C/\∃v,s.heap.IsCell c v
theorem jM.grow(r:jM Y w Hz ae W h u o sp)(k:bA h h'):jM Y w Hz ae W h' u o sp:=by
 induction r with
 |lst a b c d=>exact .lst (k _ _ a) (b.grow k) c d
 |lq a g=>exact .lq (a.kept λo e _ _=>k _ o e) g
 |tree a b c e f=>exact .tree (a.grow k) b c e f
variable{O:Hn (HP×Hn Hv)}
theorem cj.grow(r:cj Y w Hz ae W O h gc u fb)(k:bA h h'):cj Y w Hz ae W O h' gc u fb:=by
 induction fb with
 |val fb=>exact gQ r.1 (r.2.grow k)
 |own o=>exact aQ r λsp a b=>i12 sp a (b.grow k)
theorem et{v:Hp HE}(x:h.IsCell c v)(k:bA h h'):h'.IsCell c v:=by exact aQ x λo ho r=>i12 o (k _ _ ho) r
section
variable{ae:HM}{X C:Hn Hv}{K:Ke}{L:ar}
theorem InF.grow(I:InF Y w Hz U ae X K C L O s)(k:I8 s s'):InF Y w Hz U ae X K C L O s':=by
 obtain⟨h',tk,rfl,k⟩:=k;obtain⟨⟨h,t,rfl⟩,i2,i3,i4,i5,i6,i7,i8,i8a,i8b,i8c,i9,i10⟩:=I;refine⟨⟨h',tk,rfl⟩,i2.trans k,λb o e x=>k _ _ (i3 b o e x),λb o e=>?_,λa ha=>?_,i6,i7,i8,i8a,i8b,i8c,?_,?_⟩
 ·obtain⟨o',e'⟩:=i4 b o e;exact u9 o' (k _ _ e')
 ·obtain⟨o,e,c⟩:=i5 a ha;exact i12 o (k _ _ e) c
 ·exact aQ i9 λm R hv=>i12 m (R.keeps k) (λx vv e1 e2=>aQ (hv x vv e1 e2) λu a b=>i12 u a (b.grow k))
 ·intro x vv e1 e2;exact j4 (i10 x vv e1 e2) λc u a b d=>mD c u a (et b k) (d.grow k)
theorem du.grow(I:du Y w Hz U ae X K C L O s)(k:I8 s s'):du Y w Hz U ae X K C L O s':=
 ⟨I.toInF.grow k,I.fc,I.l9,λx c hc=>let⟨q,v,h⟩:=I.il x c hc;⟨q,v,et h (ag k)⟩⟩
theorem InF.fresh(I:InF Y w Hz U ae X K C L O s)(h:s.heap.get? a=Hu):ae.heap.get? a=Hu/\a∉WW K C O:=by
 constructor
 ·cases e:ae.heap.get? a with
  |none=>rfl
  |some o=>exact dz (I.alive a o e) λo' e'=>no (h.symm.trans e')
 ·intro R;exact aQ (I.cO a R) λo e o1=>no (h.symm.trans e)
theorem InF.mX(I:InF Y w Hz U ae X K C L O s):ae.heap.get? s.heap.objs.size=Hu/\s.heap.objs.size∉WW K C O:=I.fresh (aR _ (Io _))
end
structure Room(A:Jh)(n:HG):Prop where
 handled:A.handled=Hu
 depth:A.depth+n+100<Rf
 units:A.units+8*n+100<cLine
 frames:∃l,A.frames=hb l
structure jf(K:Ke):Prop where
 gen:K.scope.isGenerator=HH
 co:K.scope.isCoroutine=HH
 jA:K.builtins=K1
 glob:K.globals=I3
structure ey(A:Jh)(n:HG):Prop extends Room A n where
 top:∃K l,A.frames=hb (K::l)/\jf K
variable{A:Jh}{n:HG}
theorem Room.mono{m:HG}(h:Room A n)(R:m<=n):Room A m:=⟨h.handled,by have:=h.depth;exact HC (Im (Ij R _) 100) this,by have:=h.units;exact HC (Im (Ij (Kj 8 R) _) 100) this,h.frames⟩
theorem Room.deeper(h:Room A (n+1))(p:jf K):ey (A.deeper K) n:=by refine dz h.frames λl hl=>?_;refine⟨⟨h.handled,(by have:=h.depth;exact rm1 this),(by have:=h.units;exact HC (aos _ _) this),⟨K::l,?_⟩⟩,⟨K,l,?_,p⟩⟩<;>(show A.frames.map _=_;refine hl.symm▸?_;rfl)
theorem ey.alT(h:ey A n)(b:fg Y Hz U s.heap):PylongRoom (Iq Y w) A s:=by exact my h.top λK l hf p=>PylongRoom.of b.nolimit (by have:=h.depth;exact HC (Im (Ib _ _) 100) this) (SeerAt.of b.ak1 b.tree hf p.gen p.co p.jA p.glob)
section
variable(Y:IB)(w:Ja)(Hz:Hn Hv)(U:Iv)
def Ev(n:HG)(sc:IH)(e:HR)(m:ar->Hp V):Prop:=
 ∀{{A:Jh}} {{Hz:Hn Hv}} {{K:Ke}} {{ae:HM}} {{X C:Hn Hv}} {{L:ar}} {{O:Hn (HP×Hn Hv)}} {{s:HM}} {{v:V}} {{Q:HE->HM->Prop}} {{E:HE->HM->Prop}},
  K.scope=sc->ey A n->InF Y w Hz U ae X K C L O s->m L=hb v->(∀u s',I8 s s'->dK Y w Hz ae.heap (WW K C O) s'.heap u v->Q u s')->wpAny (Iq Y w) A (Jf e K) Q E s
def Tr(n:HG)(sc:IH)(e:HR)(m:ar->Hp Ig):Prop:=
 ∀{{A:Jh}} {{Hz:Hn Hv}} {{K:Ke}} {{ae:HM}} {{X C:Hn Hv}} {{L:ar}} {{O:Hn (HP×Hn Hv)}} {{s:HM}} {{v:Ig}} {{Q:Ig->HM->Prop}} {{E:HE->HM->Prop}},
  K.scope=sc->ey A n->InF Y w Hz U ae X K C L O s->m L=hb v->(∀s',I8 s s'->Q v s')->wpAny (Iq Y w) A (Qj e K (Jf e K)) Q E s
def rL(n:HG)(sc:IH)(es:Hn HR)(m:ar->Hp (Hn V)):Prop:=
 ∀{{A:Jh}} {{Hz:Hn Hv}} {{K:Ke}} {{ae:HM}} {{X C:Hn Hv}} {{L:ar}} {{O:Hn (HP×Hn Hv)}} {{s:HM}} {{vs:Hn V}} {{pos:J3}} {{Q:Hn HE->HM->Prop}} {{E:HE->HM->Prop}},
  K.scope=sc->ey A n->InF Y w Hz U ae X K C L O s->m L=hb vs->(∀us s',I8 s s'->hY Y w Hz ae.heap (WW K C O) s'.heap us vs->Q us s')->
  wpAny (Iq Y w) A (QE (J4 pos (Ie es K))) Q E s
set_option genCtorIdx false in
inductive Out where
 |next(L:ar)
 |brk (L:ar)
 |cont (L:ar)
 |ret (x:Ho)
 |fR (x:Ho) (L:ar)
structure Step(h h':Iv)(W W':Hn Hv):Prop where
 keep:∀b o,h.get? b=hb o->b∉W->h'.get? b=hb o
 new:∀a∈W',a∈W∨h.get? a=Hu
theorem Step.cM(k:bA h h'):Step h h' W W:=⟨λb o e _=>k b o e,λ_ h=>.inl h⟩
theorem Step.refl(h:Iv)(W:Hn Hv):Step h h W W:=Step.cM (bA.refl h)
theorem Step.trans(x:Step h h' W W')(y:Step h' qv W' W''):Step h qv W W'':=by
 refine⟨λb o e U=>y.keep b o (x.keep b o e U) λhw=>?_,λa ha=>?_⟩
 ·rcases x.new b hw with q|q
  ·exact U q
  ·exact no (q.symm.trans e)
 ·rcases y.new a ha with q|q
  ·exact x.new a q
  ·cases e:h.get? a with
   |none=>exact .inr rfl
   |some o=>
    by_cases hw:a∈W
    ·exact .inl hw
    ·exact no (q.symm.trans (x.keep a o e hw))
def Ends(ae:HM)(X:Hn Hv)(K:Ke)(C:Hn Hv)(O:Hn (HP×Hn Hv))(s:HM)(r:Out)(Q:Flow->HM->Prop):Prop:=
 match r with
 |.next L=>∀O' s',du Y w Hz U ae X K C L O' s'->Step s.heap s'.heap (WW K C O) (WW K C O')->Q .next s'
 |.brk L=>∀O' s',du Y w Hz U ae X K C L O' s'->Step s.heap s'.heap (WW K C O) (WW K C O')->Q .brk s'
 |.cont L=>∀O' s',du Y w Hz U ae X K C L O' s'->Step s.heap s'.heap (WW K C O) (WW K C O')->Q .cont s'
 |.ret x=>∀u as O' L s',du Y w Hz U ae X K C L O' s'->RD Y w Hz s'.heap u x as->wf x=Hq->(∀a∈as,a∈X∨ae.heap.get? a=Hu)->Q (.ret u) s'
 |.fR x L=>∀u O' s',du Y w Hz U ae X K C L O' s'->RD Y w Hz s'.heap u x []->wf x=Hq->Q (.ret u) s'
variable{Y w Hz U}in
theorem Ends.trans{X:Hn Hv}{r:Out}{Q:Flow->HM->Prop}(k:Step s.heap s'.heap (WW K Bs O) (WW K Bs O'))
  (h:Ends Y w Hz U iE X K Bs O s r Q):Ends Y w Hz U iE X K Bs O' s' r Q:=by
 induction r with
 |next L=>exactλuX jR I t=>h uX jR I (k.trans t)
 |brk L=>exactλuX jR I t=>h uX jR I (k.trans t)
 |cont L=>exactλuX jR I t=>h uX jR I (k.trans t)
 |ret x=>exact h
 |fR x L=>exact h
def St(n:HG)(sc:IH)(ss:Hn IM)(m:ar->Hp Out):Prop:=
 ∀{{A:Jh}} {{Hz:Hn Hv}} {{K:Ke}} {{ae:HM}} {{X C:Hn Hv}} {{L:ar}} {{O:Hn (HP×Hn Hv)}} {{s:HM}} {{r:Out}} {{Q:Flow->HM->Prop}} {{E:HE->HM->Prop}},
  K.scope=sc->ey A n->du Y w Hz U ae X K C L O s->m L=hb r->Ends Y w Hz U ae X K C O s r Q->wpAny (Iq Y w) A (execs ss K) Q E s
def Fn(n:HG)(f:Hv)(m:Hn Ho->Hp Ho):Prop:=
 ∀{{A:Jh}} {{Hz:Hn Hv}} {{s:HM}} {{us:Hn HE}} {{B:Hn Ho}} {{as:Hn Hv}} {{y:Ho}} {{Q:HE->HM->Prop}} {{E:HE->HM->Prop}},
  Room A n->fg Y Hz U s.heap->bH Y w Hz s.heap us B as->fw B=Hq->m B=hb y->
  (∀u as s',I8 s s'->RD Y w Hz s'.heap u y as->wf y=Hq->(∀a∈as,s.heap.get? a=Hu)->Q u s')->wpAny (Iq Y w) A (call (.ref f) us) Q E s
end
end
section
noncomputable def aA(sc:IH)(x:HP):Ig:=(decide (sc.names.lookup x=hb .local)||decide (sc.names.lookup x=hb .cell))&& !(x==("__debug__":HP))
def sQ:VV->Hp V
 |.val v=>hb v
 |.own (.lst B)=>hb ⟨.list B,.t⟩
 |.own (.lq B)=>hb ⟨oh B,.t⟩
 |.own (.tree _ x)=>hb ⟨x,.t⟩
variable{ae h:Iv}{W:Hn Hv}{O:Hn (HP×Hn Hv)}{x:HP}{vv:VV}{v:V}
theorem cj.rd(r:cj Y w Hz ae W O h x u vv)(e:sQ vv=hb v):dK Y w Hz ae W h u v:=by
 induction vv with
 |val v'=>(have e:=si e;subst e;clear e);exact r.2
 |own o=>
  refine aQ r λsp o1 r=>?_;clear o1;induction r with
  |lst a b c d=>(have e:=si e;subst e;clear e);exact⟨_,.list a b,c,trivial⟩
  |lq a g=>(have e:=si e;subst e;clear e);exact⟨_,.num a,g,trivial⟩
  |tree a b c _ _=>(have e:=si e;subst e;clear e);exact⟨_,a,c,trivial⟩
variable{sc:IH}{n:HG}{pos:J3}
theorem Ev.var(hv:aA sc x=Hq):Ev Y w U n sc (.Name x pos) (λL=>(L x).bind sQ):=by
 intro A Hz K ae X C L O s v Q E hs hr I R hQ;subst hs;obtain⟨vv,e1,e2⟩:=ao R;simp only[aA,HU,JA,Ik,JI]at hv;refine ew hv λhv hd=>?_;rcases hv with hv|hv
 ·exact aQ I.ns λm yk hx=>aQ (hx x vv e1 hv) λu hu r=>MJ (Lo I.kind hv yk hu (hQ u s (aD s) (r.rd e2))) hd
 ·exact j4 (I.cell x vv e1 hv) λc u hc hu r=>MJ (MA I.kind hv hc hu (hQ u s (aD s) (r.rd e2))) hd
variable{k:HG}
theorem Ev.CL{i:HI}:Ev Y w U n sc (.Constant (.int i) k pos) (λ_=>hb ⟨.int i,.d⟩):=by intro A Hz K ae X C L O s v Q E hs hr I R hQ;(have e:=si R;subst e;clear R);exact wpAny_Constant_int (hQ _ _ (aK s _) dK.int)
theorem Ev.ans:Ev Y w U n sc (.Constant .none k pos) (λ_=>hb ⟨.none,.d⟩):=by intro A Hz K ae X C L O s v Q E hs hr I R hQ;(have e:=si R;subst e;clear R);exact wpAny_Constant_none (hQ _ _ (aD s) dK.none)
theorem Ev.aoh{b:Ig}:Ev Y w U n sc (.Constant (.bool b) k pos) (λ_=>hb ⟨.bool b,.d⟩):=by intro A Hz K ae X C L O s v Q E hs hr I R hQ;(have e:=si R;subst e;clear R);exact Qb (hQ _ _ (aD s) dK.bool)
theorem Ev.apC(hx:wf (.str x)=Hq):Ev Y w U n sc (.Constant (.str x) k pos) (λ_=>hb ⟨.str x,.d⟩):=by intro A Hz K ae X C L O s v Q E hs hr I R hQ;(have e:=si R;subst e;clear R);exact MK (hQ _ _ (aK s _) (dK.str hx))
noncomputable def smallInt(a:HI):Ig:=decide (Rg a<=64)
noncomputable def aob:Ho->Ho->Hp Ho
 |.int a,.int b=>hb (.int (a+b))
 |.str x,.str y=>if x.length+y.length<=sizeLine then hb (.str (x++y))else Hu
 |.list B,.list ys=>if B.length+ys.length<=sizeLine then hb (.list (B++ys))else Hu
 |_,_=>Hu
def an5:Ho->Ho->Hp Ho
 |.int a,.int b=>if smallInt a||smallInt b then hb (.int (a*b))else Hu
 |.str x,.int k=>if k=0 then hb (.str KQ)else if k=1 then hb (.str x)else Hu
 |_,_=>Hu
noncomputable def wJ(f:HI->HI->Hp HI):Ho->Ho->Hp Ho
 |.int a,.int b=>(f a b).map .int
 |_,_=>Hu
def aoA(op:LK)(x y:Ho):Hp Ho:=match op with
 |.Add=>aob x y
 |.Sub=>wJ (λa b=>hb (a-b)) x y
 |.Mult=>an5 x y
 |.FloorDiv=>wJ (λa b=>if 0<b then hb (a/b)else Hu) x y
 |.Mod=>wJ (λa b=>if 0<b then hb (a%b)else Hu) x y
 |_=>Hu
inductive akd(f:HI->HI->Hp HI):Ho->Ho->Ho->Prop
 |mk (a b c:HI) (h:f a b=hb c):akd f (.int a) (.int b) (.int c)
inductive A7:Ho->Ho->Ho->Prop
 |int (a b:HI):A7 (.int a) (.int b) (.int (a+b))
 |str (a b:HP) (h:a.length+b.length<=sizeLine):A7 (.str a) (.str b) (.str (a++b))
 |list (a b:Hn Ho) (h:a.length+b.length<=sizeLine):A7 (.list a) (.list b) (.list (a++b))
inductive Bl:Ho->Ho->Ho->Prop
 |int (a b:HI) (h:(smallInt a||smallInt b)=Hq):Bl (.int a) (.int b) (.int (a*b))
 |zero (a:HP):Bl (.str a) (.int 0) (.str KQ)
 |one (a:HP):Bl (.str a) (.int 1) (.str a)
variable{x y z:Ho}
theorem mQ{f:HI->HI->Hp HI}(h:wJ f x y=hb z):akd f x y z:=by
 cases x with
 |int a=>cases y with
  |int b=>induction dI (o:=f a b) h with|mk c h1=>?_;exact⟨a,b,c,h1⟩
  |_=>exact no h
 |_=>exact no h
theorem aeY(h:aob x y=hb z):A7 x y z:=by
 cases x with
 |int a=>cases y with
  |int b=>(have e:=si h;subst e;clear h);exact .int a b
  |_=>exact no h
 |str a=>cases y with
  |str b=>exact jl (c:=a.length+b.length<=sizeLine) (o:=hb (JF (a++b))) (λhz h=>by(have e:=si h;subst e;clear h);exact .str a b hz) h
  |_=>exact no h
 |list a=>cases y with
  |list b=>exact jl (c:=a.length+b.length<=sizeLine) (o:=hb (Mw (a++b))) (λhz h=>by(have e:=si h;subst e;clear h);exact .list a b hz) h
  |_=>exact no h
 |_=>exact no h
theorem aei(h:an5 x y=hb z):Bl x y z:=by
 cases x with
 |int a=>cases y with
  |int b=>exact jl (c:=(smallInt a||smallInt b)=Hq) (o:=hb (IL (a*b))) (λhz h=>by(have e:=si h;subst e;clear h);exact .int a b hz) h
  |_=>exact no h
 |str a=>cases y with
  |int k=>
   by_cases h0:k=0
   ·subst h0;have e:=si h;subst e;clear h;exact .zero a
   ·replace h:(if k=1 then hb (JF a)else Hu)=hb z:=(Ir h0).symm.trans h;revert h;refine jl λh1 h=>?_;subst h1;have e:=si h;subst e;clear h;exact .one a
  |_=>exact no h
 |_=>exact no h
noncomputable def Fl.join:Fl->Fl->Fl
 |.d,.d=>.d
 |.t,_=>.t
 |_,.t=>.t
 |_,_=>.s
noncomputable def V.eL(B:Hn Ho)(f:Fl):V:=⟨.list B,if b7 B then .d else f⟩
def gE(op:LK)(a b:V):Hp V:=
 (aoA op a.x b.x).map λx=>match x with
  |.list B=>V.eL B (a.fl.join b.fl)
  |x=>⟨x,.d⟩
variable{f:Fl}{as:Hn Hv}
theorem da.v9{g:Fl}(h:da ae W f as):da ae W (f.join g) as:=by cases f<;>cases g<;>first|exact h|trivial|exactλa ha=>(h a ha).2
theorem da.vU(h:da ae W g as):da ae W (f.join g) as:=by cases f<;>cases g<;>first|exact h|trivial|exactλa ha=>(h a ha).2
section
variable{ae s:HM}{X C:Hn Hv}{K:Ke}{L:ar}{B:Hn Ho}
theorem InF.eL(I:InF Y w Hz U ae X K C L O s)(r:bH Y w Hz s.heap vs B as)(c:wf (.list B)=Hq)(o:da ae.heap (WW K C O) f as){m:HG}:
  dK Y w Hz ae.heap (WW K C O) (s.heap.push (cq vs m)) (.ref s.heap.objs.size) (V.eL B f):=by
 refine⟨s.heap.objs.size::as,.list (H7 _ rfl) (r.grow (bA.push s.heap (cq vs m))),c,?_⟩;obtain z:=I.mX;cases e:b7 B with
 |true=>refine(r.bT e).symm▸?_;simp only[V.eL,e,MU];intro a ha;exact(HB.mp ha).symm▸z
 |false=>
  simp only[V.eL,e,Ko,K8];induction f with
  |d=>exactλa ha=>(Hw.mp ha).elim (λq=>q▸z) (o a)
  |s=>exactλa ha=>(Hw.mp ha).elim (λq=>q▸z.2) (o a)
  |t=>trivial
theorem InF.aoy(I:InF Y w Hz U ae X K C L O s)(r:bH Y w Hz s.heap vs B as)(c:wf (.tuple B)=Hq)(o:da ae.heap (WW K C O) f as){m:HG}:
  dK Y w Hz ae.heap (WW K C O) (s.heap.push (kA vs m)) (.ref s.heap.objs.size) (V.fix (.tuple B) f):=
 let _:=I
 dK.fixed (.tuple (H7 _ rfl) (λR=>by obtain⟨_,o,e,_⟩:=I.base.hide _ R;exact IG (II e) (JW _)) (r.grow (bA.push s.heap (kA vs m)))) c o
variable{x:HP}
theorem abu(hx:Ki x=Hq)(hy:Ki nZ=Hq):Ki (x++nZ)=Hq:=by unfold Ki at*;(rw[Str.cps_append];refine Array.all_append.trans ?_;rw[hx,hy]);rfl
theorem aah(h:(x.length==0)=Hq):x=KQ:=by
 obtain⟨c⟩:=x;have:c= #[]:=by simpa[Str.length]using h
 refine this.symm▸?_;rfl
theorem iD:wf (.str x)=Hq↔Ki x=Hq/\x.length<=sizeLine:=by simp[wf]
theorem aV:wf (.list B)=Hq↔B.length<=sizeLine/\fw B=Hq:=by simp[wf]
theorem dk:wf (.tuple B)=Hq↔B.length<=sizeLine/\fw B=Hq:=by simp[wf]
theorem wT(h:wf (.tuple B)=Hq):fw B=Hq:=(IU.mp h).2
variable{x:Ho}
theorem AG(h:fw (x::B)=Hq):wf x=Hq:=(IU.mp h).1
theorem wg(h:fw (x::B)=Hq):fw B=Hq:=(IU.mp h).2
variable{k:Ho}{r:Hn (Ho×Ho)}
theorem wD(h:wf (.dict ((k,x)::r))=Hq):wf x=Hq:=(IU.mp (IU.mp (IU.mp h).2).1).2
theorem wS(h:wf x=Hq)(h':fw B=Hq):fw (x::B)=Hq:=IU.mpr ⟨h,h'⟩
theorem wL(h:decide (B.length<=sizeLine)=Hq)(h':fw B=Hq):wf (.tuple B)=Hq:=IU.mpr ⟨h,h'⟩
theorem wK(h:wf k=Hq)(h':wf x=Hq):wf (.dict [(k,x)])=Hq:=by show(decide (1<=sizeLine)&&(wf k&&wf x&&Hq))=Hq;rw[h,h'];rfl
theorem afC:wf (.str KQ)=Hq:=by decide +kernel
variable{Q:HE->HM->Prop}
theorem aat{x y:HP}(hz:x.length+y.length<=sizeLine)(h:∀v tk,v=.str (x++y) tk->∀s',I8 s s'->Q v s'):
  (if x.length==0 then Made.val (.str y u)else if y.length==0 then Made.val (.str x t)else Made.str (x++y)).post Q s:=by
 split
 ·rename_i e;have:x++y=y:=by rw[aah e,Str.empty_append]
  exact this▸h _ _ rfl _ (aD s)
 ·split
  ·rename_i e;have:x++y=x:=by rw[aah e,Str.append_empty]
   exact this▸h _ _ rfl _ (aD s)
  ·exact⟨by rw[PJ];exact hz,h _ _ rfl _ (aK s _)⟩
variable{A:Jh}{E:HE->HM->Prop}{a:V}
theorem amE{op:LK}{ll rI:HE}(hr:ey A n)(I:InF Y w Hz U ae X K C L O s)(h:gE op a b=hb v)
  (aL:dK Y w Hz ae.heap (WW K C O) s.heap ll a)(cY:dK Y w Hz ae.heap (WW K C O) s.heap rI b)(hQ:∀u s',I8 s s'->dK Y w Hz ae.heap (WW K C O) s'.heap u v->Q u s'):
  wpAny (Iq Y w) A (binaryOp op ll rI) Q E s:=by
 refine aQ (H6.mp h) λx hx hv=>?_;obtain⟨ax,af⟩:=a;obtain⟨bx,bf⟩:=b;obtain⟨as,ra,ca,oa⟩:=aL;obtain⟨bs,rb,cb,ob⟩:=cY;dsimp only at hx ra rb ca cb oa ob hv;clear h;have hi:∀{c:HI},(match(IL c)with|.list B=>V.eL B (af.join bf)|x=>⟨x,.d⟩)=v->∀s',I8 s s'->∀t,Q (.int c t) s':=by rintro c rfl s' k t;exact hQ _ _ k dK.int
 induction op with
 |Add=>
  induction aeY hx with
  |int a b=>
   clear bx ax x;induction ra.dS with|mk t=>?_
   clear ll;induction rb.dS with|mk t'=>?_
   exact P.add_int (hi hv _ (aK s _) _)
  |str a b hz=>
   clear bx ax x;induction ra.ig with|mk t=>?_
   clear ll;induction rb.ig with|mk t'=>?_
   clear rI;subst hv;rw[iD]at ca cb;refine P.add_str (aat hz λv tk e s' k=>?_);subst e;exact hQ _ _ k (dK.str (iD.mpr ⟨abu ca.1 cb.1,by rw[PJ];exact hz⟩))
  |list a b hz=>
   clear bx ax x;induction ra.listI with|mk d us m cs a1 a2=>?_
   clear ll as;induction rb.listI with|mk d' EA m' cs' b1 b2=>?_
   clear rI bs;subst hv;rw[aV]at ca cb;refine P.add_list a1 b1 ?_ (by simpa[a2.length,b2.length]using hz);rw[List.append_toArray];exact hQ _ _ (bE s _) (I.eL (a2.append b2) (aV.mpr ⟨by simpa using hz,by rw[eI,ca.2,cb.2];rfl⟩) (da.append ((oa.mono λa h=>.tail _ h).v9) ((ob.mono λa h=>.tail _ h).vU)))
 |Sub=>
  clear ob cb oa;induction mQ hx with|mk a b c e=>?_
  have e:=si e;subst e;clear e;obtain H:=ra.dS;clear ra;induction H with|mk t=>?_
  obtain H:=rb.dS;clear rb;induction H with|mk t'=>?_
  exact P.sub_int (hi hv _ (aK s _) _)
 |Mult=>
  clear ob cb oa;induction aei hx with
  |int a b hs=>
   clear bx ax x;induction ra.dS with|mk t=>?_
   clear ll;induction rb.dS with|mk t'=>?_
   refine P.mul_int (hi hv _ (aK s _) _) ?_;simp only[smallInt,JA,Ik]at hs;exact hs.elim IntMulOk.of_left IntMulOk.of_right
  |zero a=>
   clear bx ax x;induction ra.ig with|mk t=>?_
   clear ll;induction rb.dS with|mk t'=>?_
   clear rI;subst hv;exact P.mul_str_none (LH 0) (by decide) (hQ _ _ (aK s _) (dK.str afC))
  |one a=>
   clear bx ax x;induction ra.ig with|mk t=>?_
   clear ll;induction rb.dS with|mk t'=>?_
   clear rI;subst hv;exact P.mul_str (by decide) (λ_ e=>Iu e) (λ_ e=>Iu e) (hQ _ _ (aD s) (dK.str ca))
 |FloorDiv=>
  clear hQ ob cb oa ca;induction mQ hx with|mk a b c e=>?_
  clear bx ax x;induction ra.dS with|mk t=>?_
  clear ll;induction rb.dS with|mk t'=>?_
  revert e;refine jl λhz e=>?_;have e:=si e;subst e;clear e;rw[<-Int.fdiv_eq_ediv_of_nonneg a (IZ hz)]at hv;exact PyProof.Rows.floordiv_int (Kb hz) (hi hv _ (aK s _) _) (.inr (hr.alT I.base))
 |Mod=>
  clear hQ I hr ob cb oa ca;induction mQ hx with|mk a b c e=>?_
  clear bx ax x;induction ra.dS with|mk t=>?_
  clear ll ra as;induction rb.dS with|mk t'=>?_
  revert e;refine jl λhz e=>?_;have e:=si e;subst e;clear e;rw[<-Int.fmod_eq_emod_of_nonneg a (IZ hz)]at hv;exact PyProof.Rows.mod_int' (Kb hz) (hi hv _ (aK s _) _)
 |_=>exact no hx
noncomputable def gY:Ho->Hp Ig
 |.none=>hb HH
 |.bool b=>hb b
 |.int i=>hb (i !=0)
 |.str x=>hb ((x.length:HI)!=0)
 |.list B=>hb (!B.isEmpty)
 |_=>Hu
theorem ed:(sizeLine:HI)<2^63:=by decide
theorem abW{α β:Type}{B:Hn α}{ys:Hn β}(h:B.length=ys.length):B.isEmpty=ys.isEmpty:=by cases B<;>cases ys<;>simp_all
theorem nD{b:Ig}{Q:Ig->HM->Prop}{W:Hn Hv}{ae:Iv}(h:gY a.x=hb b)(r:dK Y w Hz ae W s.heap u a)(hQ:∀s',I8 s s'->Q b s'):
  wpAny (Iq Y w) A (Qk u) Q E s:=by
 obtain⟨ax,af⟩:=a;obtain⟨as,ra,ca,oa⟩:=r;dsimp only at h ra ca oa;clear oa af;cases ax with
 |none=>(have e:=si h;subst e;clear h);cases ra.none_inv;exactλ_ _ _=>hQ _ (aD s)
 |bool b=>(have e:=si h;subst e;clear h);cases ra.bool_inv;exact Lf (hQ _ (aD s))
 |int i=>(have e:=si h;subst e;clear h);induction ra.dS with|mk t=>?_;exact P.truthy_int (hQ _ (aD s))
 |str x=>
  have e:=si h;subst e;clear h;clear ae W;induction ra.ig with|mk t=>?_
  rw[iD]at ca;exact P.truthy_str (by have:=ed;have:=ca.2;exact Mx.mpr (xP ca.2 ‹_›)) (hQ _ (aK s _))
 |list B=>
  have e:=si h;subst e;clear h;obtain H:=ra.listI;clear ra;induction H with|mk d us m cs a1 a2=>?_
  rw[aV]at ca;have hl:=a2.length;refine wpAny_truthy_list ⟨_,a1,rfl,_,rfl⟩ (by have:=ed;have:=ca.1;simp;lia -abstractProof) ?_;rw[List.isEmpty_toArray,abW hl];exact hQ _ (aK s _)
 |_=>exact no h
noncomputable def isNone:Ho->Ig
 |.none=>Hq
 |_=>HH
noncomputable def dw(k:HP):Hn (Ho×Ho)->Ig
 |[]=>HH
 |(.str x,_)::r=>decide (x=k)||dw k r
 |_::r=>dw k r
noncomputable def zy(f:HI->HI->Ig):Ho->Ho->Hp Ig
 |.int a,.int b=>hb (f a b)
 |_,_=>Hu
noncomputable def Bb(x y:Ho):Hp Ig:=if nd x&&nd y&&decide (min x.depth y.depth<=60)then hb (IX x y)else Hu
def Cb(x y:Ho):Hp Ig:=match y with
 |.none=>hb (isNone x)
 |_=>Hu
noncomputable def sP(x:Ho)(ys:Hn Ho):Hp Ig:=if nd x&&xV ys&&decide (min (Mb ys) x.depth<=60)then hb (ys.any λy=>IX y x)else Hu
noncomputable def fW:Ho->Hp HP
 |.str k=>hb k
 |_=>Hu
def FJ(k:HP)(aW:Hn (Ho×Ho)):Hp Ig:=if dQ aW=Hq then hb (dw k aW)else Hu
theorem adC{α:Type}(f:α->HP)(g:α->Ho)(k:HP)(B:Hn α):FJ k (B.map λp=>(.str (f p),g p))=hb (dw k (B.map λp=>(.str (f p),g p))):=H5 (gf f g B)
def wM(x y:Ho):Hp Ig:=match y with
 |.list ys=>sP x ys
 |.tuple ys=>sP x ys
 |.dict aW=>(fW x).bind λk=>FJ k aW
 |.str s=>(fW x).map λk=> !(Lg s k 0 s.length 1).isEmpty
 |_=>Hu
def bW(op:Nu)(x y:Ho):Hp Ig:=match op with
 |.Lt=>zy (λa b=>decide (a<b)) x y
 |.LtE=>zy (λa b=>decide (a<=b)) x y
 |.Gt=>zy (λa b=>decide (a>b)) x y
 |.GtE=>zy (λa b=>decide (a≥b)) x y
 |.Eq=>Bb x y
 |.NotEq=>(Bb x y).map (!·)
 |.Is=>Cb x y
 |.IsNot=>(Cb x y).map (!·)
 |.In=>wM x y
 |.NotIn=>(wM x y).map (!·)
inductive ajm(f:HI->HI->Ig):Ho->Ho->Ig->Prop
 |mk (a b:HI):ajm f (.int a) (.int b) (f a b)
variable{c:Ig}
theorem l5{f:HI->HI->Ig}(h:zy f x y=hb c):ajm f x y c:=by
 cases x with
 |int a=>cases y with
  |int b=>(have e:=si h;subst e;clear h);exact⟨a,b⟩
  |_=>exact no h
 |_=>exact no h
theorem aaP(h:Bb x y=hb c):nd x=Hq/\nd y=Hq/\min x.depth y.depth<=60/\c=IX x y:=by
 unfold Bb at h;split at h
 ·rename_i hc;simp only[HU,Ik]at hc;exact yW hc.1.1 hc.1.2 hc.2 ((H4 h).symm)
 ·exact no h
inductive ajq(x:Ho):Ho->Ig->Prop
 |mk:ajq x .none (isNone x)
theorem aa1(h:Cb x y=hb c):ajq x y c:=by
 cases y with
 |none=>(have e:=si h;subst e;clear h);exact⟨⟩
 |_=>exact no h
theorem kE(h:sP x ys=hb c):nd x=Hq/\xV ys=Hq/\min (Mb ys) x.depth<=60/\c=ys.any λy=>IX y x:=by
 unfold sP at h;split at h
 ·rename_i hc;simp only[HU,Ik]at hc;exact yW hc.1.1 hc.1.2 hc.2 ((H4 h).symm)
 ·exact no h
theorem dg(h:fW x=hb Bp):x=.str Bp:=by
 cases x with
 |str s=>(have e:=si h;subst e;clear h);rfl
 |_=>exact no h
inductive Ep:Ho->Ho->Ig->Prop
 |list (x:Ho) (ys:Hn Ho) (c:Ig) (h:sP x ys=hb c):Ep x (.list ys) c
 |tuple (x:Ho) (ys:Hn Ho) (c:Ig) (h:sP x ys=hb c):Ep x (.tuple ys) c
 |dict (k:HP) (aW:Hn (Ho×Ho)) (h:dQ aW=Hq):Ep (.str k) (.dict aW) (dw k aW)
 |str (k s:HP):Ep (.str k) (.str s) (!(Lg s k 0 s.length 1).isEmpty)
theorem aaC(h:wM x y=hb c):Ep x y c:=by
 cases y with
 |list ys=>exact .list x ys c h
 |tuple ys=>exact .tuple x ys c h
 |dict aW=>revert h;refine ak λk h1=>jl λhp h=>?_;obtain rfl:=dg h1;(have e:=si h;subst e;clear h);exact .dict k aW hp
 |str s=>
  induction dI (o:=fW x) h with|mk k h1=>?_
  obtain rfl:=dg h1;exact .str k s
 |_=>exact no h
theorem RD.aba(r:RD Y w Hz h u x as):(u==.none)=isNone x:=by
 have H:=r.head;clear r;cases x with
 |none=>cases H;rfl
 |bool b=>cases H;rfl
 |dict ps=>refine my H.1 λa _ e _=>?_;rw[e];rfl
 |_=>cases H;rfl
theorem aad(k:HP){aW:Hn (HP×HE)}:∀{B:Hn (HP×Ho)},aW.map (·.1)=B.map (·.1)->dw k (B.map λp=>(.str p.1,p.2))=(K2 aW k).isSome:=by
 induction aW with
 |nil=>intro B h;cases B with
  |nil=>rfl
  |cons _ _=>exact nomatch h
 |cons c aW ih=>
  intro B h;obtain⟨a,v⟩:=c;cases B with
  |nil=>exact nomatch h
  |cons d B=>
  obtain⟨b,x⟩:=d;refine ew (IP h) λe h'=>?_;cases e;show(decide (a=k)||dw k (B.map λp=>(.str p.1,p.2)))=_;rw[ih h'];unfold K2;rw[Lx];cases decide (a=k)<;>rfl
theorem ly(x:HP)(t:Pk):(strKind Y w).is x (.str x t)=Hq:=Ih _
theorem ou{c:Ig}{ll:HE}(hr:ey A n){W:Hn Hv}{ae:Iv}(h:bW op a.x b.x=hb c)
  (aL:dK Y w Hz ae W s.heap ll a)(cY:dK Y w Hz ae W s.heap rI b)(hQ:∀s',I8 s s'->Q (.bool c) s'):
  wpAny (Iq Y w) A (compareOp op ll rI) Q E s:=by
 obtain⟨ax,af⟩:=a;obtain⟨bx,bf⟩:=b;obtain⟨as,ra,ca,oa⟩:=aL;obtain⟨bs,rb,cb,ob⟩:=cY;obtain hu:=hr.units;dsimp only at h ra rb ca cb oa ob;clear oa ob hr;induction op with
 |Lt=>
  induction l5 h with|mk a b=>?_
  induction ra.dS with|mk t=>?_
  induction rb.dS with|mk t'=>?_
  exact P.lt_int (hQ _ (aD s))
 |LtE=>
  induction l5 h with|mk a b=>?_
  induction ra.dS with|mk t=>?_
  induction rb.dS with|mk t'=>?_
  exact P.le_int (hQ _ (aD s))
 |Gt=>
  induction l5 h with|mk a b=>?_
  induction ra.dS with|mk t=>?_
  induction rb.dS with|mk t'=>?_
  exact P.gt_int (hQ _ (aD s))
 |GtE=>
  induction l5 h with|mk a b=>?_
  induction ra.dS with|mk t=>?_
  induction rb.dS with|mk t'=>?_
  exact P.ge_int (hQ _ (aD s))
 |Eq=>refine Bh (aaP h) λn1 n2 n3 o1=>?_;subst o1;obtain c1:=kI _ ca n1;obtain c2:=kI _ cb n2;exact SeqAt.compareEq_reads (ra.reads c1) (rb.reads c2) c1 c2 (HC (Js (Ib _ _) (Hs n3 (by decide))) hu) (hQ _ (aD s))
 |NotEq=>
  induction dI h with|mk c' hc=>?_
  refine Bh (aaP hc) λn1 n2 n3 o1=>?_;subst o1;obtain c1:=kI _ ca n1;obtain c2:=kI _ cb n2;exact SeqAt.compareNe_reads (ra.reads c1) (rb.reads c2) c1 c2 (HC (Js (Ib _ _) (Hs n3 (by decide))) hu) (hQ _ (aD s))
 |Is=>induction aa1 h;cases rb.none_inv;exact is_none<|ra.aba.symm▸hQ _ (aD s)
 |IsNot=>
  induction dI h with|mk c' hc=>?_
  induction aa1 hc;cases rb.none_inv;exact isNot_none<|ra.aba.symm▸hQ _ (aD s)
 |In=>
  have hc:=h;clear h;induction aaC hc with
  |list _ ys _ hc=>refine Bh (kE hc) λn1 n2 n3 o1=>?_;subst o1;have c1:=kI _ ca n1;have c2:=kq _ (aV.mp cb).2 n2;exact SeqAt.in_list_reads (rb.reads (by simpa[LI]using c2)) (ra.reads c1) c2 c1 (Fj hu n3) (hQ _ (aD s))
  |tuple _ ys _ hc=>refine Bh (kE hc) λn1 n2 n3 o1=>?_;subst o1;have c1:=kI _ ca n1;have c2:=kq _ (dk.mp cb).2 n2;exact SeqAt.in_tuple_reads (rb.reads (by simpa[LI]using c2)) (ra.reads c1) c2 c1 (Fj hu n3) (hQ _ (aD s))
  |dict k aW rN=>
   induction ra.ig with|mk t=>?_
   induction rb.nK rN with|mk d ks B es b1 b2 b3 b4=>?_
   exact wpAny_in_of (ly _ _) b2 b1.mapOf<|(aad _ b3)▸hQ _ (aK s _)
  |str k z=>
   induction ra.ig with|mk t=>?_
   induction rb.ig with|mk t'=>?_
   exact P.in_str (hQ _ (aD s))
 |NotIn=>
  induction dI (o:=wM ax bx) h with|mk c' hc=>?_
  clear h;induction aaC hc with
  |list _ ys _ hc=>refine Bh (kE hc) λn1 n2 n3 o1=>?_;subst o1;have c1:=kI _ ca n1;have c2:=kq _ (aV.mp cb).2 n2;exact SeqAt.notIn_list_reads (rb.reads (by simpa[LI]using c2)) (ra.reads c1) c2 c1 (Fj hu n3) (hQ _ (aD s))
  |tuple _ ys _ hc=>refine Bh (kE hc) λn1 n2 n3 o1=>?_;subst o1;have c1:=kI _ ca n1;have c2:=kq _ (dk.mp cb).2 n2;exact SeqAt.notIn_tuple_reads (rb.reads (by simpa[LI]using c2)) (ra.reads c1) c2 c1 (Fj hu n3) (hQ _ (aD s))
  |dict k aW rN=>
   clear ae W c c' hc hu cb ca bf bx af ax;induction ra.ig with|mk t=>?_
   clear ll;induction rb.nK rN with|mk d ks B es b1 b2 b3 b4=>?_
   exact wpAny_notIn_of (ly _ _) b2 b1.mapOf<|(aad _ b3)▸hQ _ (aK s _)
  |str k z=>
   clear ae W c c' hc hu cb ca bf bx af ax;induction ra.ig with|mk t=>?_
   clear ll ra as;induction rb.ig with|mk t'=>?_
   exact P.notIn_str (hQ _ (aD s))
end
variable{l r:HR}{ml mr:ar->Hp V}
theorem Ev.bin{op:LK}(hl:Ev Y w U n sc l ml)(hr:Ev Y w U n sc r mr):
  Ev Y w U n sc (.BinOp l op r pos) (λL=>do let a<-ml L;let b<-mr L;gE op a b):=by
 intro A Hz K ae X C L O s v Q E hs hA I;exact ak λa ha=>ak λb aO R hQ=>wpAny_BinOp (hl hs hA I ha λu ay ah aL=>hr hs hA (I.grow ah) aO λu' aN aI cY=>amE hA ((I.grow ah).grow aI) R (aL.grow (ag aI)) cY λu s' k r=>hQ u s' (ab ah (ab aI k)) r)
theorem Ev.cmp(hl:Ev Y w U n sc l ml)(hr:Ev Y w U n sc r mr)(hk:NX op r=HH):
  Ev Y w U n sc (.Compare l [op] [r] pos) (λL=>do let a<-ml L;let b<-mr L;let c<-bW op a.x b.x;hb ⟨.bool c,.d⟩):=by
 intro A Hz K ae X C L O s v Q E hs hA I;refine ak λa ha=>ak λb aO=>ak λc hc R hQ=>?_;have e:=si R;subst e;clear R;refine wpAny_Compare1 (hl hs hA I ha λu ay ah aL=>hr hs hA (I.grow ah) aO λu' aN aI cY=>?_) hk;exact ou hA hc (aL.grow (ag aI)) cY λs' k=>hQ _ s' (ab ah (ab aI k)) dK.bool
theorem Tr.cmp(hl:Ev Y w U n sc l ml)(hr:Ev Y w U n sc r mr)(hk:NX op r=HH):
  Tr Y w U n sc (.Compare l [op] [r] pos) (λL=>do let a<-ml L;let b<-mr L;bW op a.x b.x):=by
 intro A Hz K ae X C L O s v Q E hs hA I;refine ak λa ha=>ak λb aO R hQ=>wpAny_isTrue_Compare1 (hl hs hA I ha λu ay ah aL=>hr hs hA (I.grow ah) aO λu' aN aI cY=>?_) hk;exact ou hA R (aL.grow (ag aI)) cY λs' k=>Lf (hQ s' (ab ah (ab aI k)))
variable{e:HR}
theorem Tr.val{m:ar->Hp V}(h:Ev Y w U n sc e m)(he:∀K whole,Qj e K whole=(do let v<-whole;Pu e.pos;Oa [v] (Qk v))):
  Tr Y w U n sc e (λL=>do let a<-m L;gY a.x):=by
 intro A Hz K ae X C L O s v Q E hs hA I;exact ak λa ha R hQ=>wpAny_isTrue_value (h hs hA I ha λu ay ah aL=>nD R aL λs' k=>hQ s' (ab ah k)) (he _ _)
variable{m:ar->Hp Ig}
theorem Tr.not(h:Tr Y w U n sc e m):Tr Y w U n sc (.UnaryOp .Not e pos) (λL=>(m L).map (!·)):=by
 intro A Hz K ae X C L O s v Q E hs hA I R hQ;induction dI R with|mk b aO=>?_
 exact wpAny_isTrue_Not (h hs hA I aO λs' k=>hQ s' k)
def vb(Y:IB)(w:Ja)(U:Iv)(n:HG)(sc:IH)(op:L1)(es:Hn HR)(m:ar->Hp Ig):Prop:=
 ∀{{A:Jh}} {{Hz:Hn Hv}} {{K:Ke}} {{ae:HM}} {{X C:Hn Hv}} {{L:ar}} {{O:Hn (HP×Hn Hv)}} {{s:HM}} {{v:Ig}} {{Q:Ig->HM->Prop}} {{E:HE->HM->Prop}},
  K.scope=sc->ey A n->InF Y w Hz U ae X K C L O s->m L=hb v->(∀s',I8 s s'->Q v s')->wpAny (Iq Y w) A (allTrue op es K) Q E s
theorem vb.amB:vb Y w U n sc .And [] (λ_=>hb Hq):=by intro A Hz K ae X C L O s v Q E hs hA I R hQ;(have e:=si R;subst e;clear R);exact wpAny_allTrue_And_nil (hQ s (aD s))
theorem vb.am8:vb Y w U n sc .Or [] (λ_=>hb HH):=by intro A Hz K ae X C L O s v Q E hs hA I R hQ;(have e:=si R;subst e;clear R);exact wpAny_allTrue_Or_nil (hQ s (aD s))
variable{es:Hn HR}
theorem vb.aiM{ms:ar->Hp Ig}(h:Tr Y w U n sc e m)(gy:vb Y w U n sc .And es ms):
  vb Y w U n sc .And (e::es) (λL=>do let b<-m L;if b then ms L else hb HH):=by
 intro A Hz K ae X C L O s v Q E hs hA I;refine ak λb aO R hQ=>wpAny_allTrue_And_cons (h hs hA I aO λay ah=>?_);clear h aO;cases b with
 |true=>exact gy hs hA (I.grow ah) R λs' k=>hQ s' (ab ah k)
 |false=>(have e:=si R;subst e;clear R);exact hQ ay ah
theorem vb.alZ{ms:ar->Hp Ig}(h:Tr Y w U n sc e m)(gy:vb Y w U n sc .Or es ms):
  vb Y w U n sc .Or (e::es) (λL=>do let b<-m L;if b then hb Hq else ms L):=by
 intro A Hz K ae X C L O s v Q E hs hA I;refine ak λb aO R hQ=>wpAny_allTrue_Or_cons (h hs hA I aO λay ah=>?_);clear h aO;cases b with
 |false=>exact gy hs hA (I.grow ah) R λs' k=>hQ s' (ab ah k)
 |true=>(have e:=si R;subst e;clear R);exact hQ ay ah
theorem Tr.all(h:vb Y w U n sc op es m):Tr Y w U n sc (.BoolOp op es pos) m:=by intro A Hz K ae X C L O s v Q E hs hA I R hQ;exact wpAny_isTrue_BoolOp (h hs hA I R hQ)
variable{m:ar->Hp V}
theorem Ev.not(h:Ev Y w U n sc e m):Ev Y w U n sc (.UnaryOp .Not e pos) (λL=>do let a<-m L;let b<-gY a.x;hb ⟨.bool (!b),.d⟩):=by intro A Hz K ae X C L O s v Q E hs hA I;refine ak λa ha=>ak λb aO R hQ=>?_;(have e:=si R;subst e;clear R);exact wpAny_UnaryOp (h hs hA I ha λu ay ah aL=>not_value (nD aO aL λs' k=>hQ _ s' (ab ah k) dK.bool))
theorem Ev.neg(h:Ev Y w U n sc e m):Ev Y w U n sc (.UnaryOp .USub e pos) (λL=>do let a<-m L;match a.x with|.int i=>hb ⟨.int (-i),.d⟩|_=>Hu):=by
 intro A Hz K ae X C L O s v Q E hs hA I;refine ak λa ha R hQ=>wpAny_UnaryOp (h hs hA I ha λu ay ah aL=>?_);obtain⟨ax,af⟩:=a;obtain⟨as,ra,_⟩:=aL;simp only at R ra;split at R
 ·have e:=si R;subst e;clear R;have H:=ra.dS;clear ra;induction H with|mk t=>?_;exact P.neg_int (hQ _ _ (ab ah (aK ay _)) dK.int)
 ·exact no R
variable{mt:ar->Hp Ig}
theorem Ev.ite{t:HR}{pos:J3}{mb mo:ar->Hp V}(ht:Tr Y w U n sc t mt)(h1:Ev Y w U n sc b mb)(h2:Ev Y w U n sc o mo):
  Ev Y w U n sc (.IfExp t b o pos) (λL=>do let c<-mt L;if c then mb L else mo L):=by
 intro A Hz K ae X C L O s v Q E hs hA I;refine ak λc hc R hQ=>wpAny_IfExp (ht hs hA I hc λay ah=>?_);clear ht pos t hc;induction c with
 |true=>exact h1 hs hA (I.grow ah) R λu s' k r=>hQ u s' (ab ah k) r
 |false=>exact h2 hs hA (I.grow ah) R λu s' k r=>hQ u s' (ab ah k) r
theorem rL.nil:rL Y w U n sc [] (λ_=>hb []):=by intro A Hz K ae X C L O s vs pos Q E hs hA I R hQ;(have e:=si R;subst e;clear R);exact LM (hQ [] s (aD s) .nil)
variable{ms:ar->Hp (Hn V)}
theorem rL.cons(h:Ev Y w U n sc e m)(gy:rL Y w U n sc es ms)
  (he:∀K,Ie (e::es) K=(HH,Jf e K)::Ie es K):
  rL Y w U n sc (e::es) (λL=>do let a<-m L;let as<-ms L;hb (a::as)):=by
 intro A Hz K ae X C L O s vs pos Q E hs hA I;refine ak λa ha=>ak λas has R hQ=>?_;have e:=si R;subst e;clear R;refine Kt (h hs hA I ha λu ay ah aL=>gy hs hA (I.grow ah) has λus aN aI cY=>?_) (he _);exact hQ _ _ (ab ah aI) (.cons (aL.grow (ag aI)) cY)
noncomputable def lF(vs:Hn V):Fl:=vs.foldr (λv f=>v.fl.join f) .d
def aoa(Y:IB)(w:Ja)(Hz:Hn Hv)(ae:Iv)(W:Hn Hv)(h:Iv)(us:Hn HE):Hn V->Prop
 |[]=>us=[]
 |v::vs=>∃u EA,us=u::EA/\dK Y w Hz ae W h u v/\hY Y w Hz ae W h EA vs
variable{us:Hn HE}{vs:Hn V}
theorem hY.head(r:hY Y w Hz ae W h us vs):aoa Y w Hz ae W h us vs:=r.casesOn rfl λa b=>⟨_,_,rfl,a,b⟩
theorem hY.iO(r:hY Y w Hz ae W h us [v]):∃u,us=[u]/\dK Y w Hz ae W h u v:=by obtain⟨u,_,e,a,b⟩:=r.head;exact i12 u (e.trans (HL _ b.head)) a
theorem hY.yw(r:hY Y w Hz ae W h us vs):∃as,bH Y w Hz h us (vs.map (·.x)) as/\fw (vs.map (·.x))=Hq/\da ae W (lF vs) as:=by
 induction r with
 |nil=>exact rM ([]) .nil rfl da.nil
 |cons a _ ih=>refine kK ih λas r c o=>?_;obtain⟨bs,r',c',o'⟩:=a;refine rM (bs++as) (.cons r' r) (by simp[fw,c,c']) ?_;simp only[lF,List.foldr_cons];exact da.append o'.v9 o.vU
theorem hY.length(r:hY Y w Hz ae W h us vs):us.length=vs.length:=by
 induction r with
 |nil=>rfl
 |cons _ _ ih=>simp[ih]
theorem Ev.list(h:rL Y w U n sc es ms):
  Ev Y w U n sc (.List es pos) (λL=>do let vs<-ms L;if vs.length<=sizeLine then hb (V.eL (vs.map (·.x)) (lF vs))else Hu):=by
 intro A Hz K ae X C L O s v Q E hs hA I;refine ak λvs ni=>jl λhz R hQ=>?_
 ·have e:=si R;subst e;clear R;refine OL (h hs hA I ni λus ay ah aL=>⟨by exact aL.length.symm▸hz,?_⟩);exact kK aL.yw λas r c o=>hQ _ _ (ab ah (bE _ _)) ((I.grow ah).eL r (aV.mpr ⟨by simpa using hz,c⟩) o)
theorem Ev.tuple(h:rL Y w U n sc es ms):
  Ev Y w U n sc (.Tuple es k pos) (λL=>do let vs<-ms L;if vs.length<=sizeLine then hb (V.fix (.tuple (vs.map (·.x))) (lF vs))else Hu):=by
 intro A Hz K ae X C L O s v Q E hs hA I;refine ak λvs ni=>jl λhz R hQ=>?_
 ·have e:=si R;subst e;clear R;refine wpAny_Tuple (h hs hA I ni λus ay ah aL=>⟨by exact aL.length.symm▸hz,?_⟩);exact kK aL.yw λas r c o=>hQ _ _ (ab ah (bE _ _)) ((I.grow ah).aoy r (dk.mpr ⟨by simpa using hz,c⟩) o)
variable{α:Type}
noncomputable def eZ(B:Hn α)(k:HI):Hp α:=if 0<=k then B[k.toNat]?else if-(B.length:HI)<=k then B[(k+B.length).toNat]?else Hu
theorem RD.aca(r:RD Y w Hz h fb (.dict ps) as)(e:atKey Bp ps=hb x):dQ ps=Hq:=r.head.2.1 _ _ e
noncomputable def cD:Ho->Hp HI
 |.int k=>hb k
 |_=>Hu
variable{k:HI}
theorem bJ(h:cD x=hb k):x=.int k:=by
 cases x with
 |int i=>(have e:=si h;subst e;clear h);rfl
 |_=>exact no h
def ec(x y:Ho):Hp Ho:=match x with
 |.list B=>(cD y).bind λk=>eZ B k
 |.tuple B=>(cD y).bind λk=>eZ B k
 |.str x=>(cD y).bind λk=>(eZ x.cps.toList k).map λc=>.str ⟨#[c]⟩
 |.dict aW=>(fW y).bind λk=>atKey k aW
 |_=>Hu
theorem qF{B:Hn α}{x:α}(h:eZ B k=hb x): -(B.length:HI)<=k/\k<B.length/\∃i,NC k B.length=hb i/\B[i]? =hb x:=by
 unfold eZ at h;unfold NC;split at h
 ·rename_i hk;have:=(H2.mp h).1;refine⟨HY (Int.neg_nonpos_of_nonneg (H3 _)) hk,Int.lt_of_toNat_lt this,k.toNat,?_,h⟩;simp only[show¬k<0 by exact MQ hk,K8];simp only[show(0<=k/\k<(B.length:HI)) by exact⟨hk,(Lk hk).mp this⟩];rfl
 ·split at h
  ·rename_i hk EG;have:=(H2.mp h).1;refine⟨Rh.mpr EG,IJ (Mx.mp hk) (H3 _),(k+B.length).toNat,?_,h⟩;simp only[show k<0 by exact PT hk,MU];simp only[show(0<=k+(B.length:HI)/\k+(B.length:HI)<(B.length:HI)) by exact⟨O4 EG|>λh=>O5 _ _▸h,IJ (Int.add_lt_add_right (Mx.mp hk) _) (OJ (NL _))⟩];rfl
  ·exact no h
variable{i:HG}
theorem aed(hk:0<=k)(h:NC k n=hb i):i=k.toNat:=by unfold NC at h;rw[Ir (Kq.mpr hk)]at h;revert h;exact jl λ_ h=>(si h).symm
theorem aem(hk:¬0<=k)(h:NC k n=hb i):i=(k+n).toNat:=by unfold NC at h;rw[H5 (Mx.mp hk)]at h;revert h;exact jl λ_ h=>(si h).symm
theorem tg(h:fw B=Hq)(e:B[i]? =hb x):wf x=Hq:=(cN B).mp h x (Il e)
variable{ks:Hn (HP×HE)}{k:HP}
theorem aap{p:HP×HE}(h:p.1=k):K2 (p::ks) k=hb p.2:=by unfold K2;(refine Lx.symm▸?_;refine(show decide (p.1=k)=Hq from Ip h).symm▸?_);rfl
theorem aag{p:HP×HE}(h:¬p.1=k):K2 (p::ks) k=K2 ks k:=by unfold K2;(refine Lx.symm▸?_;exact(show decide (p.1=k)=HH from Iw h).symm▸rfl)
theorem adq{h:Iv}:∀{ys:Hn (HP×Ho)}{cs:Hn Hv},ks.map (·.1)=ys.map (·.1)->bH Y w Hz h (ks.map (·.2)) (ys.map (·.2)) cs->
  (∀x,atKey k (ys.map λp=>(.str p.1,p.2))=hb x->∃v ds,K2 ks k=hb v/\RD Y w Hz h v x ds/\(∀d∈ds,d∈cs)/\∃q∈ys,q.2=x)/\
  (atKey k (ys.map λp=>(.str p.1,p.2))=Hu->K2 ks k=Hu):=by
 induction ks with
 |nil=>
  intro ys cs e _;induction ys with
  |nil=>exact⟨λx h=>(nomatch h),λ_=>rfl⟩
  |cons q ys=>cases e
 |cons p ks ih=>
  intro ys cs e r;cases ys with
  |nil=>cases e
  |cons q ys=>
   obtain⟨e0,e1⟩:=IP e;obtain⟨as,bs,rfl,r1,r2⟩:=r.cons_inv;obtain⟨i1,i2⟩:=ih e1 r2;show(∀x,(if q.1=k then hb q.2 else atKey k (ys.map λp=>(.str p.1,p.2)))=hb x->_)/\((if q.1=k then hb q.2 else atKey k (ys.map λp=>(.str p.1,p.2)))=Hu->_);by_cases hk:q.1=k
   ·refine(H5 hk).symm▸⟨λx h=>?_,λh=>(nomatch h)⟩;have e:=si h;subst e;clear h;exact⟨p.2,as,aap (e0.trans hk),r1,λd hd=>HF _ hd,q,.head _,rfl⟩
   ·refine(Ir hk).symm▸(aag λe=>hk (e0.symm.trans e)).symm▸?_;refine⟨λx h=>?_,i2⟩;obtain⟨v,ds,a,b,c,q',hq,d⟩:=i1 x h;exact⟨v,ds,a,b,λy hy=>Hx _ (c y hy),q',.tail _ hq,d⟩
theorem vy{ys:Hn (HP×Ho)}:∀{q:HP×Ho},x4 (ys.map λp=>(.str p.1,p.2))=Hq->q∈ys->wf q.2=Hq:=by
 induction ys with
 |nil=>intro q _ h;exact nomatch h
 |cons y ys bY=>
  intro q h hq;simp only[HS,x4,HU]at h;rcases Hw.mp hq with rfl|hq
  ·exact h.1.2
  ·exact bY h.2 hq
variable{s:HM}{A:Jh}{E:HE->HM->Prop}{Q:HE->HM->Prop}
theorem acP(h:ec a.x b.x=hb x)(aL:dK Y w Hz ae W s.heap ll a)(cY:dK Y w Hz ae W s.heap rI b)
  (hQ:∀u s',I8 s s'->dK Y w Hz ae W s'.heap u (V.fix x a.fl)->Q u s'):wpAny (Iq Y w) A (L2 ll rI) Q E s/\∃T id,s.TypeIs ll T/\Kw (.type T) "__getitem__"=pure (hb (.builtin id)):=by
 obtain⟨ax,af⟩:=a;obtain⟨bx,bf⟩:=b;obtain⟨as,ra,ca,oa⟩:=aL;obtain⟨bs,rb,cb,ob⟩:=cY;obtain hz:=ed;dsimp only at h ra rb ca cb oa ob hQ;clear cb ob;cases ax with
 |list B=>
  obtain⟨k,hk,h⟩:=ao h;obtain rfl:=bJ hk;induction rb.dS with|mk t=>?_
  induction ra.listI with|mk d us m ds a1 a2=>?_
  clear rb ra hk;rw[aV]at ca;have hl:=a2.length;obtain⟨l1,l2,i,hi,hx⟩:=qF h;obtain⟨v,cs,e1,e2,e3⟩:=a2.get hx;refine⟨?_,"list",_,⟨_,a1,rfl⟩,NM⟩;obtain fin:Q v s:=hQ v s (aD s) (dK.fixed e2 (tg ca.2 hx) (oa.mono λb U=>.tail _ (e3 b U)));clear hQ e2 e3 oa h hx;by_cases hk:0<=k
  ·refine N1 ⟨_,a1,rfl,_,rfl⟩ hk (M3 l2 (xP ca.1 hz)) ?_ fin;exact JJ.trans (aed hk hi▸e1)
  ·refine wpAny_getItem_list_neg ⟨_,a1,rfl,_,rfl⟩ (PT hk) (by simp;exact OM (HL Neg.neg (HL Nat.cast hl)) l1) (HY (Ol (IZ (xP ca.1 hz))) l1) ?_ fin;refine JJ.trans ?_;rw[Jd,hl];exact aem hk hi▸e1
 |tuple B=>
  obtain⟨k,hk,h⟩:=ao h;obtain rfl:=bJ hk;induction rb.dS with|mk t=>?_
  induction ra.tupI with|mk d us m a1 az a2=>?_
  clear rb ra hk;rw[dk]at ca;obtain⟨l1,l2,i,hi,hx⟩:=qF h;obtain⟨v,cs,e1,e2,e3⟩:=a2.get hx;refine⟨?_,"tuple",_,⟨_,a1,rfl⟩,F.slot_tuple_getitem.lookup⟩;refine P.getItem_tuple a1 (HY (Ol (IZ (xP ca.1 hz))) l1) (M3 l2 (xP ca.1 hz)) (k:=i) (by rw[Jd,a2.length];exact hi) (JJ.trans e1) ?_;exact hQ v s (aD s) (dK.fixed e2 (tg ca.2 hx) (oa.mono e3))
 |str x=>
  obtain⟨k,hk,h⟩:=ao h;obtain rfl:=bJ hk;induction dI h with|mk c hc=>?_
  induction rb.dS with|mk t=>?_
  induction ra.ig with|mk t'=>?_
  clear rb ra hk;rw[iD]at ca;obtain⟨l1,l2,i,hi,hx⟩:=qF hc;have a8:x.cps.toList.length=x.length:=Jd;rw[a8]at l1 l2 hi;refine⟨?_,"str",_,Ql s _ _,PU.lookup⟩;have:=ca.2;refine P.getItem_str (c:=c) ?_ (by refine hi.symm▸?_;simpa using hx) (hQ _ _ (aK s _) (dK.fixed (.str _ _) (iD.mpr ⟨?_,by show 1<=sizeLine;decide⟩) da.nil))
  ·refine(Iw (Kq.mpr (HY (Ol (IZ (xP ca.2 hz))) l1))).symm▸(Iw (Mx.mpr (M3 l2 (xP ca.2 hz)))).symm▸?_;rfl
  ·have:=ca.1;unfold Ki at this⊢;obtain hU:c∈x.cps:=by have:=Il hx;simpa using this
   have:=Mn.mp this c hU;simpa using this
 |dict aW=>
  obtain⟨k,hk,h⟩:=ao h;obtain rfl:=dg hk;induction rb.ig with|mk t=>?_
  induction ra.nK (ra.aca h)with|mk d ks ys es b1 b2 b3 b4=>?_
  clear rb ra hk;obtain⟨v,ds,g1,g2,g3,q,g4,rfl⟩:=(adq b3 b4).1 x h;have pZ:wf q.2=Hq:=by simp only[wf,HU]at ca;exact vy ca.2 g4
  refine⟨?_,"dict",_,b1.typeIs,Ob.lookup⟩;exact Om (ly _ _) b1.mapOf g1 (hQ _ _ (aK s _) (dK.fixed g2 pZ (oa.mono λd hd=>.tail _ (g3 d hd))))
 |_=>exact no h
theorem Ev.idx{mi:ar->Hp V}(h:Ev Y w U n sc e m)(hi:Ev Y w U n sc BY mi)(gy:∀o j,∃jw,Lp BY HH o j=Nh jw (L2 o j)):
  Ev Y w U n sc (.Subscript e BY pos) (λL=>do let a<-m L;let b<-mi L;let x<-ec a.x b.x;hb (V.fix x a.fl)):=by
 intro A Hz K ae X C L O s v Q E hs hA I;refine ak λa ha=>ak λb aO=>ak λx hx R hQ=>?_;have e:=si R;subst e;clear R;refine PyProof.Rows.Subscript_ (h hs hA I ha λu ay ah aL=>hi hs hA (I.grow ah) aO λu' aN aI cY=>?_);obtain⟨g,T,id,hT,hl⟩:=acP (A:=A) (E:=E) (Q:=Q) hx (aL.grow (ag aI)) cY λu s' k r=>hQ u s' (ab ah (ab aI k)) r;obtain⟨jw,e⟩:=gy u u';exact PyProof.Rows.tail_any hT hl g e
def Pt(Y:IB)(w:Ja)(U:Iv)(n:HG)(sc:IH)(e:Hp HR)(m:ar->Hp (Hp HI)):Prop:=
 ∀{{A:Jh}} {{Hz:Hn Hv}} {{K:Ke}} {{ae:HM}} {{X C:Hn Hv}} {{L:ar}} {{O:Hn (HP×Hn Hv)}} {{s:HM}} {{v:Hp HI}} {{Q:HE->HM->Prop}} {{E:HE->HM->Prop}},
  K.scope=sc->ey A n->InF Y w Hz U ae X K C L O s->m L=hb v->(∀p s',I8 s s'->p.map (·.1)=v->Q (KH p) s')->wpAny (Iq Y w) A (evalPart e K) Q E s
theorem Pt.no:Pt Y w U n sc Hu (λ_=>hb Hu):=by intro A Hz K ae X C L O s v Q E hs hA I R hQ;(have e:=si R;subst e;clear R);exact HV (hQ Hu s (aD s) rfl)
theorem Pt.yes(h:Ev Y w U n sc e m):Pt Y w U n sc (hb e) (λL=>do let a<-m L;match a.x with|.int i=>hb (hb i)|_=>Hu):=by
 intro A Hz K ae X C L O s v Q E hs hA I;refine ak λz0 ha R hQ=>?_;obtain⟨ax,af⟩:=z0;dsimp only[evalPart_some];refine h hs hA I ha λu s' k r=>?_;obtain⟨as,ra,_⟩:=r;simp only at R ra;split at R
 ·have e:=si R;subst e;clear R;have H:=ra.dS;clear ra;induction H with|mk t=>?_;exact hQ (hb (_,_)) s' k rfl
 ·cases R
noncomputable def de(lo hi st:Hp HI)(k:HG):Hn HG:=ON (Jr lo hi st k).1 (Jr lo hi st k).2.1 (Jr lo hi st k).2.2
def kr(lo hi st:Hp HI):Ho->Hp Ho
 |.list B=>if st=hb 0 then Hu else hb (.list ((de lo hi st B.length).filterMap (B[·]?)))
 |.str x=>if st.getD 1=0 then Hu else hb (.str (if st.getD 1=1/\(IQ lo hi (st.getD 1) x.length).length=x.length then x else⟨((IQ lo hi (st.getD 1) x.length).filterMap (x.cps[·]?)).toArray⟩))
 |_=>Hu
def e7(lo hi st:Hp HI)(a:V):Hp V:=(kr lo hi st a.x).map λx=>match x with
 |.list B=>V.eL B a.fl
 |x=>⟨x,.d⟩
inductive F3(lo hi st:Hp HI):Ho->Ho->Prop
 |list (B:Hn Ho) (h:¬st=hb 0):F3 lo hi st (.list B) (.list ((de lo hi st B.length).filterMap (B[·]?)))
 |str (x:HP) (h:¬st.getD 1=0):F3 lo hi st (.str x) (.str (if st.getD 1=1/\(IQ lo hi (st.getD 1) x.length).length=x.length then x else⟨((IQ lo hi (st.getD 1) x.length).filterMap (x.cps[·]?)).toArray⟩))
theorem ajd{lo hi st:Hp HI}(h:kr lo hi st x=hb y):F3 lo hi st x y:=by
 cases x with
 |list B=>exact if hc:st=hb 0 then no ((H5 hc).symm.trans h)else si ((Ir hc).symm.trans h)▸.list B hc
 |str x=>exact if hc:st.getD 1=0 then no ((H5 hc).symm.trans h)else si ((Ir hc).symm.trans h)▸.str x hc
 |_=>exact no h
theorem IsPart.of{p:Hp (HI×Pk)}{v:Hp HI}(h:p.map (·.1)=v):IsPart (KH p) v:=by
 subst h;induction p with
 |none=>exact .none
 |some p=>exact .int _ _
theorem acI(h:Ki gc=Hq)(is:Hn HG):Ki ⟨(is.filterMap (gc.cps[·]?)).toArray⟩=Hq:=by(refine List.all_toArray.trans ?_;rw[JM]);intro c hc;obtain⟨i,_,hi⟩:=Mq.mp hc;exact Mn.mp h c (Array.mem_of_getElem? hi)
theorem afr(h:fw B=Hq)(is:Hn HG):fw (is.filterMap (B[·]?))=Hq:=by rw[cN]at*;intro x hx;obtain⟨i,_,hi⟩:=Mq.mp hx;exact h x (Il hi)
theorem ab8(B:Hn HE)(ys:Hn α)(h:B.length=ys.length)(lo hi st:Hp HI):((de lo hi st ys.length).filterMap (ys[·]?)).length<=ys.length:=by
 have e:((de lo hi st ys.length).filterMap (ys[·]?)).length=((de lo hi st ys.length).filterMap (B[·]?)).length:=by
  generalize de lo hi st ys.length=l;induction l with
  |nil=>rfl
  |cons i l ih=>
   by_cases hi:i<ys.length
   ·simp[HQ hi,HQ (show i<B.length by exact Nv hi (id (PV h))),ih]
   ·simp[Jw (show ys.length<=i by exact JQ hi),Jw (show B.length<=i by exact h▸JH.mp hi),ih]
 have:=slicePick_size_le B.toArray lo hi st;simp only[QO,Jd,JJ]at this;refine e.symm▸h▸?_;exact this
section
variable{ae:HM}{X C:Hn Hv}{K:Ke}{L:ar}
set_option tactic.hygienic true in
theorem agU{l h st:Hp HI}{pl ph FX:Hp (HI×Pk)}(I:InF Y w Hz U ae X K C L O s)(e:e7 l h st a=hb v)(r:dK Y w Hz ae.heap (WW K C O) s.heap u a)
  (el:pl.map (·.1)=l)(eh:ph.map (·.1)=h)(est:FX.map (·.1)=st)(EM:s.heap.get? sl=hb {cls:=.type "slice",data:=.fields #[KH pl,KH ph,KH FX]})
  (hQ:∀u s',I8 s s'->dK Y w Hz ae.heap (WW K C O) s'.heap u v->Q u s'):wpAny (Iq Y w) A (L2 u (.ref sl)) Q E s/\∃T id,s.TypeIs u T/\Kw (.type T) "__getitem__"=pure (hb (.builtin id)):=by
 obtain⟨x,hx,hv⟩:=H6.mp e;obtain⟨ax,af⟩:=a;obtain⟨as,ra,ca,oa⟩:=r;simp only at*;induction ajd hx with
 |list B h0=>
   cases hv;obtain H:=ra.listI;induction H with|mk ad vs k bs a1 a2=>?_
   rw[aV]at ca;have hl:=a2.length;refine⟨?_,"list",_,⟨_,a1,rfl⟩,NM⟩;refine wpAny_getItem_list_slice ⟨_,a1,rfl,_,rfl⟩ ⟨_,EM,rfl,rfl⟩ (IsPart.of el) (IsPart.of eh) (IsPart.of est) h0 ?_ (by simp[hl];exact ca.1);obtain e2:QO vs.toArray l h st=((de l h st B.length).filterMap (vs[·]?)).toArray:=by simp only[QO,de,Jd,JJ,hl]
   refine e2.symm▸?_;obtain⟨cs,q,hq⟩:=a2.part (de l h st B.length);have:=ab8 vs B hl l h st;refine hQ _ _ (bE s _) (I.eL q (aV.mpr ⟨by have:=ca.1;exact Hs ‹_› ca.1,afr ca.2 _⟩) (oa.mono λb U=>.tail _ (hq b U)))
 |str x h0=>
   cases hv;have H:=ra.ig;clear ra;induction H with|mk t=>?_
   rw[iD]at ca;refine⟨?_,"str",_,Ql s _ _,PU.lookup⟩;obtain qu:(FX.map (·.1)).getD 1=st.getD 1:=Kx (HL _ est) _;refine wpAny_getItem_str_slice (l:=pl) (u:=ph) (st:=FX) ⟨_,EM,rfl,rfl⟩ (by refine qu.symm▸?_;simpa using h0) ?_;unfold sliceMade slicePicked;refine qu.symm▸el.symm▸eh.symm▸?_;by_cases hc:st.getD 1=1/\(IQ l h (st.getD 1) x.length).length=x.length
   ·have hU:(st.getD 1==1&&(IQ l h (st.getD 1) x.length).length==x.length)=Hq:=by simpa using hc
    refine(H5 hU).symm▸?_;rw[H5 hc]at hQ;exact hQ _ _ (aD s) (dK.str (iD.mpr ca))
   ·obtain hU:¬(st.getD 1==1&&(IQ l h (st.getD 1) x.length).length==x.length)=Hq:=by simpa using hc
    refine(Ir hU).symm▸?_;rw[Ir hc]at hQ;have a8:(⟨((IQ l h (st.getD 1) x.length).filterMap (x.cps[·]?)).toArray⟩:HP).length<=sizeLine:=by
     obtain q:=ab8 (List.replicate x.cps.toList.length MR) x.cps.toList List.length_replicate l h st;obtain e1:x.cps.toList.length=x.length:=Jd;rw[e1]at q;obtain e2:IQ l h (st.getD 1) x.length=de l h st x.length:=rfl;refine e2.symm▸?_;show(List.toArray _).size<=sizeLine;refine Jd.symm▸?_;obtain e3:(de l h st x.length).filterMap (x.cps.toList[·]?)=(de l h st x.length).filterMap (x.cps[·]?):=by simp
     refine e3▸?_;have:=ca.2;exact Hs q ca.2
    exact⟨a8,hQ _ _ (aK s _) (dK.str (iD.mpr ⟨acI ca.1 _,a8⟩))⟩
end
variable{p:J3}
theorem Ev.slice{lo hi st:Hp HR}{ml mh ms:ar->Hp (Hp HI)}(h:Ev Y w U n sc e m)(hl:Pt Y w U n sc lo ml)(hh:Pt Y w U n sc hi mh)(qu:Pt Y w U n sc st ms)
  (gy:∀o j,∃jw,Lp (.Slice lo hi st p) HH o j=Nh jw (L2 o j)):
  Ev Y w U n sc (.Subscript e (.Slice lo hi st p) pos) (λL=>do let a<-m L;let l<-ml L;let u<-mh L;let t<-ms L;e7 l u t a):=by
 intro A Hz K ae X C L O s v Q E hs hA I;refine ak λa ha=>ak λl zX=>ak λu DS=>ak λt ht' R hQ=>PyProof.Rows.Subscript_ (h hs hA I ha λAd ay ah aL=>PW (hl hs hA (I.grow ah) zX λyr aN aI uU=>hh hs hA ((I.grow ah).grow aI) DS λyl dN dO wt=>qu hs hA (((I.grow ah).grow aI).grow dO) ht' λAb jP yo Bv=>?_));obtain kk:=ab ah (ab aI (ab dO (ab yo (bE jP {cls:=.type "slice",data:=.fields #[KH yr,KH yl,KH Ab]}))));obtain⟨g,T,id,hT,hlk⟩:=agU (A:=A) (E:=E) (Q:=Q) (I.grow kk) R (aL.grow (ag (ab aI (ab dO (ab yo (bE jP {cls:=.type "slice",data:=.fields #[KH yr,KH yl,KH Ab]})))))) uU wt Bv (H7 _ rfl) λu s' k r=>hQ u s' (ab kk k) r;obtain⟨jw,e⟩:=gy Ad (.ref jP.heap.objs.size);exact PyProof.Rows.tail_any hT hlk g e
section
structure nq(Z W:Hn Hv)(h h':Iv):Prop where
 sub:∀a∈Z,a∈W
 same:∀b o,h.get? b=hb o->b∉Z->h'.get? b=hb o
 here:∀a∈Z,∃o,h'.get? a=hb o/\¬j0 o
variable{h':Iv}
theorem nq.off{Z:Hn Hv}(k:nq Z W h h')(ht:∀a∈W,∃o,h.get? a=hb o/\¬j0 o):Off W h h':=by
 intro b o e hc;refine k.same b o e λhz=>?_;rcases hc with hc|hc
 ·exact hc (k.sub b hz)
 ·refine aQ (ht b (k.sub b hz)) λo' e' q=>?_;rw[e]at e';have e:=si e';subst e;clear e';exact q hc
variable{u:HE}
theorem dK.off(k:Off W h h')(r:dK Y w Hz ae W h u v)(hf:v.fl=.d∨v.fl=.s):dK Y w Hz ae W h' u v:=by
 obtain⟨as,r,c,o⟩:=r;refine⟨as,r.off k ?_,c,o⟩;rcases hf with hf|hf<;>rw[hf]at o
 ·exactλa ha=>(o a ha).2
 ·exact o
variable{sp:Hn Hv}
theorem jM.off{Z:Hn Hv}(k:Off W h h')(k':∀b ob,h.get? b=hb ob->b∉Z->h'.get? b=hb ob)(r:jM Y w Hz ae W h u o sp)(hz:∀a∈sp,a∉Z):jM Y w Hz ae W h' u o sp:=by
 induction r with
 |lst a b c d=>exact .lst (k' _ _ a (hz _ (.head _))) (b.off k λx hx=>(d x hx).2) c d
 |lq a g=>exact .lq (a.kept λo e _ _=>k' _ o e (hz _ (.head _))) g
 |tree a b c e f=>exact .tree (a.off (W:=Z) (λb o e q=>q.elim (k' b o e) λt=>k b o e (.inr t)) hz) b c e f
theorem cH{β:Type}[BEq α][Pm α]{l:Hn (α×β)}{x:α}{y:β}(h:l.lookup x=hb y):(x,y)∈l:=by
 induction l with
 |nil=>exact no h
 |cons p l ih=>
  obtain⟨a,b⟩:=p;rw[HK]at h;split at h
  ·rename_i e;have e:=si h;subst e;clear h;exact(eq_of_beq e).symm▸.head _
  ·exact .tail _ (ih h)
variable{K:Ke}{C:Hn Hv}{x:HP}{a:Hv}
theorem cB(h:O.lookup x=hb sp)(ha:a∈sp):a∈WW K C O:=by refine I5 _ (Hx _ (IS.mpr ⟨(x,sp),cH h,ha⟩))
variable{ae:HM}{X:Hn Hv}{L:ar}
theorem InF.wrote(I:InF Y w Hz U ae X K C L O s){Z:Hn Hv}(k:nq Z (WW K C O) s.heap h'):
  fg Y Hz U h'/\(∀b o,ae.heap.get? b=hb o->b∉X->h'.get? b=hb o)/\(∀b o,ae.heap.get? b=hb o->∃o',h'.get? b=hb o')/\(∀a∈WW K C O,∃o,h'.get? a=hb o/\¬j0 o)/\Off (WW K C O) s.heap h':=by
 refine Er ⟨λz hz=>?_,I.base.lim,I.base.seer,I.base.tree,I.base.mods,λb o e=>k.same b o (I.base.grow b o e) λhz=>?_⟩ (λb o e hx=>k.same b o (I.keep b o e hx) λhz=>?_) (λb o e=>?_) (λa ha=>?_) (k.off I.cO)
 ·obtain⟨q,o,e,t⟩:=I.base.hide z hz;refine⟨q,o,k.same z o e (λz9=>?_),t⟩;refine aQ (I.cO z (k.sub z z9)) λo' e' nt=>?_;rw[e]at e';have e:=si e';subst e;clear e';exact nt t
 ·exact no (((I.bZ b (k.sub b hz)).1).symm.trans e)
 ·exact no (((I.bZ b (k.sub b hz)).2 hx).symm.trans e)
 ·by_cases hz:b∈Z
  ·exact aQ (k.here b hz) λo' e' o1=>u9 o' e'
  ·exact dz (I.alive b o e) λo' e'=>u9 o' (k.same b o' e' hz)
 ·by_cases hz:a∈Z
  ·exact k.here a hz
  ·exact aQ (I.cO a ha) λo e c=>i12 o (k.same a o e hz) c
theorem cj.wrote{Z:Hn Hv}(k:Off W h h')(k':∀b ob,h.get? b=hb ob->b∉Z->h'.get? b=hb ob)(r:cj Y w Hz iE W O h x u vv)(hz:∀sp,O.lookup x=hb sp->∀a∈sp,a∉Z):cj Y w Hz iE W O h' x u vv:=by
 induction vv with
 |val v=>exact gQ r.1 (r.2.off k r.1)
 |own o=>exact aQ r λsp e r=>i12 sp e (r.off k k' (hz sp e))
theorem fy(hn:(WW K C O).Nodup)(h:O.lookup x=hb sp)(ha:a∈sp):a≠K.locals/\a∉C:=by obtain R:a∈O.flatMap (·.2):=IS.mpr ⟨(x,sp),cH h,ha⟩;unfold WW at hn;rw[HZ,H8]at hn;refine⟨λe=>hn.1 (e▸Hx _ R),λhc=>hn.2.2.2 a hc a R rfl⟩
theorem du.Cz(I:du Y w Hz U ae X K C L O s){x:HP}{u:HE}{v:VV}{m:HP->Hp HE}{h':Iv}{tk:HG}(hk:K.kindOf x=hb .local)
  (EH:∀y vv,L y=hb vv->K.kindOf y=hb .local->∃u,m y=hb u/\cj Y w Hz ae.heap (WW K C O) O s.heap y u vv)
  (hn:h'.Ns K.locals (λy=>if y=x then hb u else m y))(hs:KS K.locals s.heap h')(r:cj Y w Hz ae.heap (WW K C O) O s.heap x u v):
  du Y w Hz U ae X K C (L.set x v) O {s with heap:=h',toks:=tk}:=by
 have aU:nq [K.locals] (WW K C O) s.heap h':=by refine⟨λa ha=>by exact(HB.mp ha).symm▸.head _,λb o e aO=>(hs.2 b (by simpa using aO)).trans e,λa ha=>?_⟩;refine(HB.mp ha).symm▸vc hn λo es ep ho hd o1=>i12 o ho (λ⟨vs,k,hc⟩=>?_);rw[hc]at hd;cases hd
 refine CP (I.toInF.wrote aU) λw1 w2 w3 w4 w5=>pQ I.same λh0 t0 e0=>?_;have gq:∀c∈C,c≠K.locals:=λc hc e=>by
  have:=I.b9;unfold WW at this;rw[HZ]at this;exact this.1 (e▸HF _ hc)
 refine⟨⟨⟨h',tk,e0▸rfl⟩,w1,w2,w3,w4,I.bZ,I.b9,I.kind,I.glob,I.jA,I.rU,⟨_,hn,λy vv e1 e2=>?_⟩,λy vv e1 e2=>?_⟩,I.fc,I.l9,λz c hc=>?_⟩
 ·obtain d4:=(eW _ _ _ _).symm.trans e1;by_cases hy:y=x
  ·clear hn e0 t0 h0 w4 w3 w2 w1;subst hy;rw[H5 rfl]at d4;have e:=si d4;subst e;clear d4;refine i12 u (H5 rfl) (r.wrote w5 aU.same λsp kZ a ha=>?_);simpa using(fy I.b9 kZ ha).1
  ·rw[Ir hy]at d4;refine aQ (EH y vv d4 e2) λu' a b=>i12 u' ((Ir λq=>hy q).trans a) (b.wrote w5 aU.same λsp kZ a ha=>?_);simpa using(fy I.b9 kZ ha).1
 ·obtain hy:y≠x:=λq=>by rw[q,hk]at e2;cases e2
  obtain d4:=(eW _ _ _ _).symm.trans e1;rw[Ir hy]at d4;refine j4 (I.cell y vv d4 e2) λc u' a b d=>aQ (I.fc y e2) λc' a' hU=>?_;rw[a]at a';have e:=si a';subst e;clear a';refine mD c u' a (b.sameBut hs (gq c hU)) (d.wrote w5 aU.same λsp kZ a ha=>?_);simpa using(fy I.b9 kZ ha).1
 ·obtain⟨q,v,hv⟩:=I.il z c hc;exact⟨q,v,hv.sameBut hs (gq c q)⟩
theorem du.setC(I:du Y w Hz U ae X K C L O s){tk:HG}(hk:K.kindOf x=hb .cell)(hc:K.cells.lookup x=hb c)
  (hn:h'.IsCell c (hb u))(hs:KS c s.heap h')(r:cj Y w Hz ae.heap (WW K C O) O s.heap x u fb):
  du Y w Hz U ae X K C (L.set x fb) O {s with heap:=h',toks:=tk}:=by
 have yn:c∈C:=by refine aQ (I.fc x hk) λc' a b=>?_;rw[hc]at a;have e:=si a;subst e;clear a;exact b
 have aU:nq [c] (WW K C O) s.heap h':=by refine⟨λa ha=>by exact(HB.mp ha).symm▸I5 _ (HF _ yn),λb o e aO=>(hs.2 b (by simpa using aO)).trans e,λa ha=>?_⟩;refine(HB.mp ha).symm▸aQ hn λo ho hd=>i12 o ho (λ⟨vs,k,q⟩=>?_);rw[q]at hd;cases hd
 refine CP (I.toInF.wrote aU) λw1 w2 w3 w4 w5=>pQ I.same λh0 t0 e0=>?_;have hL:K.locals≠c:=λe=>by
  have:=I.b9;unfold WW at this;rw[HZ]at this;exact this.1 (e▸HF _ yn)
 refine⟨⟨⟨h',tk,e0▸rfl⟩,w1,w2,w3,w4,I.bZ,I.b9,I.kind,I.glob,I.jA,I.rU,?_,λy vv e1 e2=>?_⟩,I.fc,I.l9,λz d hd=>?_⟩
 ·refine aQ I.ns λm R hv=>i12 m (R.sameBut hs hL) (λy vv e1 e2=>?_);obtain hy:y≠x:=λq=>by rw[q,hk]at e2;cases e2
  have d4:=(eW _ _ _ _).symm.trans e1;rw[Ir hy]at d4;refine aQ (hv y vv d4 e2) λu' a b=>i12 u' a (b.wrote w5 aU.same λsp kZ a ha=>?_);intro q;exact(fy I.b9 kZ ha).2 ((HB.mp q)▸yn)
 ·have d4:=(eW _ _ _ _).symm.trans e1;by_cases hy:y=x
  ·clear hk hL e1 e0 t0 h0 w4 w3 w2 w1;subst hy;rw[H5 rfl]at d4;have e:=si d4;subst e;clear d4;exact mD c u hc hn (r.wrote w5 aU.same λsp kZ a ha q=>(fy I.b9 kZ ha).2 ((HB.mp q)▸yn))
  ·rw[Ir hy]at d4;refine j4 (I.cell y vv d4 e2) λd u' a b e=>mD d u' a (b.sameBut hs (λq=>?_)) (e.wrote w5 aU.same λsp kZ a ha q=>?_)
   ·exact hy ((I.l9 _ _ _ (q▸a) hc))
   ·exact(fy I.b9 kZ ha).2 ((HB.mp q)▸yn)
 ·obtain⟨hq,fb,hv⟩:=I.il z d hd;refine gQ hq ?_;by_cases q:d=c
  ·exact u9 (hb u) (q▸hn)
  ·exact u9 fb (hv.sameBut hs q)
theorem du.store{Q:Nq->HM->Prop}(I:du Y w Hz U ae X K C L O s){v:VV}(hk:aA K.scope x=Hq)(r:cj Y w Hz ae.heap (WW K C O) O s.heap x u v)
  (hQ:∀s',du Y w Hz U ae X K C (L.set x v) O s'->Step s.heap s'.heap (WW K C O) (WW K C O)->Q () s'):wpAny (Iq Y w) A (Pn K x u) Q E s:=by
 simp only[aA,HU,JA,Ik]at hk;rcases hk.1 with hk|hk
 ·exact aQ I.ns λm R hv=>Nr hk R (λh' hn hs=>hQ _ (I.Cz hk hv hn hs r) ⟨λb o e aO=>(hs.2 b λq=>aO (q▸.head _)).trans e,λ_ h=>.inl h⟩) (by refine I.kind.symm▸?_;rfl)
 ·refine aQ (I.fc x hk) λc hc yn=>?_;obtain⟨_,aqs,ao6⟩:=I.il _ c hc;exact wpAny_storeName_cell I.kind hk hc ao6 λh' hn hs=>hQ _ (I.setC (tk:=s.toks) hk hc hn hs r) ⟨λb o e aO=>(hs.2 b λq=>aO (q▸I5 _ (HF _ yn))).trans e,λ_ h=>.inl h⟩
noncomputable def ar.del(L:ar)(x:HP):ar:=λy=>if y=x then Hu else L y
theorem nT(L:ar)(x:HP)(v:VV):(L.del x).set x v=L.set x v:=by funext y;by_cases h:y=x<;>simp[ar.del,eW,h]
theorem da.more(o:da iE W f as)(al:∀b∈as,∃ob,h.get? b=hb ob)(ha:h.get? a=Hu)(hW:∀b,b∈W'->b=a∨b∈W):da iE W' f as:=by
 obtain ne:∀b∈as,b≠a:=λb U e=>by
  refine dz (al b U) λob q=>?_;rw[e,ha]at q;exact no q
 induction f with
 |d=>exactλb U=>⟨(o b U).1,λhw=>(hW b hw).elim (ne b U) (o b U).2⟩
 |s=>exactλb U hw=>(hW b hw).elim (ne b U) (o b U)
 |t=>trivial
theorem cj.more(r:cj Y w Hz iE W O h nZ u vv)(ha:h.get? a=Hu)(hW:∀b,b∈W'->b=a∨b∈W)(hy:nZ≠x):
  cj Y w Hz iE W' ((x,[a])::O) h nZ u vv:=by
 induction vv with
 |val v=>obtain⟨f,as,r,c,o⟩:=r;exact⟨f,as,r,c,o.more r.alive ha hW⟩
 |own o=>
  obtain⟨sp,e,r⟩:=r;obtain EU:(nZ==x)=HH:=by simpa using hy
  refine i12 sp (by(refine HK.trans ?_;refine EU.symm▸?_);exact e) ?_;clear e;induction r with
  |lst a1 b c d=>exact .lst a1 b c (d.more b.alive ha hW)
  |lq a1 g=>exact .lq a1 g
  |tree a b c e f=>exact .tree a b c e f
theorem du.adr(I:du Y w Hz U ae X K C L O s)(x:HP)(ho:¬j0 o)(aoY:o.isFreed=HH):
  du Y w Hz U ae X K C (L.del x) ((x,[s.heap.objs.size])::O) {s with heap:=s.heap.push o}:=by
 have xn:s.heap.get? s.heap.objs.size=Hu:=aR _ (Io _);have hW:∀b,b∈WW K C ((x,[s.heap.objs.size])::O)->b=s.heap.objs.size∨b∈WW K C O:=by
  intro b aO;simp only[WW,IF,Hw,HD,Ia,Kv]at aO⊢;rcases aO with h|h|h|h
  ·exact .inr (.inl h)
  ·exact .inr (.inr (.inl h))
  ·exact .inl h
  ·exact .inr (.inr (.inr h))
 obtain g:=bA.push s.heap o;refine ew (I.toInF.fresh xn) λHc DU=>?_;obtain I':=I.grow (bE s o);refine⟨⟨I'.same,I'.base,I'.keep,I'.alive,λa ha=>?_,λa ha=>?_,?_,I.kind,I.glob,I.jA,I.rU,?_,λy vv e1 e2=>?_⟩,I.fc,I.l9,I'.il⟩
 ·rcases hW a ha with rfl|ha
  ·exact i12 o (H7 s.heap aoY) ho
  ·exact I'.cO a ha
 ·rcases hW a ha with rfl|ha
  ·refine gQ ?_ (λ_=>Hc);cases e:U.get? s.heap.objs.size with
   |none=>rfl
   |some o'=>exact no (xn.symm.trans (I.base.grow _ _ e))
  ·exact I.bZ a ha
 ·obtain q:(s.heap.objs.size::WW K C O).Nodup:=HZ.mpr ⟨DU,I.b9⟩;refine Nw ?_ q;unfold WW;exact IF.symm▸(O6 ..).trans (O7 _ PK.symm)
 ·refine aQ I.ns λm R hv=>i12 m (R.push o) (λy vv e1 e2=>?_);have d4:(if y=x then Hu else L y)=hb vv:=e1;by_cases hy:y=x
  ·rw[H5 hy]at d4;exact no d4
  ·rw[Ir hy]at d4;exact aQ (hv y vv d4 e2) λu a b=>i12 u a ((b.more xn hW hy).grow g)
 ·have d4:(if y=x then Hu else L y)=hb vv:=e1;by_cases hy:y=x
  ·rw[H5 hy]at d4;exact no d4
  ·rw[Ir hy]at d4;exact j4 (I.cell y vv d4 e2) λc u a b d=>mD c u a (et b g) ((d.more xn hW hy).grow g)
theorem abb{o:PR}(x:HP):Step s.heap (s.heap.push o) (WW K C O) (WW K C ((x,[s.heap.objs.size])::O)):=by
 refine⟨λb ob e _=>HW o e,λb aO=>?_⟩;simp only[WW,IF,Hw,HD,Ia,Kv]at aO⊢;rcases aO with h|h|h|h
 ·exact .inl (.inl h)
 ·exact .inl (.inr (.inl h))
 ·exact .inr (h▸aR _ (Io _))
 ·exact .inl (.inr (.inr h))
end
section
variable{ae:HM}{X C:Hn Hv}{K:Ke}{L:ar}
theorem du.s9(I:du Y w Hz U ae X K C L O s){x:HP}{o o':E0}{a:Hv}{h':Iv}{tk:HG}(hx:L x=hb (.own o))(hO:O.lookup x=hb [a])(hs:KS a s.heap h')
  (ht:∃ob,h'.get? a=hb ob/\¬j0 ob)(Ea:∀u,jM Y w Hz ae.heap (WW K C O) s.heap u o [a]->Off (WW K C O) s.heap h'->jM Y w Hz ae.heap (WW K C O) h' u o' [a]):
  du Y w Hz U ae X K C (L.set x (.own o')) O {s with heap:=h',toks:=tk}:=by
 obtain FR:=cB hO (.head _);have aU:nq [a] (WW K C O) s.heap h':=
  ⟨λb aO=>by exact(HB.mp aO).symm▸FR,λb ob e aO=>(hs.2 b (by simpa using aO)).trans e,λb aO=>by exact(HB.mp aO).symm▸ht⟩
 refine CP (I.toInF.wrote aU) λw1 w2 w3 w4 w5=>pQ I.same λh0 t0 e0=>ew (fy I.b9 hO (a:=a) (.head _)) λhL hC=>?_;have other:∀y,y≠x->∀sp,O.lookup y=hb sp->∀b∈sp,b∉[a]:=by
  intro y hy sp kZ b aO hq;rw[HB]at hq;subst hq;obtain m1:=cH hO;obtain m2:=cH kZ;obtain nd:(O.flatMap (·.2)).Nodup:=by have:=I.b9;unfold WW at this;rw[HZ,H8]at this;exact this.2.2.1
  clear hO kZ aU w1 w2 w3 w4 w5 I ht Ea FR hx e0;clear o t0 h0;induction O with
  |nil=>cases m1
  |cons p O ih=>
   rw[IF,H8]at nd;rcases Hw.mp m1 with e1|m1<;>rcases Hw.mp m2 with e2|m2
   ·rw[<-e1]at e2;exact hy (HL ND e2)
   ·exact nd.2.2 b (by exact e1▸.head _) b (IS.mpr ⟨_,m2,aO⟩) rfl
   ·exact nd.2.2 b (by exact e2▸aO) b (IS.mpr ⟨_,m1,.head _⟩) rfl
   ·exact ih m1 m2 nd.2.1
 refine⟨⟨⟨h',tk,e0▸rfl⟩,w1,w2,w3,w4,I.bZ,I.b9,I.kind,I.glob,I.jA,I.rU,?_,λy vv e1 e2=>?_⟩,I.fc,I.l9,λz c hc=>?_⟩
 ·refine aQ I.ns λm R hv=>i12 m (R.sameBut hs (K9 hL)) (λy vv e1 e2=>?_);obtain d4:=(eW _ _ _ _).symm.trans e1;by_cases hy:y=x
  ·clear ht FR R hL e0 t0 h0 w4 w3 w2 w1;subst hy;rw[H5 rfl]at d4;have e:=si d4;subst e;clear d4;obtain⟨u,b,sp,d,r⟩:=hv y _ hx e2;rw[hO]at d;have e:=si d;subst e;clear d;exact⟨u,b,[a],hO,Ea u r w5⟩
  ·rw[Ir hy]at d4;exact aQ (hv y vv d4 e2) λu b r=>i12 u b (r.wrote w5 aU.same (other y hy))
 ·obtain d4:=(eW _ _ _ _).symm.trans e1;refine aQ (I.fc y e2) λc hc yn=>?_;obtain EF:c≠a:=λq=>hC (q▸yn);by_cases hy:y=x
  ·clear ht FR yn e1 hL e0 t0 h0 w4 w3 w2 w1;subst hy;rw[H5 rfl]at d4;have e:=si d4;subst e;clear d4;obtain⟨c',u,b1,b2,sp,d,r⟩:=I.cell y _ hx e2;rw[hc]at b1;have e:=si b1;subst e;clear b1;rw[hO]at d;have e:=si d;subst e;clear d;exact⟨c,u,hc,b2.sameBut hs EF,[a],hO,Ea u r w5⟩
  ·rw[Ir hy]at d4;refine j4 (I.cell y vv d4 e2) λc' u b1 b2 r=>?_;rw[hc]at b1;have e:=si b1;subst e;clear b1;exact mD c u hc (b2.sameBut hs EF) (r.wrote w5 aU.same (other y hy))
 ·obtain⟨q',v,hv⟩:=I.il z c hc;exact⟨q',v,hv.sameBut hs λq=>hC (q▸q')⟩
theorem InF.agx(I:InF Y w Hz U ae X K C L O s)(hv:aA K.scope gc=Hq)(hx:L gc=hb (.own o))
  (hQ:∀u sp,O.lookup gc=hb sp->jM Y w Hz ae.heap (WW K C O) s.heap u o sp->Q u s):wpAny (Iq Y w) A (Jf (.Name gc pos) K) Q E s:=by
 simp only[aA,HU,JA,Ik,JI]at hv;obtain⟨hv,hd⟩:=hv;rcases hv with hv|hv
 ·obtain⟨m,yk,R⟩:=I.ns;obtain⟨u,hu,sp,e,r⟩:=R gc _ hx hv;exact MJ (Lo I.kind hv yk hu (hQ u sp e r)) hd
 ·obtain⟨c,u,hc,hu,sp,e,r⟩:=I.cell gc _ hx hv;exact MJ (MA I.kind hv hc hu (hQ u sp e r)) hd
theorem du.owned(I:du Y w Hz U ae X K C L O s){o:E0}{pos:J3}{A:Jh}{E:HE->HM->Prop}(hv:aA K.scope gc=Hq)(hx:L gc=hb (.own o))(ho:∀a d,o≠.tree a d)
  (hQ:∀a,O.lookup gc=hb [a]->jM Y w Hz ae.heap (WW K C O) s.heap (.ref a) o [a]->Q (.ref a) s):wpAny (Iq Y w) A (Jf (.Name gc pos) K) Q E s:=
 I.toInF.agx hv hx λu sp e r=>by
  clear hx hv E A pos I;induction r with
  |lst a b c d=>exact hQ _ e (.lst a b c d)
  |lq a g=>exact hQ _ e (.lq a g)
  |tree a b c _ _=>exact IG rfl (ho _ _)
end
def S1(Y:IB)(w:Ja)(U:Iv)(n:HG)(sc:IH)(st:IM)(m:ar->Hp Out):Prop:=
 ∀{{A:Jh}} {{Hz:Hn Hv}} {{K:Ke}} {{ae:HM}} {{X C:Hn Hv}} {{L:ar}} {{O:Hn (HP×Hn Hv)}} {{s:HM}} {{r:Out}} {{Q:Flow->HM->Prop}} {{E:HE->HM->Prop}},
  K.scope=sc->ey A n->du Y w Hz U ae X K C L O s->m L=hb r->Ends Y w Hz U ae X K C O s r Q->wpAny (Iq Y w) A (exec st K) Q E s
theorem St.nil:St Y w U n sc [] (λL=>hb (.next L)):=by intro A Hz K ae X C L O s r Q E hs hA I R hQ;(have e:=si R;subst e;clear R);exact OA (hQ O s I (Step.refl _ _))
noncomputable def xc(m:ar->Hp Out):Out->Hp Out
 |.next L=>m L
 |o=>hb o
theorem St.cons{st:IM}{m m':ar->Hp Out}(h:S1 Y w U n sc st m)(h':St Y w U n sc rest m'):St Y w U n sc (st::rest) (λL=>(m L).bind (xc m')):=by
 intro A Hz K ae X C L O s r Q E hs hA I;refine ak λo ho R hQ=>M8 (h hs hA I ho ?_);clear h st ho I L;induction o with
 |next ft=>exactλO s' I' t=>h' hs hA I' R (hQ.trans t)
 |brk ft=>(have e:=si R;subst e;clear R);exact hQ
 |cont ft=>(have e:=si R;subst e;clear R);exact hQ
 |ret x=>(have e:=si R;subst e;clear R);exact hQ
 |fR x ft=>(have e:=si R;subst e;clear R);exact hQ
theorem S1.pass:S1 Y w U n sc (.Pass pos) (λL=>hb (.next L)):=by intro A Hz K ae X C L O s r Q E hs hA I R hQ;(have e:=si R;subst e;clear R);exact wpAny_Pass (hQ O s I (Step.refl _ _))
noncomputable def uR(L:ar)(x:HP)(v:V):Hp Out:=match v.fl with
 |.t=>Hu
 |_=>hb (.next (L.set x (.val v)))
variable{L:ar}{x:HP}
set_option tactic.hygienic true in
theorem aeW{r:Out}(h:uR L x v=hb r):(v.fl=.d∨v.fl=.s)/\r=.next (L.set x (.val v)):=by
 obtain⟨a,f⟩:=v;cases f with
 |t=>exact no h
 |d=>exact⟨.inl rfl,(si h).symm⟩
 |s=>exact⟨.inr rfl,(si h).symm⟩
theorem S1.assign(h:Ev Y w U n sc e m)(hv:aA sc x=Hq)(iS:∀K:Ke,K.scope=sc->JU e (hb (.Name x p)) pos.line K=pure HH):
  S1 Y w U n sc (.Assign [.Name x p] e pos) (λL=>(m L).bind (uR L x)):=by
 intro A Hz K ae X C L O s r Q E hs hA I;refine ak λv k9 R hQ=>ew (aeW R) λhf o1=>?_;subst o1;refine Kk (h hs hA I.toInF k9 λu ay ah aL=>?_) (iS K hs);exact(I.grow ah).store (v:=.val v) (by exact hs.symm▸hv) ⟨hf,aL⟩ λs' I' t=>hQ O s' I' ((Step.cM (ag ah)).trans t)
noncomputable def Bk:V->Hp Out
 |⟨x,.d⟩=>hb (.ret x)
 |_=>Hu
theorem S1.ret(h:Ev Y w U n sc e m):S1 Y w U n sc (.Return (hb e) pos) (λL=>(m L).bind Bk):=by
 intro A Hz K ae X C L O s r Q E hs hA I;refine ak λv k9 R hQ=>?_;obtain⟨x,f⟩:=v;cases f with
 |d=>(have e:=si R;subst e;clear R);refine L3 (h hs hA I.toInF k9 λu ay ah aL=>?_);obtain⟨as,ra,ca,oa⟩:=aL;exact hQ u as O L ay (I.grow ah) ra ca λa ha=>.inr (oa a ha).1
 |_=>exact no R
set_option tactic.hygienic true in
theorem S1.ama{p pos:J3}(hv:aA sc x=Hq):S1 Y w U n sc (.Return (hb (.Name x p)) pos) (λL=>match L x with|some (.own (.lst B))=>hb (.ret (.list B))|_=>Hu):=by
 intro A Hz K ae X C L O s r Q E hs hA I R hQ;dsimp only at R;revert R;cases hx:L x with
 |none=>exactλR=>no R
 |some v=>cases v with
 |val _=>exactλR=>no R
 |own o=>cases o with
 |lst B=>
  intro R;have e:=si R;subst e;clear R hA;refine L3 (I.owned (by exact hs.symm▸hv) hx (λ_ _ q=>by cases q) λa hO r=>?_);clear hv pos p hx hs E A;induction r.AM with|mk vs k as a1 b c d=>?_
  refine hQ _ _ O L s I (.list a1 b) c λy hy=>?_;clear c b a1 hQ Q;rcases Hw.mp hy with rfl|hy
  ·by_cases hX:y∈X
   ·exact .inl hX
   ·exact .inr ((I.bZ y (cB hO (.head _))).2 hX)
  ·exact .inr (d y hy).1
 |_=>exactλR=>no R
theorem S1.aiJ:S1 Y w U n sc (.Return Hu pos) (λ_=>hb (.ret .none)):=by intro A Hz K ae X C L O s r Q E hs hA I R hQ;(have e:=si R;subst e;clear R);exact wpAny_Return_none (hQ .none [] O L s I .none rfl λ_ h=>nomatch h)
variable{mb:ar->Hp Out}
theorem S1.if{t:HR}{pos:J3}{mo:ar->Hp Out}(ht:Tr Y w U n sc t mt)(h1:St Y w U n sc b mb)(h2:St Y w U n sc o mo):
  S1 Y w U n sc (.If t b o pos) (λL=>(mt L).bind λc=>if c then mb L else mo L):=by
 intro A Hz K ae X C L O s r Q E hs hA I;refine ak λc hc R hQ=>wpAny_If (ht hs hA I.toInF hc λay ah=>?_);clear ht pos t hc;induction c with
 |true=>exact h1 hs hA (I.grow ah) R (hQ.trans (Step.cM (ag ah)))
 |false=>exact h2 hs hA (I.grow ah) R (hQ.trans (Step.cM (ag ah)))
theorem bw(vs:Hn HE)(k:HG):¬j0 (cq vs k):=by rintro⟨_,_,q⟩;have:=HL Obj.cls q;simp at this
theorem iq(h:o.cls=.type "dict"):¬j0 o:=by rintro⟨_,_,q⟩;have:=HL Obj.cls q;rw[h]at this;simp at this
variable{K:Ke}{a:Hv}{h':Iv}
theorem nJ(hO:O.lookup x=hb [a])(hs:KS a h h'):Step h h' (WW K C O) (WW K C O):=
 ⟨λb o e aO=>(hs.2 b λq=>aO (q▸cB hO (.head _))).trans e,λ_ h=>.inl h⟩
theorem S1.ah8(h:rL Y w U n sc es ms)(hv:aA sc x=Hq):
  S1 Y w U n sc (.Assign [.Name x p] (.List es lp) pos) (λL=>(ms L).bind λvs=>if vs.length<=sizeLine/\lF vs=.d then hb (.next (L.set x (.own (.lst (vs.map (·.x))))))else Hu):=by
 intro A Hz K ae X C L O s r Q E hs hA I;refine ak λvs ni=>jl λhz R hQ=>?_
 ·have e:=si R;subst e;clear R;refine Kk (OL (h hs hA I.toInF ni λus ay ah aL=>⟨by rw[aL.length];exact hz.1,?_⟩)) rfl;refine kK aL.yw λas r c o=>?_;rw[hz.2]at o;refine((I.grow ah).adr x (o:=cq us 0) (bw _ _) rfl).store (v:=.own (.lst (vs.map (·.x)))) (by rw[hs];exact hv) ⟨[ay.heap.objs.size],by rw[HK,Ih],?_⟩ λs' I' t=>hQ _ s' (by rw[<-nT];exact I') ((Step.cM (ag ah)).trans ((abb x).trans t));refine .lst (as:=as) (H7 _ rfl) (r.grow (bA.push _ _)) (aV.mpr ⟨by simpa using hz.1,c⟩) (o.more r.alive (aR _ (Io _)) λb aO=>?_);simp only[WW,IF,Hw,HD,Ia,Kv]at aO⊢;rcases aO with h|h|h|h
  ·exact .inr (.inl h)
  ·exact .inr (.inr (.inl h))
  ·exact .inl h
  ·exact .inr (.inr (.inr h))
theorem S1.ownDict{lp:J3}(hv:aA sc x=Hq):
  S1 Y w U n sc (.Assign [.Name x p] (.Dict [] [] lp) pos) (λL=>hb (.next (L.set x (.own (.lq []))))):=by
 intro A Hz K ae X C L O s r Q E hs hA I R hQ;have e:=si R;subst e;clear R;refine Kk (QP ?_) rfl;obtain wo:(s.heap.objs.size==Kd)=HH:=by refine dz I.base.mods λo ho=>?_;have:=II (I.base.grow _ _ ho);simpa using(KT this)
 refine(I.adr x (o:={cls:=.type "dict",data:=.dict #[]}) (iq rfl) rfl).store (v:=.own (.lq [])) (by rw[hs];exact hv) ⟨[s.heap.objs.size],by rw[HK,Ih],?_⟩ λs' I' t=>hQ _ s' (by rw[<-nT];exact I') ((abb x).trans t);exact .lq ⟨[],MB _,wo,.nil⟩ (by decide)
theorem gj(vs:Hn HE)(k:HG)(f:PX HE->PX HE):∃k',JB f (cq vs k)=cq (f vs.toArray).toList k':=⟨_,rfl⟩
variable{ap:J3}
set_option tactic.hygienic true in
theorem S1.append{cp:J3}(h:Ev Y w U n sc e m)(hv:aA sc x=Hq)(he:∀K,Ie [e] K=[(HH,Jf e K)])(hl:(ap.endLine==cp.line)=Hq)
  (hi:∀K:Ke,K.scope=sc->KJ K=HH):
  S1 Y w U n sc (.Expr (.Call (.Attribute (.Name x p) (HA "append") ap) [e] [] cp) pos)
   (λL=>match L x with|some (.own (.lst B))=>(m L).bind λv=>if v.fl=.d/\B.length+1<=sizeLine then hb (.next (L.set x (.own (.lst (B++[v.x])))))else Hu|_=>Hu):=by
 intro A Hz K ae X C L O s r Q E hs hA I R hQ;dsimp only at R;split at R
 ·rename_i B hx;obtain⟨v,k9,R⟩:=ao R;revert R;refine jl λhz R=>?_
  ·cases R;refine LP (J5 rfl (by rw[he];rfl) hl LY NN NO (I.owned (by rw[hs];exact hv) hx (λ_ _ q=>by cases q) λa hO r=>?_)) (hi K hs);induction r.AM with|mk vs k as a1 b c d=>?_
   refine l6 ⟨_,a1,rfl⟩ (λa' ea=>by cases ea;exact⟨_,a1,rfl⟩) ?_;rw[he];show wpAny _ _ (Lq cp (.builtin "list.append") [.ref a] [(HH,Jf e K)] []) _ _ _;refine OO (h hs hA I.toInF k9 λu ay ah aL=>?_);obtain D3:=ag ah _ _ a1;rw[aV]at c;refine mD vs.toArray k (by simp[b.length];exact c.1) D3<|dz (gj vs k (λB=>B.push u)) λk' ek=>?_;have hG:(ay.heap.update a (JB λB=>B.push u)).get? a=hb (cq (vs++[u]) k'):=by rw[Jb _ D3 rfl,ek];simp
   refine hQ O _ ((I.grow ah).s9 (tk:=ay.toks) hx hO (JL _ _ _) ⟨_,hG,bw _ _⟩ λu' r' off=>?_) ((Step.cM (ag ah)).trans (nJ hO (JL _ _ _)));obtain⟨bs,rv,cv,ov⟩:=aL;rw[hz.1]at ov;cases r' with
   |lst a2 b2 c2 d2=>
    refine .lst (as:=as++(bs++[])) hG (((b.grow (ag ah)).off off λy hy=>(d y hy).2).append (.cons (rv.off off λy hy=>(ov y hy).2) .nil)) (aV.mpr ⟨by simpa using hz.2,?_⟩) ?_
    ·rw[eI,c.2];simp[fw,cv]
    ·rw[IA];exact da.append d ov
 ·exact no R
noncomputable def nG(B:Hn (HI×HP))(k:HI)(v:HP):Hn (HI×HP):=if B.any (λp=>p.1=k)then B.map (λp=>if p.1=k then(p.1,v)else p)else B++[(k,v)]
variable{aW:Hn (HI×HE)}{B:Hn (HI×HP)}
theorem eF.any(h:eF aW B)(k:HI):aW.any (λp=>decide (p.1=k))=B.any (λp=>decide (p.1=k)):=by
 induction h with
 |nil=>rfl
 |cons _ _ _ _ ih=>exact HL (_||·) ih
theorem eF.len(h:eF aW B):aW.length=B.length:=by
 induction h with
 |nil=>rfl
 |cons _ _ _ _ ih=>exact HL (·+1) ih
variable{k:HI}{v:HP}{t:Pk}
theorem eF.over(h:eF aW B):eF (aW.map λp=>if p.1=k then(p.1,.str v t)else p) (B.map λp=>if p.1=k then(p.1,v)else p):=by
 induction h with
 |nil=>exact .nil
 |cons i x t _ ih=>
  rw[HS,HS];by_cases e:i=k
  ·rw[H5 e,H5 e];exact .cons _ _ _ ih
  ·rw[Ir e,Ir e];exact .cons _ _ _ ih
theorem eF.more(h:eF aW B):eF (aW++[(k,.str v t)]) (B++[(k,v)]):=by
 induction h with
 |nil=>exact .cons _ _ _ .nil
 |cons i x t _ ih=>exact .cons _ _ _ ih
theorem eF.put(h:eF aW B):eF (ML aW k (.str v t)) (nG B k v):=by
 unfold ML nG;rw[h.any k];cases B.any λp=>decide (p.1=k)with
 |true=>exact h.over
 |false=>exact h.more
theorem acX(B:Hn (HP×Ho)):x4 (B.map λp=>(.str p.1,p.2))=Hq↔∀p∈B,wf (.str p.1)=Hq/\wf p.2=Hq:=by
 induction B with
 |nil=>decide
 |cons p B bY=>simp[x4,bY]
theorem oQ{B:Hn (HP×Ho)}:wf (dictOf B)=Hq↔B.length<=sizeLine/\∀p∈B,wf (.str p.1)=Hq/\wf p.2=Hq:=by simp only[wf,dictOf,HU,Ik,Hr,acX]
theorem aiD(B:Hn (HI×HP)):x4 (B.map λp=>(.int p.1,.str p.2))=Hq↔∀p∈B,wf (.str p.2)=Hq:=by
 induction B with
 |nil=>exact⟨λ_ _ h=>(nomatch h),λ_=>rfl⟩
 |cons p B bY=>simp[x4,bY,show wf (.int p.1)=Hq from rfl]
theorem afq:wf (oh B)=Hq↔B.length<=sizeLine/\∀p∈B,wf (.str p.2)=Hq:=by
 rw[<-aiD];obtain h1:1<=sizeLine:=by decide
 simp[oh,wf,x4,h1]
theorem aiU(h:wf (oh B)=Hq)(hv:wf (.str v)=Hq)(hz:B.length+1<=sizeLine):wf (oh (nG B k v))=Hq:=by
 rw[afq]at h⊢;unfold nG;split
 ·refine⟨by rw[Hr];exact h.1,λp hp=>?_⟩;refine aQ (HX.mp hp) λq hq o1=>?_;subst o1;split
  ·exact hv
  ·exact h.2 q hq
 ·refine⟨by rw[HN];exact hz,λp hp=>?_⟩;rcases HD.mp hp with hp|hp
  ·exact h.2 p hp
  ·rw[HB.mp hp];exact hv
def um(o:Hp VV)(v k:V):Hp VV:=match o with
 |some (.own (.lq B))=>(cD k.x).bind λi=>(fW v.x).bind λt=>if B.length+1<=sizeLine then hb (.own (.lq (nG B i t)))else Hu
 |_=>Hu
inductive anW(v k:V):VV->VV->Prop
 |mk (B:Hn (HI×HP)) (i:HI) (t:HP) (hk:k.x=.int i) (hv:v.x=.str t) (hz:B.length+1<=sizeLine):anW v k (.own (.lq B)) (.own (.lq (nG B i t)))
theorem acM{o:Hp VV}(h:um o fb Bp=hb FG):∃y,o=hb y/\anW fb Bp y FG:=by
 cases o with
 |none=>exact no h
 |some y=>cases y with
  |val _=>exact no h
  |own y=>cases y with
   |lst _=>exact no h
   |tree _ _=>exact no h
   |lq B=>obtain⟨i,h1,h⟩:=ao h;obtain⟨t,h2,h⟩:=ao h;revert h;refine jl λhz h=>?_;rw[<-si h];exact i12 _ rfl (.mk B i t (bJ h1) (dg h2) hz)
theorem S1.akW{i e:HR}{np p pos:J3}{mi m:ar->Hp V}(hi:Ev Y w U n sc i mi)(h:Ev Y w U n sc e m)(hv:aA sc x=Hq)(iS:∀K:Ke,JU e (hb (.Subscript (.Name x np) i p)) pos.line K=pure HH):
  S1 Y w U n sc (.Assign [.Subscript (.Name x np) i p] e pos) (λL=>(m L).bind λv=>(mi L).bind λk=>(um (L x) v k).map λz=>.next (L.set x z)):=by
 intro A Hz K ae X C L O s r Q E hs hA I R hQ;obtain⟨⟨vx,vf⟩,k9,R⟩:=ao R;obtain⟨⟨kx,kf⟩,EG,R⟩:=ao R;refine aQ (H6.mp R) λz hz R=>?_;subst R;refine aQ (acM hz) λy hx H=>?_;clear hz;clear R;induction H with|mk aW key t e1 e2 hz=>?_
 dsimp only at e1 e2;clear y R z;subst e1 e2;refine Kr (h hs hA I.toInF k9 λu ay ah aL=>(I.grow ah).owned (by rw[hs];exact hv) hx (λ_ _ q=>by cases q) λa hO r=>hi hs hA (I.grow ah).toInF EG λku aN aI cY=>?_) (iS K);obtain gN:=(I.grow ah).grow aI;have r:=r.grow (ag aI);obtain⟨_,rk,_,_⟩:=cY;obtain H:=rk.dS;clear rk;induction H with|mk tk=>?_
 obtain⟨_,rv,cv,_⟩:=aL;obtain H:=rv.ig;clear rv;induction H with|mk tv=>?_
 clear iS hv h hi pos p np e i EG k9 ku u R I hA hs;obtain⟨a1,g⟩:=r.head _ rfl;obtain⟨aqn,a1,g1,b⟩:=a1;refine NP (knd:=intKind Y w) (intKind_is _ _ _ _) a1 (λh' qx gy=>?_) (by rw[b.len];exact NQ hz);obtain hG:∃ob,h'.get? a=hb ob/\¬j0 ob:=by exact vc qx λo es ep ho hx o1=>i12 o ho (iq hx.1)
 exact hQ O _ (gN.s9 hx hO gy hG λu' r' off=>by
  clear m mi tk hG gN a1 off hx hQ E Q r X A L;cases r' with|lq a2 g2=>exact .lq ⟨_,qx,g1,b.put⟩ (aiU g cv hz)) ((Step.cM (bA.trans (ag ah) (ag aI))).trans (nJ hO gy))
def fO(Hz:Hn Hv)(h h':Iv):Prop:=∀b o,h.get? b=hb o->(∀fs,o.data=.fields fs->∀T,o.cls≠.type T)->(b∈Hz->¬j0 o)->h'.get? b=hb o
theorem oM.cQ(k:fO Hz h h'){m:HP->Hp HE}(i:oM h a dx C m):oM h' a dx C m:=by obtain⟨o,h1,h2,h3,h4,h5,o',es,ep,g1,g2,g3⟩:=i;exact⟨o,k _ _ h1 (λ_ _ T e=>nomatch h2.symm.trans e) (λ_=>by rintro⟨vs,n,rfl⟩;cases h2),h2,h3,h4,h5,o',es,ep,k _ _ g1 (λfs e=>nomatch g2.symm.trans e) (λ_=>by rintro⟨vs,n,rfl⟩;cases g2),g2,g3⟩
theorem ik.cQ(k:fO Hz h h'){V:Hv}{x y:HI}(i:ik h V b db x y):ik h' V b db x y:=by obtain⟨m,t,u,i,r1,r2,r3⟩:=i;exact⟨m,t,u,i.cQ k,r1,r2,r3⟩
variable{vs:Hn HE}
theorem bj.cQ(k:fO Hz h h'){V hd:Hv}{m:HP->Hp HE}(i:bj Y w h a dx C V nh hd aJ jo vs m ks):bj Y w h' a dx C V nh hd aJ jo vs m ks:=
 {i with
  obj:=i.obj.cQ k
  dict:=by exact Au i.dict λo es ep ho q1 q2 q=>A3 o es ep (k _ _ ho (λ_ z=>nomatch q2.symm.trans z) (λ_=>iq q1.1)) q1 q2 q
  each:=λj b db x y e1 e2=>(i.each j b db x y e1 e2).cQ k}
theorem aaA(k:fO Hz h h'):(∀{v x as},RD Y w Hz h v x as->RD Y w Hz h' v x as)/\∀{vs B as},bH Y w Hz h vs B as->bH Y w Hz h' vs B as:=
 RD.both .none .bool .int .str (λa _ r=>.list (k _ _ a (λ_ q=>by cases q) λ_=>bw _ _) r) (λa z _ r=>.tuple (k _ _ a (λ_ q=>by cases q) λhz=>IG hz z) z r)
  (λq g e _ r=>.dict (by exact Au q λo es ep ho q1 q2 q=>A3 o es ep (k _ _ ho (λ_ z=>nomatch q2.symm.trans z) (λ_=>iq q1.1)) q1 q2 q) g e r) (λi=>.val (i.cQ k)) (λi _ r=>.store (i.cQ k) r) (λi q e n _ r=>.inst (i.cQ k) q e n r) (λi=>.num (i.kept λo e f t=>k _ o e (λfs z=>IG z (f fs)) λ_=>t)) .nil (λ_ _ a r=>.cons a r)
theorem RD.cQ(k:fO Hz h h')(r:RD Y w Hz h fb gc as):RD Y w Hz h' fb gc as:=(aaA k).1 r
variable{B:Hn Ho}
theorem bH.cQ(k:fO Hz h h')(r:bH Y w Hz h vs B as):bH Y w Hz h' vs B as:=(aaA k).2 r
variable{u:HE}
theorem dK.cQ(r:dK Y w Hz ae W h u fb)(k:fO Hz h h'):dK Y w Hz ae W h' u fb:=by obtain⟨as,r,c,f⟩:=r;exact⟨as,r.cQ k,c,f⟩
theorem cj.cQ(r:cj Y w Hz ae W O h x u fb)(k:fO Hz h h'):cj Y w Hz ae W O h' x u fb:=by
 cases fb with
 |val fb=>exact gQ r.1 (r.2.cQ k)
 |own o=>
  obtain⟨sp,kZ,r⟩:=r;refine i12 sp kZ ?_;clear kZ;induction r with
  |lst a b c d=>exact .lst (k _ _ a (λ_ q=>by cases q) λ_=>bw _ _) (b.cQ k) c d
  |lq a g=>exact .lq (a.kept λo e f t=>k _ o e (λfs z=>IG z (f fs)) λ_=>t) g
  |tree a b c e f=>exact .tree (a.cQ k) b c e f
variable{wr Zs:Hn Hv}
theorem fO.of(m9:∀b∈wr,b∉Zs->∃o fs T,h.get? b=hb o/\o.data=.fields fs/\o.cls=.type T)(ht:∀z∈Zs,∃o,h.get? z=hb o/\j0 o)(k:∀b o,b∉wr->h.get? b=hb o->h'.get? b=hb o):fO (Zs++Hz) h h':=by
 intro b o e hd hz;by_cases hw:b∈wr
 ·by_cases U:b∈Zs
  ·refine aQ (ht b U) λo' e' t=>?_;rw[e]at e';have e:=si e';subst e;clear e';exact IG t (hz (HF _ U))
  ·refine vc (m9 b hw U) λo' fs T e' d c=>?_;rw[e]at e';have e:=si e';subst e;clear e';exact IG c (hd fs d T)
 ·exact k b o hw e
section
variable{Hy:Hn Hv}
theorem cj.hide(r:cj Y w Hz ae W O h x u fb)(k:∀a o,h.get? a=hb o->a∉Hz->a∉Hy):cj Y w Hy ae W O h x u fb:=by
 cases fb with
 |val fb=>obtain⟨q,as,r,c,f⟩:=r;exact⟨q,as,(fA k).1 r,c,f⟩
 |own o=>
  obtain⟨sp,kZ,r⟩:=r;refine i12 sp kZ ?_;clear kZ;induction r with
  |lst a b c d=>exact .lst a ((fA k).2 b) c d
  |lq a g=>exact .lq a g
  |tree a b c e f=>exact .tree ((fA k).1 a) b c e f
variable{ae:HM}{X C:Hn Hv}
theorem InF.oP(I:InF Y w (Zs++Hz) U ae X K C L O s){tk:HG}(m9:∀b∈wr,b∉Zs->∃o fs T,s.heap.get? b=hb o/\o.data=.fields fs/\o.cls=.type T)(t9:∀b∈wr,U.get? b=Hu/\ae.heap.get? b=Hu/\b∉WW K C O)
  (k:∀b o,b∉wr->s.heap.get? b=hb o->h'.get? b=hb o)(hy:∀z∈Hy,z∈Zs++Hz)(G6:∀z∈Hy,z∈wr->∃o,h'.get? z=hb o/\j0 o):InF Y w Hy U ae X K C L O {s with heap:=h',toks:=tk}:=by
 have aU:fO (Zs++Hz) s.heap h':=fO.of m9 (λz hz=>(I.base.hide z (HF _ hz)).2) k;have D:∀a o,h'.get? a=hb o->a∉Zs++Hz->a∉Hy:=λa _ _ q z=>q (hy a z);refine pQ I.same λh0 t0 e0=>⟨⟨h',tk,e0▸rfl⟩,⟨λz hz=>?_,I.base.lim,I.base.seer,I.base.tree,I.base.mods,λb o e=>k b o (λhw=>?_) (I.base.grow b o e)⟩,λb o e hx=>k b o (λhw=>?_) (I.keep b o e hx),λb o e=>?_,λa ha=>?_,I.bZ,I.b9,I.kind,I.glob,I.jA,I.rU,?_,λx vv e1 e2=>?_⟩
 ·obtain⟨q,o,e,t⟩:=I.base.hide z (hy z hz);refine gQ q ?_;by_cases hw:z∈wr
  ·exact G6 z hz hw
  ·exact i12 o (k z o hw e) t
 ·exact no (((t9 b hw).1).symm.trans e)
 ·exact no (((t9 b hw).2.1).symm.trans e)
 ·exact dz (I.alive b o e) λo' e'=>u9 o' (k b o' (λhw=>no (((t9 b hw).2.1).symm.trans e)) e')
 ·exact aQ (I.cO a ha) λo e c=>i12 o (k a o (λhw=>(t9 a hw).2.2 ha) e) c
 ·refine aQ I.ns λm R hv=>i12 m ?_ (λx vv e1 e2=>?_)
  ·exact vc R λo es ep ho hd r=>zh o es ep (aU _ _ ho (λ_ z=>nomatch hd.symm.trans z) (λ_=>by rintro⟨vs,n,rfl⟩;cases hd)) hd r
  ·exact aQ (hv x vv e1 e2) λu a b=>i12 u a ((b.cQ aU).hide D)
 ·refine j4 (I.cell x vv e1 e2) λc u a o1 d=>?_;obtain⟨o,ho,hd⟩:=o1;exact mD c u a ⟨o,aU _ _ ho (λ_ z=>nomatch hd.symm.trans z) (λ_=>by rintro⟨vs,n,rfl⟩;cases hd),hd⟩ ((d.cQ aU).hide D)
theorem du.oP(I:du Y w (Zs++Hz) U ae X K C L O s){tk:HG}(m9:∀b∈wr,b∉Zs->∃o fs T,s.heap.get? b=hb o/\o.data=.fields fs/\o.cls=.type T)(t9:∀b∈wr,U.get? b=Hu/\ae.heap.get? b=Hu/\b∉WW K C O)
  (k:∀b o,b∉wr->s.heap.get? b=hb o->h'.get? b=hb o)(hy:∀z∈Hy,z∈Zs++Hz)(G6:∀z∈Hy,z∈wr->∃o,h'.get? z=hb o/\j0 o):du Y w Hy U ae X K C L O {s with heap:=h',toks:=tk}:=by
 refine⟨I.toInF.oP m9 t9 k hy G6,I.fc,I.l9,λz c hc=>?_⟩;obtain⟨q,v,o,ho,hd⟩:=I.il z c hc;exact⟨q,v,o,(fO.of (Hz:=Hz) m9 (λz hz=>(I.base.hide z (HF _ hz)).2) k) _ _ ho (λ_ z=>nomatch hd.symm.trans z) (λ_=>by rintro⟨vs,n,rfl⟩;cases hd),hd⟩
theorem InF.zC(I:InF Y w Hz U ae X K C L O s)(k:I8 s s')(hz:∀z∈Zs,s.heap.get? z=Hu)(ht:∀z∈Zs,∃o,s'.heap.get? z=hb o/\j0 o):InF Y w (Zs++Hz) U ae X K C L O s':=by
 have D:∀a o,s.heap.get? a=hb o->a∉Hz->a∉Zs++Hz:=λa o e q z=>(HD.mp z).elim (λz=>no ((hz a z).symm.trans e)) q;have J:=I.grow k;refine⟨J.same,⟨λz q=>?_,J.base.lim,J.base.seer,J.base.tree,J.base.mods,J.base.grow⟩,J.keep,J.alive,J.cO,J.bZ,J.b9,J.kind,J.glob,J.jA,J.rU,?_,λx vv e1 e2=>?_⟩
 ·rcases HD.mp q with q|q
  ·refine gQ ?_ (ht z q);cases e:U.get? z with
   |none=>rfl
   |some o=>have:=I.base.grow _ _ e;exact no ((hz z q).symm.trans this)
  ·exact J.base.hide z q
 ·exact aQ I.ns λm R hv=>i12 m (R.keeps (ag k)) (λx vv e1 e2=>aQ (hv x vv e1 e2) λu a b=>i12 u a ((b.hide D).grow (ag k)))
 ·exact j4 (I.cell x vv e1 e2) λc u a b d=>mD c u a (et b (ag k)) ((d.hide D).grow (ag k))
theorem du.zC(I:du Y w Hz U ae X K C L O s)(k:I8 s s')(hz:∀z∈Zs,s.heap.get? z=Hu)(ht:∀z∈Zs,∃o,s'.heap.get? z=hb o/\j0 o):du Y w (Zs++Hz) U ae X K C L O s':=
 ⟨I.toInF.zC k hz ht,I.fc,I.l9,λx c hc=>let⟨q,v,h⟩:=I.il x c hc;⟨q,v,et h (ag k)⟩⟩
theorem InF.pJ(J:InF Y w (Zs++Hz) U ae X K C L O s):InF Y w Hz U ae X K C L O s:=by
 have D:∀a o,s.heap.get? a=hb o->a∉Zs++Hz->a∉Hz:=λa _ _ q z=>q (Hx _ z);refine⟨J.same,⟨λz q=>J.base.hide z (Hx _ q),J.base.lim,J.base.seer,J.base.tree,J.base.mods,J.base.grow⟩,J.keep,J.alive,J.cO,J.bZ,J.b9,J.kind,J.glob,J.jA,J.rU,?_,λx vv e1 e2=>?_⟩
 ·exact aQ J.ns λm R hv=>i12 m R (λx vv e1 e2=>aQ (hv x vv e1 e2) λu a b=>i12 u a (b.hide D))
 ·exact j4 (J.cell x vv e1 e2) λc u a b d=>mD c u a b (d.hide D)
theorem du.pJ(J:du Y w (Zs++Hz) U ae X K C L O s):du Y w Hz U ae X K C L O s:=⟨J.toInF.pJ,J.fc,J.l9,J.il⟩
theorem Ends.hide{r:Out}{Q:Flow->HM->Prop}(h:Ends Y w Hz U ae X K C O s r Q):Ends Y w (Zs++Hz) U ae X K C O s r Q:=by
 induction r with
 |next L=>exactλuX jR I t=>h uX jR I.pJ t
 |brk L=>exactλuX jR I t=>h uX jR I.pJ t
 |cont L=>exactλuX jR I t=>h uX jR I.pJ t
 |ret x=>exactλu as O' L s' I r c f=>h u as O' L s' I.pJ ((fA λa _ _ q z=>q (Hx _ z)).1 r) c f
 |fR x L=>exactλu O' s' I r c=>h u O' s' I.pJ ((fA λa _ _ q z=>q (Hx _ z)).1 r) c
end
structure Stream(Y:IB)(w:Ja)(Hz:Hn Hv)(A:Jh)(gR:HR)(I:Hv)(F wr Zs:Hn Hv)(B:Hn Ho)(S:HG->Iv->Prop):Prop where
 frame:∀i h h' W,S i h->Off W h h'->(∀a∈F,a∉W)->(∀b∈wr,b∉W)->S i h'
 cQ:∀i h,S i h->∀b∈wr,b∉Zs->∃o fs T,h.get? b=hb o/\o.data=.fields fs/\o.cls=.type T
 pV:∀i h,S i h->∀z∈Zs,∃o,h.get? z=hb o/\j0 o
 sub:∀z∈Zs,z∈wr
 alive:∀i h,S i h->∀a∈F,∃o,h.get? a=hb o
 turn:∀i x(s:HM)(Q:HE->HM->Prop)(E:HE->HM->Prop),B[i]? =hb x->S i s.heap->(∀z∈Hz,∃o,s.heap.get? z=hb o)->
  (∀v as h' tk,RD Y w (Zs++Hz) h' v x as->(∀a∈as,a∈F)->S (i+1) h'->(∀b o,b∉wr->s.heap.get? b=hb o->h'.get? b=hb o)->Q v {s with heap:=h',toks:=tk})->
  wpAny (Iq Y w) A (Qm (.ref I)) (λr ay=>match r with|none=>Jg|some v=>wpAny (Iq Y w) A (OB gR (.ref I) v) (λ_ aN=>Q v aN) E ay) E s
 done:∀(s:HM)(Q:Hp HE->HM->Prop)(E:HE->HM->Prop),S B.length s.heap->
  (∀h' tk,(∀b o,b∉wr->s.heap.get? b=hb o->h'.get? b=hb o)->Q Hu {s with heap:=h',toks:=tk})->wpAny (Iq Y w) A (Qm (.ref I)) Q E s
 self:∀i(s:HM)(Q:HE->HM->Prop)(E:HE->HM->Prop),S i s.heap->Q (.ref I) s->wpAny (Iq Y w) A (Qn (.ref I)) Q E s
variable{gR:HR}{I:Hv}
theorem Stream.there{S:HG->Iv->Prop}(T:Stream Y w Hz A gR I F wr Zs B S)(st:S i h)(aO:b∈wr):∃o,h.get? b=hb o:=by
 by_cases hz:b∈Zs
 ·exact aQ (T.pV i h st b hz) λo e o1=>⟨o,e⟩
 ·exact uB (T.cQ i h st b aO hz) λo o1 o2 e o3=>⟨o,e⟩
def It(Y:IB)(w:Ja)(U:Iv)(n:HG)(sc:IH)(gR:HR)(e:HR)(m:ar->Hp (Hn Ho×Fl)):Prop:=
 (∀(K:Ke)x,MV e K x=pure x)/\
 ∀{{A:Jh}} {{Hz:Hn Hv}} {{K:Ke}} {{ae:HM}} {{X C:Hn Hv}} {{L:ar}} {{O:Hn (HP×Hn Hv)}} {{s:HM}} {{v:Hn Ho×Fl}} {{Q:HE->HM->Prop}} {{E:HE->HM->Prop}},
  K.scope=sc->ey A n->InF Y w Hz U ae X K C L O s->m L=hb v->
  (∀I F wr Zs S s',I8 s s'->Stream Y w Hz A gR I F wr Zs v.1 S->S 0 s'.heap->da ae.heap (WW K C O) v.2 F->fw v.1=Hq->v.1.length<=sizeLine->(∀b∈wr,s.heap.get? b=Hu)->Q (.ref I) s')->
  wpAny (Iq Y w) A (Jf e K) (λx ay=>wpAny (Iq Y w) A (Qn x) Q E ay) E s
def Tg(Y:IB)(w:Ja)(U:Iv)(sc:IH)(gR:HR)(m:V->ar->Hp ar):Prop:=
 ∀{{A:Jh}} {{Hz:Hn Hv}} {{K:Ke}} {{ae:HM}} {{X C:Hn Hv}} {{L ft:ar}} {{O:Hn (HP×Hn Hv)}} {{s:HM}} {{u:HE}} {{v:V}} {{Q:Nq->HM->Prop}} {{E:HE->HM->Prop}},
  K.scope=sc->A.handled=Hu->du Y w Hz U ae X K C L O s->dK Y w Hz ae.heap (WW K C O) s.heap u v->m v L=hb ft->
  (∀s',du Y w Hz U ae X K C ft O s'->Step s.heap s'.heap (WW K C O) (WW K C O)->Q () s')->wpAny (Iq Y w) A (assign gR K u) Q E s
noncomputable def rV(bind:V->ar->Hp ar)(body:ar->Hp Out)(f:Fl):Hn Ho->ar->Hp Out
 |[],L=>hb (.next L)
 |x::B,L=>(bind (V.fix x f) L).bind λjx=>(body jx).bind λo=>match o with
  |.next kh=>rV bind body f B kh
  |.cont kh=>rV bind body f B kh
  |.brk kh=>hb (.next kh)
  |.ret y=>hb (.ret y)
  |.fR y L=>hb (.fR y L)
theorem Step.off(k:Step h h' W W')(ht:∀a∈W,∃o,h.get? a=hb o/\¬j0 o):Off W h h':=by
 intro b o e hc;refine k.keep b o e λhw=>?_;rcases hc with hc|hc
 ·exact hc hw
 ·refine aQ (ht b hw) λo' e' q=>?_;rw[e]at e';have e:=si e';subst e;clear e';exact q hc
theorem qp(h:i<n):n+1-(i+1)<n+1-i:=Po (LQ h) (L4 i)
variable(Y w)in
inductive AK(Hz:Hn Hv)(U:Iv)(ae:HM)(X:Hn Hv)(K:Ke)(C W wr:Hn Hv)(eY:Iv)(S:HG->Iv->Prop)(bind:V->ar->Hp ar)(mb:ar->Hp Out)(f:Fl)(B:Hn Ho)(r:Out):HG->HM->Prop
 |mk (i:HG) (kh:ar) (jQ:Hn (HP×Hn Hv)) (aN:HM) (h1:i<=B.length) (h2:du Y w Hz U ae X K C kh jQ aN) (h3:∀b o,eY.get? b=hb o->b∉W->b∉wr->aN.heap.get? b=hb o) (h4:∀a∈WW K C jQ,a∈W∨eY.get? a=Hu) (h5:S i aN.heap) (h6:rV bind mb f (B.drop i) kh=hb r):AK Hz U ae X K C W wr eY S bind mb f B r (B.length+1-i) aN
variable{bind:V->ar->Hp ar}
theorem S1.for{body:Hn IM}{pos:J3}{m:ar->Hp (Hn Ho×Fl)}(hi:It Y w U n sc gR e m)(ht:Tg Y w U sc gR bind)(r9:St Y w U n sc body mb):
  S1 Y w U n sc (.For gR e body [] pos) (λL=>(m L).bind λv=>if v.2=.t then Hu else rV bind mb v.2 v.1 L):=by
 intro A Hz K ae X C L O s r Q E hs hA I;refine ak λz0 hv R hQ=>?_;obtain⟨B,f⟩:=z0;dsimp only at R;split at R
 ·exact no R
 rename_i hf;refine wpAny_For (hi.2 hs hA I.toInF hv λJ F wr Zs S ay ah T hS hF pZ a8 sZ=>?_) (hi.1 K);obtain gU:=I.zC ah (λz hz=>sZ z (T.sub z hz)) (T.pV 0 _ hS);obtain D7:∀a∈F,a∉WW K C O:=by
  clear hi pos a8 hv;induction f with
  |d=>exactλa ha=>(hF a ha).2
  |s=>exact hF
  |t=>exact IG rfl hf
 have r6:∀b∈wr,U.get? b=Hu/\ae.heap.get? b=Hu/\b∉WW K C O:=by
  intro b aO;obtain h0:=sZ b aO;refine ew (I.toInF.fresh h0) λf1 f2=>l6 ?_ f1 f2;clear hi pos a8 hf hv;cases e:U.get? b with
  |none=>rfl
  |some o=>exact no (h0.symm.trans (I.base.grow _ _ e))
 have s5:∀b∈wr,b∉Hz:=λb aO hz=>by
  obtain⟨_,o,e,_⟩:=I.base.hide b hz;exact no ((sZ b aO).symm.trans e)
 have step:∀{jQ:Hn (HP×Hn Hv)}{mq:Iv},(∀b o,ay.heap.get? b=hb o->b∉WW K C O->b∉wr->mq.get? b=hb o)->(∀a∈WW K C jQ,a∈WW K C O∨ay.heap.get? a=Hu)->Step s.heap mq (WW K C O) (WW K C jQ):=by
  intro jQ mq aU N;refine⟨λb o e hw=>aU b o (ag ah _ _ e) hw λhq=>?_,λa ha=>(N a ha).imp id λq=>?_⟩
  ·exact no ((sZ b hq).symm.trans e)
  ·clear hi pos N aU mq sZ a8 hf hv I;cases e:s.heap.get? a with
   |none=>rfl
   |some o=>exact no (q.symm.trans (ag ah _ _ e))
 refine codeAny_forLoop_any (AK Y w (Zs++Hz) U ae X K C (WW K C O) wr ay.heap S bind mb f B r) ?_ (B.length+1) (AK.mk 0 L O ay (JS _) gU (λ_ _ e _ _=>e) (λ_ h=>.inl h) hS R);rintro k aN ⟨i,kh,jQ,_,yE,gN,api,zY,xw,la⟩;have u4:∀b∈wr,b∉WW K C jQ:=by
  intro b aO hq;rcases zY b hq with q|q
  ·exact(r6 b aO).2.2 q
  ·exact dz (T.there hS aO) λo e=>no (q.symm.trans e)
 have wA:∀a∈F,a∉WW K C jQ:=by
  intro a ha hq;rcases zY a hq with q|q
  ·exact D7 a ha q
  ·exact dz (T.alive 0 _ hS a ha) λo e=>no (q.symm.trans e)
 have pa:∀b o,ay.heap.get? b=hb o->b∉WW K C O->b∉WW K C jQ:=λb o e hw hq=>(zY b hq).elim hw λq=>no (q.symm.trans e);by_cases kl:i<B.length
 ·obtain hx:=HQ kl;rw[J6 kl]at la;obtain⟨aoR,xI,jy⟩:=ao la;obtain⟨o,ho,nV⟩:=ao jy;refine Kf (T.turn i _ aN (λv dN=>wpAny (Iq Y w) A (PySem.assign gR K v) (λ_ jP=>wpAny (Iq Y w) A (execs body K) (λfl ir=>match fl with
      |.next|.cont=>∃m,m<B.length+1-i/\AK Y w (Zs++Hz) U ae X K C (WW K C O) wr ay.heap S bind mb f B r m ir
      |.brk=>Q .next ir
      |.ret v=>Q (.ret v) ir) (MW (Iq Y w) A K λe s'=>Qo (Iq Y w) A K E e s') jP) (MW (Iq Y w) A K λe s'=>Qo (Iq Y w) A K E e s') dN) (MW (Iq Y w) A K λe s'=>Qo (Iq Y w) A K E e s') hx xw (λz hz=>(gN.base.hide z (Hx _ hz)).2.imp λo h=>h.1) λv as h' tk rd has xH kp=>?_) (λrr dN m7=>?_) λ_ _ e=>e
  ·have qa:=gN.oP (Hy:=Zs++Hz) (tk:=tk) (T.cQ i _ xw) (λb aO=>⟨(r6 b aO).1,(r6 b aO).2.1,u4 b aO⟩) kp (λ_ q=>q) (λz hz hw=>(HD.mp hz).elim (T.pV _ _ xH z) λq=>IG q (s5 z hw));obtain rep:dK Y w (Zs++Hz) ae.heap (WW K C jQ) h' v (V.fix B[i] f):=by
    refine dK.fixed rd ((cN _).mp pZ _ (KM _)) ?_;clear hi pos hx D7 gU jy rd yE sZ a8 pZ hS ah hf R hv I E;induction f with
    |d=>exactλa ha=>⟨(hF a (has a ha)).1,wA a (has a ha)⟩
    |s=>exactλa ha=>wA a (has a ha)
    |t=>trivial
   refine ht hs hA.handled qa rep xI λjP uc so=>?_;have C7:=T.frame _ _ _ (WW K C jQ) xH (so.off qa.cO) wA u4;have t5:∀b o,ay.heap.get? b=hb o->b∉WW K C O->b∉wr->jP.heap.get? b=hb o:=λb o e hw hq=>so.keep b o (kp b o hq (api b o e hw hq)) (pa b o e hw);have fin:∀{t4:Hn (HP×Hn Hv)}{ir:HM},Step jP.heap ir.heap (WW K C jQ) (WW K C t4)->(∀b o,ay.heap.get? b=hb o->b∉WW K C O->b∉wr->ir.heap.get? b=hb o)/\(∀a∈WW K C t4,a∈WW K C O∨ay.heap.get? a=Hu):=by
    intro t4 ir sf;refine gQ (λb o e hw hq=>sf.keep b o (t5 b o e hw hq) (pa b o e hw)) (λa ha=>?_);rcases sf.new a ha with q|q
    ·exact zY a q
    ·by_cases hw:a∈WW K C O
     ·exact .inl hw
     ·refine .inr ?_;clear ht hi pos rep hx pa D7 gU jy xI so xH has rd as yE ha sZ a8 pZ hF hS ah hf R hv I E;cases e:ay.heap.get? a with
      |none=>rfl
      |some o=>
       by_cases hq:a∈wr
       ·exact dz (T.there C7 hq) λo' e'=>no (q.symm.trans e')
       ·exact no (q.symm.trans (t5 a o e hw hq))
   refine r9 hs hA uc ho ?_;clear r9 ht hi pos body t5 rep hx pa D7 gU ho jy xI so xH has rd as yE sZ a8 pZ hF hS ah hf R hv I hA hs E;induction o with
   |next xB=>intro t4 ir r8 sf;exact ew (fin sf) λf1 f2=>i12 _ (qp kl) (.mk (i+1) xB t4 ir kl r8 f1 f2 (T.frame _ _ _ (WW K C jQ) C7 (sf.off uc.cO) wA u4) nV)
   |cont xB=>intro t4 ir r8 sf;exact ew (fin sf) λf1 f2=>i12 _ (qp kl) (.mk (i+1) xB t4 ir kl r8 f1 f2 (T.frame _ _ _ (WW K C jQ) C7 (sf.off uc.cO) wA u4) nV)
   |brk xB=>(have e:=si nV;subst e;clear nV);intro t4 ir r8 sf;exact ew (fin sf) λf1 f2=>hQ t4 ir r8.pJ (step f1 f2)
   |ret y=>(have e:=si nV;subst e;clear nV);exact Ends.hide (r:=.ret y) hQ
   |fR y L=>(have e:=si nV;subst e;clear nV);exact Ends.hide (r:=.fR y L) hQ
  ·clear r9 ht hi pos hx pa wA D7 gU nV ho jy xI aoR yE sZ a8 pZ hF hS ah hf R hv I hA hs L;induction rr with
   |none=>exact m7.elim
   |some v=>exact m7
 ·have D8:=M7 yE (JH.mp kl);clear r9 ht hi pos pa wA D7 gU yE sZ a8 pZ hF hS ah hf R hv I hA hs L;subst D8;rw[KN]at la;have e:=si la;subst e;clear la;refine T.done aN _ _ xw λh' tk kp=>OA ?_;obtain qa:=gN.oP (Hy:=Hz) (tk:=tk) (T.cQ _ _ xw) (λb aO=>⟨(r6 b aO).1,(r6 b aO).2.1,u4 b aO⟩) kp (λ_ q=>Hx _ q) (λz hz hw=>IG hz (s5 z hw));exact hQ jQ _ qa (step (λb o e hw hq=>kp b o hq (api b o e hw hq)) zY)
variable{T:I2}
set_option backward.match.sparseCases true in
theorem lB{v:HE}{Q:Nq->HM->Prop}(ho:s.heap.get? I=hb o)(hc:o.cls=.type T)
  (hT:["enumerate","zip","dict_itemiterator","dict_reverseitemiterator","odict_iterator","itertools.zip_longest","itertools.pairwise"].contains T=HH)(h:Q () s):
  wpAny (Iq Y w) A (OB gR (.ref I) v) Q E s:=by
 have fin:wpAny (Iq Y w) A (match o.cls,o.data with
   |.type n,.fields vs=>(do
    let(.ref a):=v|return()
    if["enumerate","zip","dict_itemiterator","dict_reverseitemiterator","odict_iterator","itertools.zip_longest","itertools.pairwise"].contains n&&vs[0]? ==hb (OP a)then
     rule "for.unpacks-the-owned-tuple"
     updateField I 0 .none:Sem Nq)
   |_,_=>pure ()) Q E s:=by
  obtain⟨oc,od,dt,sl⟩:=o;dsimp only at hc⊢;subst hc;induction dt with
  |fields vs=>
   induction v with
   |ref a=>show wpAny (Iq Y w) A (if(["enumerate","zip","dict_itemiterator","dict_reverseitemiterator","odict_iterator","itertools.zip_longest","itertools.pairwise"].contains T&&vs[0]? ==hb (OP a))=Hq then _ else _) Q E s;(refine hT.symm▸?_;rw[Og,Ir ID]);exact HV h
   |_=>exact HV h
  |_=>exact HV h
 cases gR with
 |Tuple=>induction v with
  |ref a=>exact Ht (wpAny_load ho fin)
  |_=>exact HV h
 |List=>induction v with
  |ref a=>exact Ht (wpAny_load ho fin)
  |_=>exact HV h
 |_=>exact HV h
theorem Stream.list(hh:A.handled=Hu)(gR:HR)(I a:Hv)(B:Hn Ho)(F:Hn Hv):
  Stream Y w Hz A gR I (a::F) [I] [] B (λi h=>h.IsListIter I a i/\RD Y w Hz h (.ref a) (.list B) (a::F))where
 frame:=λi h h' W st off hF hw=>⟨by
   exact aQ st.1 λo ho r=>⟨o,off _ _ ho (.inl (hw I (.head _))),r⟩,st.2.off off hF⟩
 pV:=λ_ _ _ _ q=>nomatch q
 sub:=λ_ q=>nomatch q
 cQ:=λi h st b aO _=>by
  exact(HB.mp aO).symm▸kK st.1 λo ho hc hd=>zh o _ _ ho hd hc
 alive:=λi h st=>st.2.alive
 turn:=λi x s Q E hx st _ hQ=>by
  refine ew st λmH rl=>Ct rl.fM λo1 o2 o3 o4 q1 q2 a1 a2=>?_;cases q1;cases q2
  ·skip;refine j4 (a2.get hx) λv cs e1 e2 e3=>wpAny_pyNext_list_item mH ⟨_,a1,rfl,_,rfl⟩ (by simpa using e1) λh' wz gy=>?_;obtain aU:fO Hz s.heap h':=by intro b o e hd _;refine(gy.2 b λq=>?_).trans e;refine kK mH λo' jU hU kS=>?_;rw[q,jU]at e;cases e;exact hd _ kS _ hU
   refine kK wz λo' jU hU kS=>lB jU hU (by decide) (hQ v cs h' s.toks (e2.cQ aU) (λb aO=>.tail _ (e3 b aO)) ⟨⟨o',jU,hU,kS⟩,(RD.list a1 a2).cQ aU⟩ λb o aO e=>(gy.2 b (by simpa using aO)).trans e)
 done:=λs Q E st hQ=>by
  refine ew st λmH rl=>Ct rl.fM λo1 o2 o3 o4 q1 q2 a1 a2=>?_;cases q1;cases q2
  ·refine wpAny_pyNext_list_end hh mH ⟨_,a1,rfl,_,rfl⟩ (by simp[a2.length]) λh' ER=>hQ h' s.toks λb o aO e=>ER b o (by simpa using aO) e
 self:=λi s Q E st hQ=>wpAny_pyIter_listiter st.1 hQ
theorem Stream.tuple(hh:A.handled=Hu)(gR:HR)(I a:Hv)(B:Hn Ho)(F:Hn Hv):
  Stream Y w Hz A gR I F [I] [] B (λi h=>h.IsTupleIter I a i/\RD Y w Hz h (.ref a) (.tuple B) F)where
 frame:=λi h h' W st off hF hw=>⟨by
   exact aQ st.1 λo ho r=>⟨o,off _ _ ho (.inl (hw I (.head _))),r⟩,st.2.off off hF⟩
 pV:=λ_ _ _ _ q=>nomatch q
 sub:=λ_ q=>nomatch q
 cQ:=λi h st b aO _=>by
  exact(HB.mp aO).symm▸kK st.1 λo ho hc hd=>zh o _ _ ho hd hc
 alive:=λi h st=>st.2.alive
 turn:=λi x s Q E hx st _ hQ=>by
  refine ew st λmH rl=>?_;cases rl with
  |tuple a1 az a2=>
   refine j4 (a2.get hx) λv cs e1 e2 e3=>wpAny_pyNext_tuple_item mH ⟨_,a1,rfl,_,rfl⟩ (by simpa using e1) λh' wz gy=>?_;obtain aU:fO Hz s.heap h':=by intro b o e hd _;refine(gy.2 b λq=>?_).trans e;refine kK mH λo' jU hU kS=>?_;rw[q,jU]at e;have e:=si e;subst e;clear e;exact hd _ kS _ hU
   refine kK wz λo' jU hU kS=>lB jU hU (by decide) (hQ v cs h' s.toks (e2.cQ aU) e3 ⟨⟨o',jU,hU,kS⟩,(RD.tuple a1 az a2).cQ aU⟩ λb o aO e=>(gy.2 b (by simpa using aO)).trans e)
 done:=λs Q E st hQ=>by
  refine ew st λmH rl=>?_;cases rl with
  |tuple a1 az a2=>refine wpAny_pyNext_tuple_end hh mH ⟨_,a1,rfl,_,rfl⟩ (by simp[a2.length]) λh' ER=>hQ h' s.toks λb o aO e=>ER b o (by simpa using aO) e
 self:=λi s Q E st hQ=>wpAny_pyIter_tupleiter st.1 hQ
theorem Stream.td{k:HG}{P:HG->HE->Prop}{S:HG->Iv->Prop}(W:Walks Y w A I [I] [I] k P S)(a8:B.length=k)
  (hP:∀i v x h,P i v->B[i]? =hb x->RD Y w Hz h v x [])(m9:∀i h,S i h->∃o fs T,h.get? I=hb o/\o.data=.fields fs/\o.cls=.type T/\["enumerate","zip","dict_itemiterator","dict_reverseitemiterator","odict_iterator","itertools.zip_longest","itertools.pairwise"].contains T=HH):
  Stream Y w Hz A gR I [] [I] [] B S where
 frame:=λi h h' V st off _ hw=>W.frame i h h' st λb aO o e=>off b o e (.inl (hw b aO))
 pV:=λ_ _ _ _ q=>nomatch q
 sub:=λ_ q=>nomatch q
 cQ:=λi h st b aO _=>by
  exact(HB.mp aO).symm▸Au (m9 i h st) λo fs T e d c o1=>zh o fs T e d c
 alive:=λ_ _ _ _ h=>nomatch h
 turn:=λi x s Q E hx st _ hQ=>by
  have hi:i<k:=by exact a8▸(H2.mp hx).1
  exact W.item i s _ _ hi st λv h' tk hv DV kp=>Au (m9 _ _ DV) λo fs T e d c hT=>lB e c hT (hQ v [] h' tk (hP i v x h' hv hx) (λ_ h=>nomatch h) DV kp)
 done:=λs Q E st hQ=>W.done s Q E (by exact a8▸st) hQ
 self:=λi s Q E st hQ=>W.self i s Q E st hQ
noncomputable def signs(x:HP):Hn Ho:=x.cps.toList.map λc=>.str ⟨#[c]⟩
def nw(v:V):Hp (Hn Ho×Fl):=match v.x with
 |.list B=>hb (B,v.fl)
 |.tuple B=>hb (B,v.fl)
 |.str x=>hb (signs x,.d)
 |_=>Hu
inductive Fg(f:Fl):Ho->Hn Ho×Fl->Prop
 |list (B:Hn Ho):Fg f (.list B) (B,f)
 |tuple (B:Hn Ho):Fg f (.tuple B) (B,f)
 |str (x:HP):Fg f (.str x) (signs x,.d)
theorem alf{q:Hn Ho×Fl}(h:nw ⟨gc,f⟩=hb q):Fg f gc q:=by
 cases gc with
 |list B=>exact si h▸.list B
 |tuple B=>exact si h▸.tuple B
 |str gc=>exact si h▸.str gc
 |_=>exact no h
theorem aa6(h:wf (.str x)=Hq):fw (signs x)=Hq:=by rw[cN];intro y hy;refine aQ (HX.mp hy) λc hc o1=>?_;subst o1;rw[iD]at h⊢;refine⟨?_,by show 1<=sizeLine;decide⟩;have:=h.1;unfold Ki at this⊢;have:=Mn.mp this c (by simpa using hc);simpa using this
set_option tactic.hygienic true in
theorem It.data(h:Ev Y w U n sc e m)(hf:∀(K:Ke)x,MV e K x=pure x):It Y w U n sc gR e (λL=>(m L).bind nw):=by
 refine gQ hf ?_;intro A Hz K ae X C L O s v Q E hs hA I;refine ak λz0 ha R hQ=>?_;obtain⟨ax,af⟩:=z0;refine h hs hA I ha λu ay ah aL=>?_;obtain⟨as,ra,ca,oa⟩:=aL;have fresh:s.heap.get? ay.heap.objs.size=Hu:=by
  cases e:s.heap.get? ay.heap.objs.size with
  |none=>rfl
  |some o=>exact IG (II (ag ah _ _ e)) (JW _)
 dsimp only at*;have H:=alf R;clear R;induction H with
 |list B=>
  obtain H:=ra.listI;induction H with|mk ad vs k bs a1 a2=>?_
  rw[aV]at ca;refine QF ⟨_,a1,rfl,_,rfl⟩<|hQ _ _ _ [] _ _ (ab ah (bE _ _)) (Stream.list hA.handled gR _ ad _ bs) ⟨⟨_,H7 _ rfl,rfl,rfl⟩,(RD.list a1 a2).grow (bA.push _ _)⟩ oa ca.2 ca.1 λb aO=>?_;exact(HB.mp aO).symm▸fresh
 |tuple B=>
  induction ra.tupI with
  |mk ad vs k a1 az a2=>rw[dk]at ca;refine N2 ⟨_,a1,rfl,_,rfl⟩<|hQ _ _ _ [] _ _ (ab ah (bE _ _)) (Stream.tuple hA.handled gR _ ad _ as) ⟨⟨_,H7 _ rfl,rfl,rfl⟩,(RD.tuple a1 az a2).grow (bA.push _ _)⟩ oa ca.2 ca.1 λb aO=>?_;exact(HB.mp aO).symm▸fresh
 |str x=>
  have H:=ra.ig;clear ra;induction H with|mk t=>?_
  have a8:(signs x).length=x.cps.size:=Hr _;obtain hz:(signs x).length<=sizeLine:=by exact a8.symm▸(iD.mp ca).2
  have hP:∀i v y h,SignAt x i v->(signs x)[i]? =hb y->RD Y w Hz h v y []:=by
   intro i v y h hv hy;refine my hv λc u hc o1=>?_;subst o1;have e:(signs x)[i]? =hb (.str ⟨#[c]⟩):=by simp[signs,hc]
   rw[e]at hy;have e:=si hy;subst e;clear hy;exact .str _ _
  have hw:∀b∈[ay.heap.objs.size],s.heap.get? b=Hu:=λb aO=>by exact(HB.mp aO).symm▸fresh
  cases ape:x.cps.all (·<128)
  ·refine wpAny_pyIter_wide ape (hQ _ [] _ [] _ _ (ab ah (bE _ _)) (Stream.td (Walks.strWide hA.handled _ x t) a8 hP λi h st=>?_) ⟨_,H7 _ rfl,rfl,rfl⟩ da.nil (aa6 ca) hz hw);exact kK st λo ho hc hd=>A3 o _ _ ho hd hc (by decide)
  ·refine wpAny_pyIter_ascii ape (hQ _ [] _ [] _ _ (ab ah (bE _ _)) (Stream.td (Walks.strAscii hA.handled _ x t) a8 hP λi h st=>?_) ⟨_,H7 _ rfl,rfl,rfl⟩ da.nil (aa6 ca) hz hw);exact kK st λo ho hc hd=>A3 o _ _ ho hd hc (by decide)
noncomputable def xJ(x:HP)(v:V)(L:ar):Hp ar:=match v.fl with
 |.t=>Hu
 |_=>hb (L.set x (.val v))
set_option tactic.hygienic true in
theorem g8(h:xJ x fb L=hb ft):(fb.fl=.d∨fb.fl=.s)/\ft=L.set x (.val fb):=by
 unfold xJ at h;split at h
 ·exact no h
 ·rename_i hf;have e:=si h;subst e;clear h;refine⟨?_,rfl⟩;cases e:fb.fl with
  |d=>exact .inl rfl
  |s=>exact .inr rfl
  |t=>exact IG e hf
theorem Tg.name(hv:aA sc x=Hq):Tg Y w U sc (.Name x pos) (xJ x):=by intro A Hz K ae X C L ft O s u v Q E hs hA I r R hQ;refine ew (g8 R) λhf o1=>?_;subst o1;exact L5 (I.store (v:=.val v) (by exact hs.symm▸hv) ⟨hf,r⟩ λs' I' T=>hQ s' I' T)
noncomputable def pq:Hn HP->Hn V->ar->Hp ar
 |[],[],L=>hb L
 |x::B,v::vs,L=>(xJ x v L).bind (pq B vs)
 |_,_,_=>Hu
noncomputable def V.part(f:Fl)(x:Ho):V:=match f with
 |.d=>⟨x,.d⟩
 |f=>V.fix x f
theorem bH.uN(r:bH Y w Hz h us ys as):fw ys=Hq->da ae W f as->hY Y w Hz ae W h us (ys.map (V.part f)):=
 bH.ind (aH:=λus ys as=>fw ys=Hq->da ae W f as->hY Y w Hz ae W h us (ys.map (V.part f))) (λ_ _=>.nil) (λ{u us x B as bs} r1 _ ih c o=>by
  simp only[fw,HU]at c;refine .cons ?_ (ih c.2 (o.mono λ_ h=>Hx _ h));obtain o:=o.mono (λ_ h=>HF bs h);cases f with
  |d=>exact⟨_,r1,c.1,o⟩
  |_=>exact dK.fixed r1 c.1 o) r
noncomputable def yV(v:V):Hp (Hn V):=match v.x with
 |.tuple B=>hb (B.map λx=>V.part v.fl x)
 |_=>Hu
theorem l0:∀{B:Hn HP}{vs:Hn V}{L ft:ar},pq B vs L=hb ft->B.length=vs.length/\∀v∈vs,v.fl=.d∨v.fl=.s:=by
 intro B;induction B with
 |nil=>
  intro vs L ft h;cases vs with
  |nil=>exact⟨rfl,λ_ h=>nomatch h⟩
  |cons=>exact no h
 |cons x B ih=>
  intro vs L ft h;cases vs with
  |nil=>exact no h
  |cons v vs=>
   obtain⟨jx,h1,h2⟩:=ao h;refine ew (ih h2) λa b=>⟨by simp[a],λu hu=>?_⟩;clear h2 a h;rcases Hw.mp hu with rfl|hu
   ·exact(g8 h1).1
   ·exact b u hu
theorem hY.off(k:Off W h h')(r:hY Y w Hz ae W h us Bx)(hf:∀v∈Bx,v.fl=.d∨v.fl=.s):hY Y w Hz ae W h' us Bx:=by
 induction r with
 |nil=>exact .nil
 |cons a _ ih=>exact .cons (a.off k (hf _ (.head _))) (ih λv hv=>hf v (.tail _ hv))
variable{ae:HM}{C:Hn Hv}
set_option tactic.hygienic true in
theorem abv{X:Hn Hv}{Q:Nq->HM->Prop}(hs:K.scope=sc):
  ∀{e8:Hn HR}{us:Hn HE}{vs:Hn V}{L ft:ar}{s:HM},(∀x∈dU,aA sc x=Hq)->e8.length=dU.length->du Y w Hz U ae X K C L O s->hY Y w Hz ae.heap (WW K C O) s.heap us vs->pq dU vs L=hb ft->
  (∀s',du Y w Hz U ae X K C ft O s'->Step s.heap s'.heap (WW K C O) (WW K C O)->Q () s')->
  wpAny (Iq Y w) A (assignInOrder ((dU.zipWith (λx e=>(HH,PySem.assign (.Name x e.pos) K)) e8).map (·.2)) us) Q E s:=by
 induction dU with
 |nil=>
  intro e8 us vs L ft s _ hl I r R hQ;induction e8 with
  |cons _ _=>exact nomatch hl
  |nil=>induction vs with
   |nil=>cases r;(have e:=si R;subst e;clear R);exact HV (hQ s I (Step.refl _ _))
   |cons _ _=>exact no R
 |cons x dU ih=>
  intro e8 us vs L ft s hv hl I r R hQ;cases e8 with
  |nil=>exact nomatch hl
  |cons e e8=>induction r with
   |nil=>exact no R
   |@cons u v us vs r1 r2 _=>obtain⟨jx,h1,h2⟩:=ao R;refine ew (g8 h1) λhf o1=>?_;subst o1;refine Ht (KR (L5 (I.store (v:=.val v) (by exact hs.symm▸hv x (.head _)) ⟨hf,r1⟩ λay gU aoQ=>?_)));exact ih (λy hy=>hv y (.tail _ hy)) (Jz hl) gU (r2.off (aoQ.off I.cO) λv hv=>((l0 R).2) v (.tail _ hv)) h2 λs' I' T'=>hQ s' I' (aoQ.trans T')
variable{e8:Hn HR}
set_option tactic.hygienic true in
theorem Tg.tuple{k:HG}(hv:∀x∈dU,aA sc x=Hq)(a8:e8.length=dU.length)
  (he:∀K:Ke,N3 e8 K=dU.zipWith (λx e=>(HH,PySem.assign (.Name x e.pos) K)) e8):
  Tg Y w U sc (.Tuple e8 k pos) (λv L=>(yV v).bind λvs=>pq dU vs L):=by
 intro A Hz K ae X C L ft O s u v Q E hs hA I r;refine ak λvs ni R hQ=>?_;obtain⟨vx,vf⟩:=v;obtain⟨as,ra,ca,oa⟩:=r;dsimp only at*;cases vx with
 |tuple ys=>
  have e:=si ni;subst e;clear ni;induction ra.tupI with
  |mk ad us kk a1 az a2=>
   rw[dk]at ca;obtain hl:=a2.length;have uN:=a2.uN ca.2 oa;have Ha:dU.length=us.length:=by(exact((l0 R).1).trans uN.length.symm)
   refine Qp hA ⟨_,a1,rfl,_,rfl⟩ (by rw[he];simp[a8,Ha]) ?_ λh' ext=>?_
   ·rw[he,Oo];intro p hp;obtain⟨i,hi,rfl⟩:=OY.mp hp;simp
   have k':I8 s {s with heap:=h'}:=⟨h',s.toks,rfl,λb o e=>ext b o (Jq (II e)) e⟩;rw[he];have ap7:Step s.heap h' (WW K C O) (WW K C O):=Step.cM (ag k');exact abv hs hv a8 (I.grow k') (uN.grow (ag k')) R λs' Ew T=>hQ s' Ew (ap7.trans T)
 |_=>exact no ni
def bt(U:Iv)(x:HP)(v:HE):Prop:=
 (∃mg,U.Ns I3 mg/\mg x=hb v)∨(∃mg mb,U.Ns I3 mg/\mg x=Hu/\U.Ns K1 mb/\mb x=hb v)
noncomputable def aY(sc:IH)(x:HP):Ig:=decide (sc.names.lookup x=hb .globalImplicit)&& !(x==("__debug__":HP))
theorem dh{X:Hn Hv}
  (I:InF Y w Hz U ae X K C L O s)(hx:aY K.scope x=Hq)(hg:bt U x fb)(h:Q fb s):wpAny (Iq Y w) A (Jf (.Name x pos) K) Q E s:=by
 simp only[aY,HU,Ik,JI]at hx;rcases hg with⟨mg,R,hv⟩|⟨mg,mb,R,h0,qx,hv⟩
 ·exact PY I.kind hx.1 (loadGlobal_global (by exact I.glob.symm▸R.keeps I.base.grow) hv h) hx.2
 ·exact PY I.kind hx.1 (loadGlobal_builtin (by exact I.glob.symm▸R.keeps I.base.grow) h0 (by exact I.jA.symm▸qx.keeps I.base.grow) hv h) hx.2
theorem Ev.glob(hx:aY sc x=Hq)(hg:bt U x fb)(hd:RD Y w [] U fb d as)(hw:wf d=Hq):Ev Y w U n sc (.Name x pos) (λ_=>hb (V.fix d .s)):=by intro A Hz K ae X C L O s v' Q E hs hA I R hQ;(have e:=si R;subst e;clear R);exact dh I (by exact hs.symm▸hx) hg (hQ _ _ (aD s) (dK.fixed (((akc λz hz=>(I.base.hide z hz).1).1 hd).grow I.base.grow) hw λa ha hq=>dz (hd.alive a ha) λo e=>no (((I.bZ a hq).1).symm.trans e)))
def Calls(U:Iv)(f:HE):Prop:=(∃id,f=.builtin id)∨(∃T,f=.type T)∨∃a o fd,f=.ref a/\U.get? a=hb o/\o.data=.func fd
theorem dY{K:Ke}{pos:J3}{es:Hn HR}(hf:Calls U jo)
  (er:(J4 pos (Ie es K)).any (·.1)=HH)
  (h:wpAny (Iq Y w) A (QE (J4 pos (Ie es K))) (λus ay=>bA U ay.heap/\wpAny (Iq Y w) A (call jo us) Q E ay) E s):
  wpAny (Iq Y w) A (Lq pos jo [] (J4 pos (Ie es K)) []) Q E s:=by
 have args:wpAny (Iq Y w) A (evalArgs jo Hq (J4 pos (Ie es K)) []) (λa ay=>bA U ay.heap/\wpAny (Iq Y w) A (call jo ([]++a.pos) a.kw) Q E ay) E s:=by
  generalize J4 pos (Ie es K)=l at er h;clear es pos K;induction l with
  |nil=>exactλΓ p hΓ=>evalArgs_none (h Γ p hΓ) Γ p hΓ
  |cons p l=>obtain⟨b,t⟩:=p;simp only[Qq,Jn]at er;obtain⟨rfl,_⟩:=er;exact Nx h
 clear h;rcases hf with⟨id,rfl⟩|⟨T,rfl⟩|⟨a,o,fd,rfl,ho,hd⟩
 ·exact M9 er (Kf args (λa ay eY=>eY.2) λ_ _ e=>e)
 ·exact callWith_type er (Kf args (λa ay eY=>eY.2) λ_ _ e=>e)
 ·exact callWith_function (o:=o) (fd:=fd) (Kf args (λa ay eY=>⟨⟨eY.1 _ _ ho,hd⟩,eY.2⟩) λ_ _ e=>e)
def cg(Y:IB)(w:Ja)(U:Iv)(n:HG)(f:HE)(m:Hn V->Hp V):Prop:=
 ∀{{A:Jh}} {{Hz:Hn Hv}} {{K:Ke}} {{ae:HM}} {{X C:Hn Hv}} {{L:ar}} {{O:Hn (HP×Hn Hv)}} {{s:HM}} {{us:Hn HE}} {{vs:Hn V}} {{v:V}} {{Q:HE->HM->Prop}} {{E:HE->HM->Prop}},
  ey A n->InF Y w Hz U ae X K C L O s->hY Y w Hz ae.heap (WW K C O) s.heap us vs->m vs=hb v->(∀u s',I8 s s'->dK Y w Hz ae.heap (WW K C O) s'.heap u v->Q u s')->wpAny (Iq Y w) A (call f us) Q E s
variable{np:J3}
theorem Ev.call{m:Hn V->Hp V}(hx:aY sc x=Hq)(hg:bt U x jo)(hf:Calls U jo)(h:rL Y w U n sc es ms)(hc:cg Y w U n jo m)
  (er:∀K:Ke,(J4 pos (Ie es K)).any (·.1)=HH):Ev Y w U n sc (.Call (.Name x np) es [] pos) (λL=>(ms L).bind m):=by
 intro A Hz K ae X C L O s v Q E hs hA I;refine ak λvs ni R hQ=>?_;show wpAny _ _ (Jf (.Name x np) K>>=λjo=>Lq pos jo [] (J4 pos (Ie es K)) []) _ _ s;refine Ht (dh I (by exact hs.symm▸hx) hg (dY hf (er K) (h hs hA I ni λus ay ah aL=>⟨(I.grow ah).base.grow,?_⟩)));exact hc hA (I.grow ah) aL R λu s' k r=>hQ u s' (ab ah k) r
theorem cg.fn{m:Hn Ho->Hp Ho}(h:Fn Y w U n a m):cg Y w U n (.ref a) (λvs=>(m (vs.map (·.x))).map λy=>⟨y,.d⟩):=by
 intro A Hz K ae X C L O s us vs v Q E hA I r R hQ;induction dI R with|mk y hy=>?_
 refine kK r.yw λas rd c o1=>h hA.toRoom I.base rd c hy λu bs s' k ru cu fr=>hQ u s' k ⟨bs,ru,cu,λa ha=>?_⟩;exact I.fresh (fr a ha)
theorem Ev.fn{m:Hn Ho->Hp Ho}{fd:Ri}(hx:aY sc x=Hq)(hg:bt U x (.ref a))(ho:U.get? a=hb o)(hd:o.data=.func fd)
  (h:rL Y w U n sc es ms)(hc:Fn Y w U n a m)(er:∀K:Ke,(J4 pos (Ie es K)).any (·.1)=HH):
  Ev Y w U n sc (.Call (.Name x np) es [] pos) (λL=>(ms L).bind λvs=>(m (vs.map (·.x))).map λy=>⟨y,.d⟩):=
 Ev.call hx hg (.inr (.inr ⟨a,o,fd,rfl,ho,hd⟩)) h (cg.fn hc) er
def aol:Ho->Hp Ho
 |.list B=>hb (.int B.length)
 |.tuple B=>hb (.int B.length)
 |.str x=>hb (.int x.length)
 |.dict aW=>if dQ aW=Hq then hb (.int aW.length)else Hu
 |_=>Hu
set_option tactic.hygienic true in
theorem cg.len:cg Y w U n (.builtin "len") (λvs=>match vs with|[v]=>(aol v.x).map λy=>⟨y,.d⟩|_=>Hu):=by
 intro A Hz K ae X C L O s us vs v Q E hA I r R hQ;dsimp only at R;cases vs with
 |nil=>exact no R
 |cons a vs=>cases vs with
 |cons _ _=>exact no R
 |nil=>
  induction dI R with|mk y hy=>?_
  obtain⟨ax,af⟩:=a;refine aQ r.iO λo1 o2 r1=>?_;subst o2
  ·skip;obtain⟨as,ra,ca,oa⟩:=r1;obtain hz:=ed;dsimp only at*;cases ax with
   |list B=>
    have e:=si hy;subst e;clear hy;obtain H:=ra.listI;induction H with|mk o1 o2 o3 o4 a1 a2=>?_
    rw[aV]at ca;refine call_len_list ⟨_,a1,rfl,_,rfl⟩ (by simp[a2.length];exact xP ca.1 hz) ?_;refine Jd.symm▸a2.length.symm▸?_;exact hQ _ _ (aK s _) dK.int
   |tuple B=>
    have e:=si hy;subst e;clear hy;induction ra.tupI with
    |mk ad vs kk a1 az a2=>rw[dk]at ca;refine P.len_tuple a1 (by simp[a2.length];exact xP ca.1 hz) ?_;(refine Jd.symm▸a2.length.symm▸?_);exact hQ _ _ (aK s _) dK.int
   |str x=>
    have e:=si hy;subst e;clear hy;have H:=ra.ig;clear ra;induction H with|mk t=>?_
    rw[iD]at ca;exact P.len_str (by have:=ca.2;exact Mx.mpr (xP ca.2 hz)) (hQ _ _ (aK s _) dK.int)
   |dict aW=>
    change(if _ then _ else _)=_ at hy;revert hy;refine jl λrN hy=>?_;have e:=si hy;subst e;clear hy;induction ra.nK rN with|mk d ks B es b1 b2 b3 b4=>?_
    have hl:ks.length=B.length:=by simpa using HL Km b3
    simp only[wf,HU,Ik,Hr]at ca;refine call_len_dict b2 b1 (by rw[hl];have:=ca.1;exact xP ca.1 hz) ?_;refine hl.symm▸(Hr (as:=B) (f:=λp=>((.str p.1,p.2):Ho×Ho)))▸?_;exact hQ _ _ (aK s _) dK.int
   |_=>exact no hy
set_option tactic.hygienic true in
theorem cg.int:cg Y w U n (.type "int") (λvs=>match vs with|[v]=>(match v.x with|.bool b=>hb ⟨.int (if b then 1 else 0),.d⟩|_=>Hu)|_=>Hu):=by
 intro A Hz K ae X C L O s us vs v Q E hA I r R hQ;dsimp only at R;cases vs with
 |nil=>exact no R
 |cons a vs=>cases vs with
 |cons _ _=>exact no R
 |nil=>
  obtain⟨ax,af⟩:=a;dsimp only at R;cases ax with
  |bool b=>
   have e:=si R;subst e;clear R;clear I hA L X;refine aQ r.iO λo1 o2 r1=>?_;subst o2
   ·skip;obtain⟨as,ra,ca,oa⟩:=r1;dsimp only at ra;clear oa ca r;cases ra.bool_inv;exact call_int_bool (hQ _ _ (aK s _) dK.int)
  |_=>exact no R
set_option tactic.hygienic true in
theorem cg.list:cg Y w U n (.type "list") (λvs=>match vs with|[v]=>(match v.x with|.list B=>hb (V.eL B v.fl)|.tuple B=>hb (V.eL B v.fl)|_=>Hu)|_=>Hu):=by
 intro A Hz K ae X C L O s us vs v Q E hA I r R hQ;dsimp only at R;cases vs with
 |nil=>exact no R
 |cons a vs=>cases vs with
 |cons _ _=>exact no R
 |nil=>
  obtain⟨ax,af⟩:=a;clear hA;refine aQ r.iO λo1 o2 r1=>?_;subst o2
  ·skip;obtain⟨as,ra,ca,oa⟩:=r1;dsimp only at ra R ca oa;have fin:∀{us:Hn HE}{B:Hn Ho}{bs:Hn Hv}{h':Iv}{c':HG},bH Y w Hz s.heap us B bs->fw B=Hq->B.length<=sizeLine->da ae.heap (WW K C O) af bs->bA s.heap h'->h'.get? s.heap.objs.size=hb (cq us c')->
     dK Y w Hz ae.heap (WW K C O) h' (.ref s.heap.objs.size) (V.eL B af):=by
    intro us B bs h' c' q1 q2 q3 q4 k q5;obtain z:=I.mX;refine⟨s.heap.objs.size::bs,.list q5 (q1.grow k),aV.mpr ⟨q3,q2⟩,?_⟩;clear q5 q3 r I E L X A;cases e:b7 B with
    |true=>refine(q1.bT e).symm▸?_;simp only[V.eL,e,MU];intro a ha;exact(HB.mp ha).symm▸z
    |false=>
     simp only[V.eL,e,Ko,K8];induction af with
     |d=>exactλa ha=>(Hw.mp ha).elim (λq=>q▸z) (q4 a)
     |s=>exactλa ha=>(Hw.mp ha).elim (λq=>q▸z.2) (q4 a)
     |t=>trivial
   cases ax with
   |list B=>
    have e:=si R;subst e;clear R;obtain H:=ra.listI;clear r I L X;induction H with|mk o1 o2 o3 o4 a1 a2=>?_
    rw[aV]at ca;refine O8 _ (.inl rfl) a1 rfl rfl (λh' c' k q=>?_) (by simp[a2.length];exact ca.1);exact hQ _ _ ⟨h',s.toks,rfl,k⟩ (fin a2 ca.2 ca.1 (oa.mono λ_ h=>.tail _ h) k q)
   |tuple B=>
    have e:=si R;subst e;clear R;clear r I L X;induction ra.tupI with
    |mk ad vs kk a1 az a2=>rw[dk]at ca;refine O8 _ (.inr rfl) a1 rfl rfl (λh' c' k q=>?_) (by simp[a2.length];exact ca.1);exact hQ _ _ ⟨h',s.toks,rfl,k⟩ (fin a2 ca.2 ca.1 oa k q)
   |_=>exact no R
noncomputable def lX(k:HI):Hn Ho:=(H0 k.toNat).map λ(i:HG)=>.int (i:HI)
set_option tactic.hygienic true in
theorem It.range{gR:HR}{np pos:J3}(hx:aY sc "range"=Hq)(hg:bt U "range" (.type "range"))(h:Ev Y w U n sc e m)(he:∀K,Ie [e] K=[(HH,Jf e K)]):
  It Y w U n sc gR (.Call (.Name (HA "range") np) [e] [] pos) (λL=>(m L).bind λv=>match v.x with|.int k=>if-(2^62)<=k/\k<=sizeLine then hb (lX k,.d)else Hu|_=>Hu):=by
 refine⟨λ_ _=>rfl,?_⟩;intro A Hz K ae X C L O s v Q E hs hA I;refine ak λz0 ha R hQ=>?_;obtain⟨ax,af⟩:=z0;dsimp only at R;cases ax with
 |int k=>
  revert R;refine jl λhk R=>?_
  ·have e:=si R;subst e;clear R;show wpAny _ _ (Jf (.Name (HA "range") np) K>>=λf=>Lq pos f [] (J4 pos (Ie [e] K)) []) _ _ s;refine Ht (dh I (by exact hs.symm▸hx) hg (dY (U:=U) (.inr (.inl ⟨_,rfl⟩)) (by rw[he];rfl) (Kt (h hs hA I ha λu ay ah aL=>LM ⟨(I.grow ah).base.grow,?_⟩) (he K))));obtain⟨as,ra,ca,oa⟩:=aL;dsimp only at ra;clear he hg pos np oa ca ha I hs X L;have H:=ra.dS;clear ra;induction H with|mk t=>?_
   refine call_range_1 (wpAny_pyIter_range (IsRange.new _ _ _ _ _ _ _) (small_one (by decide) (by decide) (hk.1) (Ka hk.2 (by decide))) ?_);obtain n8:QQ 0 k 1=(k.toNat:HI):=by rw[rangeSize_one];split<;>lia -abstractProof
   have a8:(lX k).length=k.toNat:=by simp[lX]
   obtain fresh:∀d,s.heap.get? (ay.heap.objs.size+d)=Hu:=λd=>by
    clear af hk E;cases e:s.heap.get? (ay.heap.objs.size+d)with
    |none=>rfl
    |some o=>exact IG (II (ag ah _ _ e)) (JH.mpr (Ib _ _))
   refine hQ _ [] _ [] _ _ (ab ah ⟨_,_,rfl,bA.trans (bA.push _ _) (bA.push _ _)⟩) (Stream.td (Walks.range hA.handled _ 0 1 k.toNat) a8 (λi v x h hv hx=>?_) λi h st=>⟨_,_,_,st,rfl,rfl,by decide⟩) ?_ da.nil ?_ ?_ λb aO=>?_
   ·clear af ah hk hQ hA E Q O C ae K A;refine dz hv λt o1=>?_;subst o1;obtain hi:i<k.toNat:=by exact a8▸(H2.mp hx).1
    simp only[lX,Iz,Nl hi,Lr,Rj]at hx;clear gR hi hv;subst hx;exact((NL _).trans (Int.mul_one _)).symm▸.int _ _
   ·show IsRangeIter _ _ _ _ _;refine n8.symm▸Eq.trans (H7 _ ?_) ?_
    ·rfl
    ·rfl
   ·rw[cN];intro y hy;clear n8 af hx h ah hk hQ hA E Q O C ae K Hz A;refine aQ (HX.mp hy) λi o1 o2=>?_;subst o2;rfl
   ·exact a8.symm▸JE.mpr hk.2
   ·refine(HB.mp aO).symm▸?_;have:=fresh 1;simpa using this
 |_=>exact no R
theorem aay{β:Type}[BEq α][Pm α]{ns:Hn α}:∀{us:Hn β},ns.length=us.length->∀n∈ns,((ns.zip us).lookup n).isSome=Hq:=by
 induction ns with
 |nil=>exactλ_ _ h=>nomatch h
 |cons a ns ih=>
  intro us h n hn;cases us with
  |nil=>exact nomatch h
  |cons u us=>
  rw[IT,HK];cases e:n==a with
  |true=>rfl
  |false=>
   rcases Hw.mp hn with rfl|hn
   ·simp at e
   ·exact ih (Jz h) n hn
theorem aaH{β:Type}[BEq α][Pm α]{l:Hn (α×β)}{ns:Hn α}:∀{us:Hn β},ns.length=us.length->ns.Nodup->(∀n∈ns,l.lookup n=(ns.zip us).lookup n)->ns.filterMap (λn=>(l.lookup n).map (n,·))=ns.zip us:=by
 induction ns with
 |nil=>exactλ_ _ _=>rfl
 |cons a ns ih=>
  intro us h hn hl;cases us with
  |nil=>exact nomatch h
  |cons u us=>
  rw[HZ]at hn;obtain h0:=hl a (.head _);simp only[IT,HK,Ih]at h0;refine I1.trans ?_;rw[h0];simp only[Lr,IT];congr 1;refine ih (Jz h) hn.2 λn R=>?_;obtain h1:=hl n (.tail _ R);have:(n==a)=HH:=by
   cases e:n==a with
   |false=>rfl
   |true=>rw[eq_of_beq e]at R;exact IG R hn.1
  simp only[IT,HK,this]at h1;exact h1
theorem abS{c:Prop}{d:La c}{X kQ r:Sem α}(h:¬c)(k:kQ=r):(@ite _ c d X kQ)=r:=(Ir h).trans k
theorem iU{fd:Ri}{ps:Hn Arg}(hp:fd.params=⟨[],ps,Hu,[],[],Hu,[]⟩)(hd:fd.defaults=.none)(hl:ps.length=us.length)(hn:(ps.map (·.arg)).Nodup):
  bindArgs fd ⟨us,[]⟩=pure ((ps.map (·.arg)).zip us):=by
 obtain h2:=aaH (ns:=ps.map Mo) (us:=us) (l:=(ps.map Mo).zip us) (by rw[Hr];exact hl) hn (λ_ _=>rfl);obtain h3:(ps.map Mo).filter (λn=>(((ps.map Mo).zip us).lookup n).isNone)=[]:=by rw[List.filter_eq_nil_iff];intro n R;have:=aay (ns:=ps.map Mo) (us:=us) (by rw[Hr];exact hl) n R;rw[Jc];intro e;rw[e]at this;exact ID this
 clear hn;obtain⟨f1,f2,f3,f4,f5,f6,f7,f8,f9,f10,f11,f12,f13,f14,f15⟩:=fd;subst hp;subst hd;refine abS (c:=(decide (us.length>([]++ps.map Mo).length)&&(Hu:Hp Arg).isNone)=Hq) ?_ ?_
 ·rw[KX,Hr,hl,Iw (JW _)];exact ID
 obtain hz:∀i,Rk i ((Hu:Hp (PX HE)).getD #[]).toList=[]:=λi=>List.drop_nil;rw[hz];refine abS ?_ ?_
 ·show¬(!((Rl ([]++ps.map Mo).length ([]++ps.map Mo)).filter λn=>((([]++ps.map Mo).zip us).lookup n).isNone).isEmpty)=Hq;dsimp only[KX];rw[JD,h3];exact ID
 refine Pp.symm▸?_;refine HL (λl=>(pure l:Sem (Hn (HP×HE)))) (a₁:=List.filterMap (λn=>Jo (λx=>(n,x)) (List.lookup n (([]++ps.map Mo).zip us))) (([]++ps.map Mo)++[])) ?_;rw[IA];exact h2
noncomputable def nL:Hn HP->Hn Ho->ar
 |p::ps,x::B=>λy=>bif y==p then hb (.val (V.fix x .s))else nL ps B y
 |_,_=>λ_=>Hu
theorem adt:∀(ps:Hn HP)(B:Hn Ho)(y:HP),nL ps B y=((ps.zip B).lookup y).map λx=>.val (V.fix x .s):=by
 intro ps;induction ps with
 |nil=>intro B _;cases B<;>rfl
 |cons p ps ih=>
  intro B y;cases B with
  |nil=>rfl
  |cons x B=>show(bif y==p then _ else nL ps B y)=_;(refine(ih B y).symm▸?_;dsimp only[IT,HK]);cases y==p<;>rfl
noncomputable def sE:Out->Hp Ho
 |.ret y=>hb y
 |.next _=>hb .none
 |_=>Hu
variable{k:HP->Hp LL}{y:HP}{binds:Hn (HP×HE)}
theorem aas:∀{m:HP->Hp HE},(∀p∈binds,p.1≠y)->Oc k binds m y=m y:=by
 induction binds with
 |nil=>intro _ _;exact rfl
 |cons BA r bY=>
  obtain⟨a,v⟩:=BA;intro m h;rw[Oc];refine(bY λp hp=>h p (.tail _ hp)).trans ?_;split
  ·exact Ir λe=>h _ (.head _) e.symm
  ·rfl
theorem aar:∀{m:HP->Hp HE},(∀p∈binds,p.1≠y)->Ox k binds m y=m y:=by
 induction binds with
 |nil=>intro _ _;exact rfl
 |cons BA r bY=>
  obtain⟨a,v⟩:=BA;intro m h;rw[Ox];refine(bY λp hp=>h p (.tail _ hp)).trans ?_;split
  ·rfl
  ·exact Ir λe=>h _ (.head _) e.symm
variable{ps:Hn HP}
theorem lW(h:y∉ps):∀p∈ps.zip us,p.1≠y:=by intro p hp e;exact h (e▸(Ky hp).1)
variable(Y w Hz)in
inductive vJ(k:HP->Hp LL)(h:Iv)(ps:Hn HP)(us:Hn HE)(B:Hn Ho)(as:Hn Hv)(m c:HP->Hp HE)(y:HP)(x:Ho):Prop
 |mk (u:HE) (bs:Hn Hv) (h1:RD Y w Hz h u x bs) (h2:∀b∈bs,b∈as) (h3:x∈B) (h4:k y=hb .local->Oc k (ps.zip us) m y=hb u) (h5:k y≠hb .local->Ox k (ps.zip us) c y=hb u):vJ k h ps us B as m c y x
theorem ahY{m c:HP->Hp HE}(hn:ps.Nodup)(r:bH Y w Hz h us B as)(e:(ps.zip B).lookup y=hb gc):vJ Y w Hz k h ps us B as m c y gc:=by
 refine bH.ind (aH:=λus B as=>∀{ps:Hn HP}{m c:HP->Hp HE},ps.Nodup->(ps.zip B).lookup y=hb gc->vJ Y w Hz k h ps us B as m c y gc) (λ{ps m c} hn e=>?_) (λ{u us d ds as bs} r rs ih ps m c hn e=>?_) r hn e
 ·rw[Pp]at e;exact no e
 induction ps with
 |nil=>exact no e
 |cons p ps=>
  rw[HZ]at hn;simp only[IT,HK]at e;by_cases hy:y=p
  ·subst hy;simp only[Ih]at e;have e:=si e;subst e;clear e;refine⟨u,as,r,λb aO=>HF _ aO,.head _,λhk=>?_,λhk=>?_⟩
   ·refine IT.symm▸?_;(rw[Oc];refine(aas (lW hn.1)).trans ?_;rw[H5 hk]);exact H5 rfl
   ·refine IT.symm▸?_;(rw[Ox];refine(aar (lW hn.1)).trans ?_;rw[Ir hk]);exact H5 rfl
  ·obtain hyp:(y==p)=HH:=by simpa using hy
   rw[hyp]at e;obtain⟨u',wq,q1,q2,q3,q4,q5⟩:=ih hn.2 e;exact⟨u',wq,q1,λb aO=>Hx _ (q2 b aO),.tail _ q3,q4,q5⟩
noncomputable def j2(sc:IH):Ig:=decide ((LV 0 sc.names []).map (·.1)).Nodup
theorem gk(names:Hn (HP×LL)):∀(k:HG)(acc:Hn (HP×Hv)),names.lookup x=hb .cell∨(acc.lookup x).isSome=Hq->((LV k names acc).lookup x).isSome=Hq:=by
 induction names with
 |nil=>intro _ _ h;exact h.elim (λe=>no e) id
 |cons BA r bY=>
  obtain⟨y,kd⟩:=BA;intro k acc h;dsimp only[LV];by_cases hk:(kd==.cell)=Hq
  ·refine(H5 hk).symm▸bY (k+1) ((y,k)::acc) ?_;by_cases hy:(x==y)=Hq
   ·exact .inr (by(dsimp only[HK];rw[hy]);rfl)
   ·have FQ:(x==y)=HH:=by simpa using hy
    refine h.imp (λe=>?_) λe=>?_
    ·rw[HK,FQ]at e;exact e
    ·dsimp only[HK];rw[FQ];exact e
  ·refine(Ir hk).symm▸bY k acc ?_;by_cases hy:(x==y)=Hq
   ·refine .inr (h.elim (λe=>?_) id);rw[HK,hy]at e;exact IG (by refine(H4 e).symm▸?_;rfl) hk
   ·have FQ:(x==y)=HH:=by simpa using hy
    refine h.imp (λe=>?_) id;rw[HK,FQ]at e;exact e
theorem dZ(h:aA sc x=Hq):sc.names.lookup x=hb .local∨sc.names.lookup x=hb .cell:=by simp only[aA,HU,JA,Ik]at h;exact h.1
theorem abn{cs:Hn (HP×Hv)}(h:cs.Pairwise λx y=>x.2≠y.2){c:Hv}(hx:(x,c)∈cs)(hy:(y,c)∈cs):x=y:=by
 induction cs with
 |nil=>cases hx
 |cons p cs ih=>
  rw[Mr]at h;rcases Hw.mp hx with e1|m1<;>rcases Hw.mp hy with e2|m2
  ·rw[<-e1]at e2;exact(HL ND e2).symm
  ·exact IG (by exact(HL _ e1.symm).trans rfl) (h.1 _ m2)
  ·exact IG (by exact(HL _ e2.symm).trans rfl) (h.1 _ m1)
  ·exact ih h.2 m1 m2
theorem du.start{s':HM}(b:fg Y Hz U s.heap)(ng:K.scope=sc)(hk:sc.kind=.function)(hg:K.globals=I3)(u5:K.builtins=K1)
  (o8:K.cells=LV (K.locals+1) sc.names [])(zR:j2 sc=Hq)(rO:ps.Nodup)(rd:bH Y w Hz s.heap us B as)(hw:fw B=Hq)
  (x:InCallC s K.locals (Oc K.kindOf (ps.zip us) λ_=>Hu) K.cells (Ox K.kindOf (ps.zip us) λ_=>Hu) s'):
  du Y w Hz U s [] K (K.cells.map (·.2)) (nL ps B) [] s':=by
 obtain keep:=x.toInCall.keep;obtain hL:=aR _ x.toInCall.fresh;have hC:∀c∈K.cells.map (·.2),s.heap.get? c=Hu/\K.locals<c:=by intro c hc;refine aQ (HX.mp hc) λo1 R o2=>?_;obtain⟨nm,c'⟩:=o1;subst o2;have:=x.above nm c' R;exact gQ (aR _ (Hs x.toInCall.fresh (IK this))) this
 obtain amO:(K.cells.map (·.1)).Nodup:=by(refine o8.symm▸(PyProof.Rows.cellsFrom_names sc.names (K.locals+1) 0 [] [] rfl).symm▸?_);exact IW zR
 have aks:∀c∈K.cells.map (·.2),∃v,s'.heap.IsCell c v:=by intro c hc;refine aQ (HX.mp hc) λo1 R o2=>?_;obtain⟨nm,c'⟩:=o1;subst o2;exact u9 _ (x.cell nm c' (PyProof.Rows.lookup_of_mem_nodup amO R))
 have Dq:∀a,a∈WW K (K.cells.map (·.2)) []↔a=K.locals∨a∈K.cells.map (·.2):=by intro a;simp[WW]
 have foot:∀{u:HE}{d:Ho}{bs:Hn Hv},RD Y w Hz s.heap u d bs->wf d=Hq->dK Y w Hz s.heap (WW K (K.cells.map (·.2)) []) s'.heap u (V.fix d .s):=by
  intro u d bs r c;refine dK.fixed (r.grow keep) c λa ha hq=>dz (r.alive a ha) λo e=>?_;rcases(Dq a).mp hq with q|q
  ·rw[q,hL]at e;exact no e
  ·exact no (((hC a q).1).symm.trans e)
 obtain vars:∀y vv,nL ps B y=hb vv->∃u,cj Y w Hz s.heap (WW K (K.cells.map (·.2)) []) [] s'.heap y u vv/\
   (K.kindOf y=hb .local->Oc K.kindOf (ps.zip us) (λ_=>Hu) y=hb u)/\(K.kindOf y≠hb .local->Ox K.kindOf (ps.zip us) (λ_=>Hu) y=hb u):=by
  intro y vv e;rw[adt]at e;induction dI e with|mk d hd=>?_
  obtain⟨u,bs,q1,q2,q3,q4,q5⟩:=ahY (k:=K.kindOf) (m:=λ_=>Hu) (c:=λ_=>Hu) rO rd hd;refine rM u ⟨?_,foot q1 ((cN _).mp hw _ q3)⟩ q4 q5;unfold V.fix;split
  ·exact .inl rfl
  ·exact .inr rfl
 refine⟨⟨x.toInCall.same,b.trans keep,λb o e _=>keep b o e,λb o e=>⟨o,keep b o e⟩,λa ha=>?_,λa ha=>?_,?_,by exact ng.symm▸hk,hg,u5,λy e=>?_,⟨_,x.toInCall.ns,λy vv e1 e2=>?_⟩,λy vv e1 e2=>?_⟩,λy e=>?_,λy z c h1 h2=>?_,λy c hc=>have R:=HX.mpr ⟨_,cH hc,rfl⟩;⟨R,aks c R⟩⟩
 ·rcases(Dq a).mp ha with rfl|ha
  ·exact vc x.toInCall.ns λo es ep ho hd o1=>i12 o ho (λ⟨_,_,q⟩=>by rw[q]at hd;cases hd)
  ·exact my (aks a ha) λv o ho hd=>i12 o ho (λ⟨_,_,q⟩=>by rw[q]at hd;cases hd)
 ·have h0:s.heap.get? a=Hu:=by
   rcases(Dq a).mp ha with rfl|ha
   ·exact hL
   ·exact(hC a ha).1
  refine gQ ?_ (λ_=>h0);cases e:U.get? a with
  |none=>rfl
  |some o=>exact no (h0.symm.trans (b.grow _ _ e))
 ·simp only[WW,PL,IA,HZ];refine gQ (λR=>JW _ (hC _ R).2) ?_;have:=x.apart;rw[Q4,Pw];exact this
 ·have hs:(K.cells.lookup y).isSome=Hq:=by exact o8.symm▸gk _ _ _ (.inl (by exact ng▸e))
  exact IV.mp hs
 ·exact kK (vars y vv e1) λu r q1 o1=>i12 u (q1 e2) r
 ·refine kK (vars y vv e1) λu r o1 q2=>?_;obtain hs:(K.cells.lookup y).isSome=Hq:=by exact o8.symm▸gk _ _ _ (.inl (by exact ng▸e2))
  refine dz (IV.mp hs) λc hc=>mD c u hc ?_ r;have:=x.cell _ c hc;rw[q2 (by rw[e2];simp)]at this;exact this
 ·have hs:(K.cells.lookup y).isSome=Hq:=by exact o8.symm▸gk _ _ _ (.inl (by exact ng▸e))
  exact dz (IV.mp hs) λc hc=>i12 c hc (HX.mpr ⟨_,cH hc,rfl⟩)
 ·exact abn x.apart (cH h1) (cH h2)
structure jq(U:Iv)(f:Hv)(sc:IH)(ps:Hn HP)(body:Hn IM):Prop where
 there:∃fo fd args,U.get? f=hb fo/\fo.data=.func fd/\fd.params=⟨[],args,Hu,[],[],Hu,[]⟩/\args.map (·.arg)=ps/\fd.body=.stmts body/\fd.scope=sc/\fd.closure=[]/\fd.defaults=.none/\
  fd.globals=I3/\fd.builtins=K1/\U.CodeRec fd.code fd.qualname
 kind:sc.kind=.function
 gen:sc.isGenerator=HH
 co:sc.isCoroutine=HH
 once:j2 sc=Hq
 names:ps.Nodup
 vars:∀x∈ps,aA sc x=Hq
def BI(ps:Hn HP)(m:ar->Hp Out)(B:Hn Ho):Hp Ho:=if B.length=ps.length then(m (nL ps B)).bind sE else Hu
variable{body:Hn IM}
theorem Fn.def{m:ar->Hp Out}(D:jq U jo sc ps body)(h:St Y w U n sc body m):Fn Y w U (n+1) jo (BI ps m):=by
 intro A Hz s us B as y Q E hA b rd hw R hQ;obtain⟨fo,fd,args,ho,hd,hp,p6,r9,ng,qb,yq,yh,u5,yf⟩:=D.there;unfold BI at R;split at R
 ·rename_i a8;obtain⟨o,jU,hy⟩:=ao R;obtain xo:args.length=ps.length:=by simpa using HL Km p6
  obtain yg:args.length=us.length:=by(refine xo.trans ?_;(exact rd.length.symm▸a8.symm▸rfl))
  obtain hJ:(args.map (·.arg)).Nodup:=by exact p6.symm▸D.names
  refine N4 (Le (fd:=fd) (body:=body) (by have:=hA.depth;exact HC (Hs (Ib _ _) (Ib _ _)) this) (b.grow _ _ ho) hd (by exact ng.symm▸D.co) (by exact ng.symm▸D.gen) r9 (yf.keeps b.grow) ?_);refine(iU hp yq yg hJ).symm▸p6.symm▸ng.symm▸yh.symm▸qb.symm▸u5.symm▸?_;refine HV (Kz D.kind (λz hz=>?_) λK he s' x=>?_)
  ·refine(dZ (D.vars _ (Ky hz).1)).imp id λq=>⟨q,gk _ _ _ (.inl q)⟩
  ·have e1:K.scope=sc:=by refine he.symm▸?_;rfl
   have e2:K.globals=I3:=by refine he.symm▸?_;rfl
   have e3:K.builtins=K1:=by refine he.symm▸?_;rfl
   obtain e4:K.cells=LV (K.locals+1) sc.names []:=by refine he.symm▸?_;rfl
   have I:=du.start (w:=w) b e1 D.kind e2 e3 e4 D.once D.names rd hw x;refine gQ I.base.nolimit (Ni ?_);obtain pe:jf K:=⟨by exact e1.symm▸D.gen,by exact e1.symm▸D.co,e3,e2⟩;refine h e1 (hA.deeper pe) I jU ?_;have keeps:∀{L:ar}{O':Hn (HP×Hn Hv)}{jR:HM},du Y w Hz U s [] K (K.cells.map (·.2)) L O' jR->I8 s jR:=by intro L O' jR J;exact pQ J.same λh' tk e=>Ca h' tk e (λb o eb=>by have:=J.keep b o eb Ia;rw[e]at this;exact this)
   clear h D pe I e4 e3 e2 e1 hJ yg xo jU yf u5 yh yq qb ng r9 p6 hp hd ho args fo x he a8 hw rd b hA as us A;induction o with
   |next L=>(have e:=si hy;subst e;clear hy);intro O' jR J _;exact hQ .none [] jR (keeps J) .none rfl λ_ q=>nomatch q
   |ret z=>(have e:=si hy;subst e;clear hy);intro u eS O' L jR J ru cu fr;exact hQ u eS jR (keeps J) ru cu λa ha=>(fr a ha).elim (λq=>nomatch q) id
   |brk L=>exact no hy
   |cont L=>exact no hy
   |fR z L=>exact no hy
 ·exact no R
noncomputable def mW(t:ar->Hp Ig)(b:ar->Hp Out):HG->ar->Hp Out
 |0,_=>Hu
 |k+1,L=>(t L).bind λc=>if c then(b L).bind λo=>(match o with
   |.next ft=>mW t b k ft
   |.cont ft=>mW t b k ft
   |.brk ft=>hb (.next ft)
   |.ret y=>hb (.ret y)
   |.fR y L=>hb (.fR y L))else hb (.next L)
theorem S1.while{t:HR}{body:Hn IM}{pos:J3}(k:HG)(ht:Tr Y w U n sc t mt)(r9:St Y w U n sc body mb):S1 Y w U n sc (.While t body [] pos) (mW mt mb k):=by
 intro A Hz K ae X C L O s r Q E hs hA I R hQ;refine wpAny_While (codeAny_whileLoop (λi aN=>∃kh jQ,du Y w Hz U ae X K C kh jQ aN/\Step s.heap aN.heap (WW K C O) (WW K C jQ)/\mW mt mb i kh=hb r) ?_ k ⟨L,O,I,Step.refl _ _,R⟩);rintro i aN ⟨kh,jQ,gN,aps,la⟩;clear pos R I;cases i with
 |zero=>exact no la
 |succ i=>
  obtain⟨c,hc,la⟩:=ao la;refine ht hs hA gN.toInF hc λdN dO=>?_;obtain qa:=gN.grow dO;have Bu:=aps.trans (Step.cM (ag dO));clear ht k t hc dO aps gN aN;induction c with
  |true=>
   obtain⟨o,ho,jy⟩:=ao la;refine r9 hs hA qa ho ?_;clear r9 body ho hA hs;induction o with
   |next xm=>exactλAi jP uc so=>⟨i,L4 _,xm,Ai,uc,Bu.trans so,jy⟩
   |cont xm=>exactλAi jP uc so=>⟨i,L4 _,xm,Ai,uc,Bu.trans so,jy⟩
   |brk xm=>(have e:=si jy;subst e;clear jy);exactλAi jP uc so=>hQ Ai jP uc (Bu.trans so)
   |ret y=>(have e:=si jy;subst e;clear jy);exact hQ
   |fR y L=>(have e:=si jy;subst e;clear jy);exact hQ
  |false=>(have e:=si la;subst e;clear la);exact OA (hQ jQ dN qa Bu)
noncomputable def dE(scope sc:IH):IH:=
 {scope with names:=scope.names.map λ(x,k)=>if(k==.free&&sc.kind==.function&&sc.names.lookup x==hb .cell)then(x,.cell)else(x,k)}
theorem acC(scope:IH)(K:Ke):Px scope K=dE scope K.scope:=rfl
noncomputable def qQ(cells:Hn (HP×Hv)):Hn (HP×LL)->Hn (HP×Hv)->Hn (HP×Hv)
 |[],acc=>acc
 |(x,k)::r,acc=>if k==.free then qQ cells r ((x,(cells.lookup x).getD 0)::acc)else qQ cells r acc
variable{cells:Hn (HP×Hv)}
theorem om{acc:Hn (HP×Hv)}{k:LL}{r:Hn (HP×LL)}:qQ cells ((x,k)::r) acc=if k==.free then qQ cells r ((x,(cells.lookup x).getD 0)::acc)else qQ cells r acc:=rfl
variable{scope:IH}
theorem iA(h:∀p∈scope.names,p.2=.free->∃c,K.cells.lookup p.1=hb c):closureFor scope K=pure (qQ K.cells scope.names []):=by
 unfold closureFor;obtain key:∀(l:Hn (HP×LL))(acc:Hn (HP×Hv)),(∀p∈l,p.2=.free->∃c,K.cells.lookup p.1=hb c)->
   (forIn l acc λ(p:HP×LL) (cs:Hn (HP×Hv))=>(if(p.2==Kh)=Hq then do
     let a<-cellOf K p.1
     pure (Lh ((p.1,a)::cs))
    else pure (Lh cs):Sem (ForInStep (Hn (HP×Hv)))))=pure (qQ K.cells l acc):=by
  intro l;induction l with
  |nil=>intro acc _;rfl
  |cons p l ih=>
   intro acc h;obtain⟨x,k⟩:=p;rw[List.forIn_cons];by_cases hk:(k==Kh)=Hq
   ·refine dz (h (x,k) (.head _) (by simpa using hk)) λc hc=>?_;simp only[hk,MU,om];obtain e:cellOf K x=pure c:=by unfold cellOf;exact hc.symm▸rfl
    simp only[e,pure_bind,hc,LW];exact ih _ λp hp=>h p (.tail _ hp)
   ·simp only[hk,Ko,K8,om,pure_bind];exact ih _ λp hp=>h p (.tail _ hp)
 have:=key scope.names [] h;simpa using this
theorem aaq(hc:cells.lookup x=hb c)(names:Hn (HP×LL)):∀(acc:Hn (HP×Hv)),(acc.lookup x=Hu∨acc.lookup x=hb c)->((x,Kh)∈names∨acc.lookup x=hb c)->(qQ cells names acc).lookup x=hb c:=by
 induction names with
 |nil=>intro acc _ h;exact h.elim (λq=>nomatch q) id
 |cons BA r bY=>
  obtain⟨y,k⟩:=BA;intro acc h0 h;rw[om];by_cases hk:(k==Kh)=Hq
  ·refine(H5 hk).symm▸?_;by_cases hy:x=y
   ·subst hy;obtain e:((x,(cells.lookup x).getD 0)::acc).lookup x=hb c:=by(refine HK.trans ?_;rw[Ih,hc]);rfl
    exact bY _ (.inr e) (.inr e)
   ·obtain e:((y,(cells.lookup y).getD 0)::acc).lookup x=acc.lookup x:=by
     dsimp only[HK];have:(x==y)=HH:=by simpa using hy
     exact this.symm▸rfl
    refine bY _ (by exact e.symm▸h0)<|e.symm▸h.imp (λq=>?_) id;rcases Hw.mp q with q|q
    ·exact IG (HL ND q) hy
    ·exact q
  ·refine(Ir hk).symm▸bY acc h0 (h.imp (λq=>?_) id);rcases Hw.mp q with q|q
   ·have:=HL NF q;simp only at this;rw[<-this]at hk;exact IG rfl hk
   ·exact q
structure oo(scope sc:IH)(locs:Hn HP):Prop where
 kind:scope.kind=.function
 vW:∀p∈scope.names,p.2≠.cell
 free:∀p∈scope.names,p.2=.free->sc.names.lookup p.1=hb .cell
 locs:∀p∈scope.names,p.2=.local->scope.names.lookup p.1=hb .local/\p.1∈locs
noncomputable def jC(scope sc:IH)(locs:Hn HP):Ig:=
 decide (scope.kind=.function)&&scope.names.all (λp=>decide (p.2≠.cell)&&(decide (p.2≠.free)||decide (sc.names.lookup p.1=hb .cell))&&(decide (p.2≠.local)||(decide (scope.names.lookup p.1=hb .local)&&locs.contains p.1)))
variable{locs:Hn HP}
theorem oo.of(h:jC scope sc locs=Hq):oo scope sc locs:=by simp only[jC,HU,JM,Ik,JA]at h;refine⟨h.1,λp hp=>(h.2 p hp).1.1,λp hp e=>(h.2 p hp).1.2.resolve_left (λq=>q e),λp hp e=>?_⟩;exact ew ((h.2 p hp).2.resolve_left (λq=>q e)) λa b=>⟨a,by simpa using b⟩
theorem abk(hn:∀p∈scope.names,p.2≠.cell)(h:(dE scope sc).names.lookup x=hb .cell):(x,Kh)∈scope.names/\sc.names.lookup x=hb .cell:=by
 unfold dE at h;simp only at h;obtain key:∀(l:Hn (HP×LL)),(∀p∈l,p.2≠.cell)->(l.map λ(x,k)=>if(k==Kh&&sc.kind==.function&&sc.names.lookup x==hb .cell)then(x,Py)else(x,k)).lookup x=hb .cell->(x,Kh)∈l/\sc.names.lookup x=hb .cell:=by
  intro l;induction l with
  |nil=>intro _ h;exact no h
  |cons p l ih=>
   obtain⟨y,k⟩:=p;intro hn h;rw[HS]at h;by_cases hc:(k==Kh&&sc.kind==.function&&sc.names.lookup y==hb .cell)=Hq
   ·simp only[hc,MU,HK]at h;split at h
    ·rename_i e;obtain e:=eq_of_beq e;subst e;simp only[HU,KA]at hc;exact⟨by exact(hc.1.1).symm▸.head _,hc.2⟩
    ·exact ew (ih (λp hp=>hn p (.tail _ hp)) h) λa b=>⟨.tail _ a,b⟩
   ·simp only[hc,Ko,K8,HK]at h;split at h
    ·have e:=si h;subst e;clear h;exact IG rfl (hn _ (.head _))
    ·exact ew (ih (λp hp=>hn p (.tail _ hp)) h) λa b=>⟨.tail _ a,b⟩
 exact key _ hn h
theorem acA(h:(dE scope sc).names.lookup x=hb .local):(x,NameKind.local)∈scope.names:=by
 unfold dE at h;simp only at h;obtain key:∀(l:Hn (HP×LL)),(l.map λ(x,k)=>if(k==Kh&&sc.kind==.function&&sc.names.lookup x==hb .cell)then(x,Py)else(x,k)).lookup x=hb .local->(x,NameKind.local)∈l:=by
  intro l;induction l with
  |nil=>intro h;exact no h
  |cons p l ih=>
   obtain⟨y,k⟩:=p;intro h;rw[HS]at h;by_cases hc:(k==Kh&&sc.kind==.function&&sc.names.lookup y==hb .cell)=Hq
   ·simp only[hc,MU,HK]at h;split at h
    ·cases h
    ·exact .tail _ (ih h)
   ·simp only[hc,Ko,K8,HK]at h;split at h
    ·rename_i e;obtain e:=eq_of_beq e;have e:=si h;subst e;clear h;exact e.symm▸.head _
    ·exact .tail _ (ih h)
 exact key _ h
noncomputable def iP:Hn HP->HP->Ig
 |[],_=>HH
 |s::l,t=>(t==s)||iP l t
theorem oq{s:HP}:iP (s::EK) Az=((Az==s)||iP EK Az):=rfl
theorem ahh:iP EK Az=HH->Az∉EK:=by
 induction EK with
 |nil=>intro _ h;exact nomatch h
 |cons s EK bY=>
  intro e h;rw[oq,Jn,HO]at e;rcases Hw.mp h with h|h
  ·exact e.1 h
  ·exact bY e.2 h
def inComp(locs:Hn HP)(L:ar):ar:=λx=>bif iP locs x then Hu else(L x).bind λvv=>(sQ vv).map λv=>.val (V.fix v.x .s)
section
variable{X:Hn Hv}
theorem InF.Cz(I:InF Y w Hz U ae X K C L O s){x:HP}{u:HE}{v:VV}{m:HP->Hp HE}{h':Iv}{tk:HG}(hk:K.kindOf x=hb .local)
  (EH:∀y vv,L y=hb vv->K.kindOf y=hb .local->∃u,m y=hb u/\cj Y w Hz ae.heap (WW K C O) O s.heap y u vv)
  (hn:h'.Ns K.locals (λy=>if y=x then hb u else m y))(hs:KS K.locals s.heap h')(r:cj Y w Hz ae.heap (WW K C O) O s.heap x u v):
  InF Y w Hz U ae X K C (L.set x v) O {s with heap:=h',toks:=tk}:=by
 have aU:nq [K.locals] (WW K C O) s.heap h':=by refine⟨λa ha=>by exact(HB.mp ha).symm▸.head _,λb o e aO=>(hs.2 b (by simpa using aO)).trans e,λa ha=>?_⟩;refine(HB.mp ha).symm▸vc hn λo es ep ho hd o1=>i12 o ho (λ⟨vs,k,hc⟩=>?_);rw[hc]at hd;cases hd
 refine CP (I.wrote aU) λw1 w2 w3 w4 w5=>pQ I.same λh0 t0 e0=>⟨⟨h',tk,e0.symm▸rfl⟩,w1,w2,w3,w4,I.bZ,I.b9,I.kind,I.glob,I.jA,I.rU,⟨_,hn,λy vv e1 e2=>?_⟩,λy vv e1 e2=>?_⟩
 ·obtain d4:=(eW _ _ _ _).symm.trans e1;by_cases hy:y=x
  ·clear hn e0 t0 h0 w4 w3 w2 w1;subst hy;rw[H5 rfl]at d4;have e:=si d4;subst e;clear d4;refine i12 u (H5 rfl) (r.wrote w5 aU.same λsp kZ a ha=>?_);simpa using(fy I.b9 kZ ha).1
  ·rw[Ir hy]at d4;refine aQ (EH y vv d4 e2) λu' a b=>i12 u' ((Ir λq=>hy q).trans a) (b.wrote w5 aU.same λsp kZ a ha=>?_);simpa using(fy I.b9 kZ ha).1
 ·have hy:y≠x:=λq=>by rw[q,hk]at e2;cases e2
  obtain d4:=(eW _ _ _ _).symm.trans e1;rw[Ir hy]at d4;refine j4 (I.cell y vv d4 e2) λc u' a b d=>mD c u' a (b.sameBut hs (λq=>?_)) (d.wrote w5 aU.same λsp kZ a ha=>?_)
  ·refine aQ b λo ho hd=>aQ I.ns λm' o1 o2=>?_;obtain⟨oL,es,ep,hL,hdL,_⟩:=o1;rw[q,hL]at ho;have e:=si ho;subst e;clear ho;exact nomatch hdL.symm.trans hd
  ·simpa using(fy I.b9 kZ ha).1
theorem InF.ae8{Q:Nq->HM->Prop}(I:InF Y w Hz U ae X K C L O s){v:VV}(hk:K.kindOf x=hb .local)(r:cj Y w Hz ae.heap (WW K C O) O s.heap x u v)
  (hQ:∀h' tk,InF Y w Hz U ae X K C (L.set x v) O {s with heap:=h',toks:=tk}->KS K.locals s.heap h'->Q () {s with heap:=h',toks:=tk}):wpAny (Iq Y w) A (Pn K x u) Q E s:=by
 exact aQ I.ns λm R hv=>Nr hk R (λh' hn hs=>hQ h' _ (I.Cz hk hv hn hs r) hs) (by refine I.kind.symm▸?_;rfl)
theorem InF.weaken(I:InF Y w Hz U ae X K C L O s)(h:∀x v,ft x=hb v->L x=hb v):InF Y w Hz U ae X K C ft O s:=by refine⟨I.same,I.base,I.keep,I.alive,I.cO,I.bZ,I.b9,I.kind,I.glob,I.jA,I.rU,?_,λx vv e1 e2=>I.cell x vv (h x vv e1) e2⟩;exact aQ I.ns λm R hv=>i12 m R (λx vv e1 e2=>hv x vv (h x vv e1) e2)
end
def xO(Y:IB)(w:Ja)(U:Iv)(sc:IH)(locs:Hn HP)(gR:HR)(m:V->ar->Hp ar):Prop:=
 (∀v L ft,m v L=hb ft->∀x,x∉locs->ft x=L x)/\
 ∀{{A:Jh}} {{Hz:Hn Hv}} {{K:Ke}} {{ae:HM}} {{X C:Hn Hv}} {{L ft:ar}} {{O:Hn (HP×Hn Hv)}} {{s:HM}} {{u:HE}} {{v:V}} {{Q:Nq->HM->Prop}} {{E:HE->HM->Prop}},
  K.scope=sc->A.handled=Hu->InF Y w Hz U ae X K C L O s->dK Y w Hz ae.heap (WW K C O) s.heap u v->m v L=hb ft->
  (∀h' tk,InF Y w Hz U ae X K C ft O {s with heap:=h',toks:=tk}->(∀b o,b≠K.locals->s.heap.get? b=hb o->h'.get? b=hb o)->Q () {s with heap:=h',toks:=tk})->wpAny (Iq Y w) A (PySem.assign gR K u) Q E s
noncomputable def jd(sc:IH)(x:HP):Ig:=decide (sc.names.lookup x=hb .local)
theorem xO.name(hv:jd sc x=Hq)(hl:x∈locs):xO Y w U sc locs (.Name x pos) (xJ x):=by
 refine⟨λv L ft h y hy=>?_,?_⟩
 ·refine ew (g8 h) λo1 o2=>?_;subst o2;obtain EU:y≠x:=λe=>hy (by exact e.symm▸hl);exact(eW _ _ _ _).trans (Ir EU)
 intro A Hz K ae X C L ft O s u v Q E hs hA I r R hQ;refine ew (g8 R) λhf o1=>?_;subst o1;obtain hk:K.kindOf x=hb .local:=by unfold KG;exact hs.symm▸IW hv
 exact L5 (I.ae8 (v:=.val v) hk ⟨hf,r⟩ λh' tk I' AD=>hQ h' tk I' λb o aO e=>(AD.2 b aO).trans e)
set_option tactic.hygienic true in
theorem aaG{X:Hn Hv}{Q:Nq->HM->Prop}(hs:K.scope=sc):
  ∀{e8:Hn HR}{us:Hn HE}{vs:Hn V}{L ft:ar}{s:HM},(∀x∈dU,jd sc x=Hq)->e8.length=dU.length->InF Y w Hz U ae X K C L O s->hY Y w Hz ae.heap (WW K C O) s.heap us vs->pq dU vs L=hb ft->
  (∀h' tk,InF Y w Hz U ae X K C ft O {s with heap:=h',toks:=tk}->(∀b o,b≠K.locals->s.heap.get? b=hb o->h'.get? b=hb o)->Q () {s with heap:=h',toks:=tk})->
  wpAny (Iq Y w) A (assignInOrder ((dU.zipWith (λx e=>(HH,PySem.assign (.Name x e.pos) K)) e8).map (·.2)) us) Q E s:=by
 induction dU with
 |nil=>
  intro e8 us vs L ft s _ hl I r R hQ;induction e8 with
  |cons _ _=>exact nomatch hl
  |nil=>induction vs with
   |nil=>cases r;(have e:=si R;subst e;clear R);exact HV (hQ s.heap s.toks I λ_ _ _ e=>e)
   |cons _ _=>exact no R
 |cons x dU ih=>
  intro e8 us vs L ft s hv hl I r R hQ;cases e8 with
  |nil=>exact nomatch hl
  |cons e e8=>induction r with
   |nil=>exact no R
   |@cons u v us vs r1 r2 _=>
    obtain⟨jx,h1,h2⟩:=ao R;refine ew (g8 h1) λhf o1=>?_;subst o1;have hk:K.kindOf x=hb .local:=by unfold KG;exact hs.symm▸IW (hv x (.head _))
    refine Ht (KR (L5 (I.ae8 (v:=.val v) hk ⟨hf,r1⟩ λeY aqr gU AD=>?_)));obtain off:Off (WW K C O) s.heap eY:=by
     intro b o eb hc;refine(AD.2 b λq=>?_).trans eb;rcases hc with hc|hc
     ·exact hc (q▸.head _)
     ·refine aQ (I.cO K.locals (.head _)) λo' e' nt=>?_;rw[q,e']at eb;have e:=si eb;subst e;clear eb;exact nt hc
    exact ih (λy hy=>hv y (.tail _ hy)) (Jz hl) gU (r2.off off λv hv=>((l0 R).2) v (.tail _ hv)) h2 λh' tk I' kp=>hQ h' tk I' λb o aO e=>kp b o aO ((AD.2 b aO).trans e)
theorem ab4:∀{B:Hn HP}{vs:Hn V}{L ft:ar},pq B vs L=hb ft->∀y,y∉B->ft y=L y:=by
 intro B;induction B with
 |nil=>
  intro vs L ft h y _;cases vs with
  |nil=>(have e:=si h;subst e;clear h);rfl
  |cons=>exact no h
 |cons x B ih=>
  intro vs L ft h y hy;cases vs with
  |nil=>exact no h
  |cons v vs=>obtain⟨jx,h1,h2⟩:=ao h;refine ew (g8 h1) λo1 o2=>?_;subst o2;refine(ih h2 y λq=>hy (.tail _ q)).symm▸?_;obtain EU:y≠x:=λe=>hy (by exact e.symm▸.head _);exact(eW _ _ _ _).trans (Ir EU)
variable{k:HG}
set_option tactic.hygienic true in
theorem xO.tuple(hv:∀x∈dU,jd sc x=Hq)(hlc:∀x∈dU,x∈locs)(a8:e8.length=dU.length)
  (he:∀K:Ke,N3 e8 K=dU.zipWith (λx e=>(HH,PySem.assign (.Name x e.pos) K)) e8):
  xO Y w U sc locs (.Tuple e8 k pos) (λv L=>(yV v).bind λvs=>pq dU vs L):=by
 refine⟨λv L ft h y hy=>?_,?_⟩
 ·obtain⟨vs,_,h⟩:=ao h;exact ab4 h y λq=>hy (hlc y q)
 intro A Hz K ae X C L ft O s u v Q E hs hA I r;refine ak λvs ni R hQ=>?_;obtain⟨vx,vf⟩:=v;obtain⟨as,ra,ca,oa⟩:=r;dsimp only at*;cases vx with
 |tuple ys=>
  have e:=si ni;subst e;clear ni;induction ra.tupI with
  |mk ad us kk a1 az a2=>
   rw[dk]at ca;obtain hl:=a2.length;have uN:=a2.uN ca.2 oa;have Ha:dU.length=us.length:=by(exact((l0 R).1).trans uN.length.symm)
   refine Qp hA ⟨_,a1,rfl,_,rfl⟩ (by rw[he];simp[a8,Ha]) ?_ λh' ext=>?_
   ·rw[he,Oo];intro p hp;obtain⟨i,hi,rfl⟩:=OY.mp hp;simp
   have k':I8 s {s with heap:=h'}:=⟨h',s.toks,rfl,λb o e=>ext b o (Jq (II e)) e⟩;rw[he];exact aaG hs hv a8 (I.grow k') (uN.grow (ag k')) R λqv tk Ew kp=>hQ qv tk Ew λb o aO e=>kp b o aO (ag k' _ _ e)
 |_=>exact no ni
theorem aab{A:Jh}{aH:Result->HM->Prop}{s:HM}{jn target iter:HR}{jk:Hn HR}{scope:IH}{pos:J3}{it acc:HE}{K:Ke}(I:HG->HM->Prop)
  (turn:∀n s,I n s->wpAny (Iq Y w) A (Qm it) (λr ay=>match r with
   |none=>aH (.ok .next) ay
   |some v=>wpAny (Iq Y w) A (OB target it v) (λ_ akt=>wpAny (Iq Y w) A (assign target K v) (λ_ aN=>
     wpAny (Iq Y w) A (forIn jk Hq λc r=>if r=Hq then do let ok<-Qj c K (Jf c K);pure (Lh ok)else pure (Lh r)) (λok dN=>
      if ok=Hq then wpAny (Iq Y w) A (Jf jn K) (λx jP=>
       wpAny (Iq Y w) A (call (.builtin "list.append") [acc,x]) (λ_ ir=>∃m,m<n/\I m ir) (MW (Iq Y w) A K λe s'=>aH (.error e) s') jP) (MW (Iq Y w) A K λe s'=>aH (.error e) s') dN
      else∃m,m<n/\I m dN) (MW (Iq Y w) A K λe s'=>aH (.error e) s') aN) (MW (Iq Y w) A K λe s'=>aH (.error e) s') akt) (MW (Iq Y w) A K λe s'=>aH (.error e) s') ay) (MW (Iq Y w) A K λe s'=>aH (.error e) s') s)
  (n:HG)(h:I n s):
  Pz (Iq Y w) A (.compLoop (.ListComp jn [⟨target,iter,jk,0⟩] scope pos) 0 it acc K) aH s:=by
 refine codeAny_loop rfl I (λn s hI=>?_) n h;show wpAny _ A ((compTurn (.ListComp jn [⟨target,iter,jk,0⟩] scope pos) 0 it acc K).onRaise (λx=>do noteFrame x K;theTreesLotGoes x)) _ _ s;refine wpAny_noted ?_;rw[compTurn_list];refine Ht (M4 (Ht (Kf (turn n s hI) (λr ay eY=>?_) λ_ _ h'=>h')));induction r with
 |none=>exact HV eY
 |some v=>
  refine Ht (Kf eY (λ_ akt apc=>?_) λ_ _ h'=>h');refine Ht (Kf apc (λ_ aN mq=>Ht (Kf mq (λok dN m7=>?_) λ_ _ h'=>h')) λ_ _ h'=>h');induction ok with
  |false=>exact HV ⟨rfl,m7⟩
  |true=>exact Ht (Ht (Kf m7 (λx jP Dg=>Ht (Kf Dg (λ_ ir sj=>HV (HV ⟨rfl,sj⟩)) λ_ _ h'=>h')) λ_ _ h'=>h'))
def xW(Y:IB)(w:Ja)(U:Iv)(n:HG)(sc:IH)(cs:Hn HR)(m:ar->Hp Ig):Prop:=
 ∀{{A:Jh}} {{Hz:Hn Hv}} {{K:Ke}} {{ae:HM}} {{X C:Hn Hv}} {{L:ar}} {{O:Hn (HP×Hn Hv)}} {{s:HM}} {{v:Ig}} {{Q:Ig->HM->Prop}} {{E:HE->HM->Prop}},
  K.scope=sc->ey A n->InF Y w Hz U ae X K C L O s->m L=hb v->(∀s',I8 s s'->Q v s')->
  wpAny (Iq Y w) A (forIn cs Hq λc r=>if r=Hq then do let ok<-Qj c K (Jf c K);pure (Lh ok)else pure (Lh r)) Q E s
theorem xW.nil:xW Y w U n sc [] (λ_=>hb Hq):=by intro A Hz K ae X C L O s v Q E hs hA I R hQ;(have e:=si R;subst e;clear R);exact wpAny_tests_nil (hQ s (aD s))
theorem xW.one{m:ar->Hp Ig}(h:Tr Y w U n sc c m):xW Y w U n sc [c] m:=by intro A Hz K ae X C L O s v Q E hs hA I R hQ;exact wpAny_tests_one (h hs hA I R hQ)
noncomputable def sJ(bind:V->ar->Hp ar)(test:ar->Hp Ig)(jn:ar->Hp V)(L:ar):Hn Ho->Hp (Hn Ho)
 |[]=>hb []
 |x::B=>(bind (V.fix x .s) L).bind λjx=>(test jx).bind λc=>if c then(jn jx).bind λv=>if v.fl=.d then(sJ bind test jn L B).map (v.x::·)else Hu else sJ bind test jn L B
theorem InF.al5{X:Hn Hv}(I:InF Y w Hz U ae X K C L O s)(u0:∀x vv,L x=hb vv->∃v,vv=.val v){z:Hv}{tk:HG}(hz:z∈WW K C O)(hzL:z≠K.locals)
  (hzo:∃vs k,s.heap.get? z=hb (cq vs k))(hs:KS z s.heap h')(ht:∃ob,h'.get? z=hb ob/\¬j0 ob):InF Y w Hz U ae X K C L O {s with heap:=h',toks:=tk}:=by
 obtain aU:nq [z] (WW K C O) s.heap h':=
  ⟨λb aO=>by exact(HB.mp aO).symm▸hz,λb ob e aO=>(hs.2 b (by simpa using aO)).trans e,λb aO=>by exact(HB.mp aO).symm▸ht⟩
 refine CP (I.wrote aU) λw1 w2 w3 w4 w5=>pQ I.same λh0 t0 e0=>⟨⟨h',tk,e0▸rfl⟩,w1,w2,w3,w4,I.bZ,I.b9,I.kind,I.glob,I.jA,I.rU,?_,λy vv e1 e2=>?_⟩
 ·refine aQ I.ns λm R hv=>i12 m (R.sameBut hs (K9 hzL)) (λy vv e1 e2=>aQ (hv y vv e1 e2) λu a b=>dz (u0 y vv e1) λv o1=>?_);subst o1;exact rM u a b.1 (b.2.off w5 b.1)
 ·refine j4 (I.cell y vv e1 e2) λc u a b d=>dz (u0 y vv e1) λv o1=>?_;subst o1;refine i24 c u a (b.sameBut hs (λq=>?_)) d.1 (d.2.off w5 d.1);refine aQ b λo ho hd=>pQ hzo λvs k e=>?_;rw[q,e]at ho;have e:=si ho;subst e;clear ho;cases hd
theorem kz(h:inComp locs L x=hb vv):x∉locs/\∃v0 v,L x=hb v0/\sQ v0=hb v/\vv=.val (V.fix v.x .s):=by
 unfold inComp at h;cases hx:iP locs x with
 |true=>rw[hx]at h;exact no h
 |false=>rw[hx]at h;obtain⟨v0,h1,h2⟩:=ao h;exact aQ (H6.mp h2) λv h3 h4=>⟨ahh hx,v0,v,h1,h3,h4.symm⟩
theorem akX(x:Ho):(V.fix x .s).fl=.d∨(V.fix x .s).fl=.s:=by
 unfold V.fix;split
 ·exact .inl rfl
 ·exact .inr rfl
variable(Y w)in
inductive Ac(Hz:Hn Hv)(U:Iv)(s:HM)(iz:Ke)(L:ar)(D C':Hv)(S:HG->Iv->Prop)(bind:V->ar->Hp ar)(mt:ar->Hp Ig)(me:ar->Hp V)(B ys:Hn Ho):HG->HM->Prop
 |mk (i:HG) (us:Hn HE) (C4 rest:Hn Ho) (cs:Hn Hv) (kk:HG) (ir:HM) (h1:i<=B.length) (h2:InF Y w Hz U s [] iz [] L [(".acc",[D])] ir) (h3:ir.heap.get? D=hb (cq us kk)) (h4:bH Y w Hz ir.heap us C4 cs)
   (h5:da s.heap [C',D] .d cs) (h6:fw C4=Hq) (h7:C4.length<=i) (h8:S i ir.heap) (h9:sJ bind mt me L (B.drop i)=hb rest) (h10:ys=C4++rest):Ac Hz U s iz L D C' S bind mt me B ys (B.length+1-i) ir
theorem oW{jn gR iter:HR}{jk:Hn HR}{scope:IH}{pos:J3}{locs:Hn HP}{mi:ar->Hp (Hn Ho×Fl)}{bind:V->ar->Hp ar}{mt:ar->Hp Ig}{me:ar->Hp V}(ok:oo scope sc locs)
  (hi:It Y w U n sc gR iter mi)(ht:xO Y w U (dE scope sc) locs gR bind)(ye:xW Y w U n (dE scope sc) jk mt)(he:Ev Y w U n (dE scope sc) jn me)
  {A:Jh}{K:Ke}{ae:HM}{X C:Hn Hv}{L:ar}{O:Hn (HP×Hn Hv)}{s:HM}{E:HE->HM->Prop}{B:Hn Ho}{f:Fl}{ys:Hn Ho}{aH:HE->Hv->Result->HM->Prop}
  (hs:K.scope=sc)(hA:ey A n)(I:InF Y w Hz U ae X K C L O s)(hv:mi L=hb (B,f))(hd:sJ bind mt me (inComp locs L) B=hb ys)
  (hR:∀D C' s' cs m,I8 s s'->RD Y w Hz s'.heap (.ref D) (.list ys) (D::cs)->wf (.list ys)=Hq->(∀a∈D::cs,s.heap.get? a=Hu/\a≠C')->s.heap.get? C'=Hu->s'.heap.Ns C' m->aH (.ref D) C' (.ok .next) s'):
  wpAny (Iq Y w) A (Jf iter K) (λx ay=>wpAny (Iq Y w) A (Qn x) (λit aN=>wpAny (Iq Y w) A (newList []) (λacc dN=>
   wpAny (Iq Y w) A (newFunctionEnv scope K.globals (qQ K.cells scope.names []) [] K.qual Hu .none (hb K)) (λiz jP=>
    Pz (Iq Y w) A (.compStart (.ListComp jn [⟨gR,iter,jk,0⟩] scope pos) 0 it acc {iz with scope:=Px scope K}) (aH acc iz.locals) jP) E dN) E aN) E ay) E s:=by
 refine hi.2 hs hA I hv λJ F wr Zs S aN aI T hS hF pZ a8 sZ=>?_;dsimp only at T hF pZ a8;refine KL (wpAny_newFunctionEnv ok.vW (by intro y hy;exact nomatch hy) (λeY pg kR=>?_) ok.kind);dsimp only at pg kR⊢;have FE:s.heap.get? aN.heap.objs.size=Hu:=by
  clear hv E hi mi a8 hF;cases e:s.heap.get? aN.heap.objs.size with
  |none=>rfl
  |some o=>exact IG (II (ag aI _ _ e)) (JW _)
 generalize hH:aN.heap.push {cls:=.type "list",dict:=Hu,data:=.seq ([]:Hn HE).toArray}=H at pg kR⊢;have Bn:H.objs.size=aN.heap.objs.size+1:=by(refine hH▸?_;rw[Ms])
 have Es:s.heap.get? H.objs.size=Hu:=by
  clear hv E hi mi a8 hF;cases e:s.heap.get? H.objs.size with
  |none=>rfl
  |some o=>have:=II (ag aI _ _ e);rw[Bn]at this;exact IG this (JH.mpr (J1 _))
 have E1:aN.heap.objs.size≠H.objs.size:=by rw[Bn];exact Jq (L4 _)
 have old:∀b o,aN.heap.get? b=hb o->eY.get? b=hb o:=by intro b o e;have BB:=II e;refine kR.extBut b o ?_ (HW _ (hH▸HW _ e));rw[Bn];exact Jq (LQ BB)
 have below:∀b o,aN.heap.get? b=hb o->b≠H.objs.size/\b≠aN.heap.objs.size:=by intro b o e;obtain BB:=II e;exact gQ (by rw[Bn];exact Jq (LQ BB)) (Jq BB)
 have zQ:=kR.extBut _ _ E1 (HW _ (hH▸H7 _ rfl));generalize hD:aN.heap.objs.size=D at*;generalize hC':H.objs.size=C' at*;have E4:∀a,s.heap.get? a=Hu->U.get? a=Hu:=by
  intro a ha;clear hv E hi mi Bn kR a8 hF;cases e:U.get? a with
  |none=>rfl
  |some o=>exact no (ha.symm.trans (I.base.grow _ _ e))
 have yd:∀b o,s.heap.get? b=hb o->eY.get? b=hb o:=λb o e=>old b o (ag aI _ _ e);obtain⟨FY,FI,ED⟩:=aI;let iz:Ke:={newEnv scope C' K.globals (qQ K.cells scope.names []) K.qual Hu .none (hb K) 0 with scope:=Px scope K};obtain A6:∀b,{newEnv scope C' K.globals (qQ K.cells scope.names []) K.qual Hu .none (hb K) b with scope:=Px scope K}=iz:=λ_=>rfl;have BU:iz.scope=dE scope sc:=by show Px scope K=_;rw[acC,hs]
 obtain cW:WW iz [] [(".acc",[D])]=[C',D]:=rfl;obtain DZ:∀a o,s.heap.get? a=hb o->a∉Hz->a∉Zs++Hz:=λa o e q z=>(HD.mp z).elim (λz=>no ((sZ a (T.sub a z)).symm.trans e)) q;obtain akz:∀(h:Iv)a o,h.get? a=hb o->a∉Zs++Hz->a∉Hz:=λ_ a _ _ q z=>q (Hx _ z);have s5:∀b∈wr,b∉Hz:=λb aO hz=>by
  obtain⟨_,o,e,_⟩:=I.base.hide b hz;exact no ((sZ b aO).symm.trans e)
 have bI:=I.base.trans yd;have cI:∀tk,InF Y w (Zs++Hz) U s [] iz [] (inComp locs L) [(".acc",[D])] {aN with heap:=eY,toks:=tk}:=by
  intro tk;refine⟨⟨eY,tk,by rw[ED.1]⟩,⟨λz hz=>(HD.mp hz).elim (λq=>⟨E4 z (sZ z (T.sub z q)),by obtain⟨o,e,t⟩:=T.pV 0 _ hS z q;exact⟨o,old z o e,t⟩⟩) (bI.hide z),bI.lim,bI.seer,bI.tree,bI.mods,bI.grow⟩,λb o e _=>yd b o e,λb o e=>⟨o,yd b o e⟩,?_,?_,?_,?_,?_,?_,?_,?_,?_⟩
  ·refine cW.symm▸?_;intro a ha;clear hv E hi mi bI A6 Bn ED FI FY kR a8 hF;rcases Hw.mp ha with rfl|ha
   ·obtain⟨o,es,ep,ho,kS,_⟩:=pg;exact i12 o ho (λ⟨_,_,q⟩=>by rw[q]at kS;cases kS)
   ·exact(HB.mp ha).symm▸i12 _ zQ (bw _ _)
  ·refine cW.symm▸?_;intro a ha;clear hv E hi mi bI A6 Bn ED FI FY kR a8 hF;rcases Hw.mp ha with rfl|ha
   ·exact gQ (E4 _ Es) (λ_=>Es)
   ·exact(HB.mp ha).symm▸gQ (E4 _ FE) (λ_=>FE)
  ·rw[cW];simp[K9 E1]
  ·exact BU.symm▸ok.kind
  ·exact I.glob
  ·exact I.jA
  ·intro x e;obtain e':(dE scope sc).names.lookup x=hb .cell:=by exact BU▸e
   obtain⟨q1,q2⟩:=abk ok.vW e';obtain⟨c,hc⟩:=I.rU x (by unfold KG;exact hs.symm▸q2);exact u9 c (aaq hc _ _ (.inl rfl) (.inl q1))
  ·refine i12 _ pg (λx vv e1 e2=>?_);obtain e':(dE scope sc).names.lookup x=hb .local:=by rw[<-BU];exact e2
   exact IG (ok.locs _ (acA e') rfl).2 (kz e1).1
  ·intro x vv e1 e2;obtain e':(dE scope sc).names.lookup x=hb .cell:=by exact BU▸e2
   obtain⟨q1,q2⟩:=abk ok.vW e';clear hv E hi ok mi bI A6 Bn ED FI FY e2 kR pg a8 hF;obtain⟨_,v0,v,r1,r2,rfl⟩:=kz e1;obtain⟨c,u,hc,hu,rep⟩:=I.cell x v0 r1 (by unfold KG;exact hs.symm▸q2);refine i24 c u (aaq hc _ _ (.inl rfl) (.inl q1)) (et hu yd) (akX _) ?_;obtain⟨as,rd,cw,_⟩:=rep.rd r2;refine dK.fixed (((fA DZ).1 rd).grow yd) cw λa ha=>cW.symm▸?_;obtain⟨o,e⟩:=rd.alive a ha;simp only[Hw,Ia,Kv,LR];exact gQ (λq=>by rw[q,Es]at e;exact no e) (λq=>by rw[q,FE]at e;cases e)
 have u0:∀x vv,inComp locs L x=hb vv->∃v,vv=.val v:=λx vv e=>by obtain⟨_,_,v,_,_,q⟩:=kz e;exact⟨_,q⟩
 have r6:∀b∈wr,U.get? b=Hu/\s.heap.get? b=Hu/\b∉WW iz [] [(".acc",[D])]:=by intro b aO;refine l6 (E4 b (sZ b aO)) (sZ b aO)<|cW.symm▸?_;obtain⟨o,e⟩:=T.there hS aO;obtain⟨q1,q2⟩:=below b o e;simp[q1,q2]
 have C0:∀a∈F,a∉WW iz [] [(".acc",[D])]:=by intro a ha;refine cW.symm▸?_;obtain⟨o,e⟩:=T.alive 0 _ hS a ha;obtain⟨q1,q2⟩:=below a o e;simp[q1,q2]
 have D5:∀b∈wr,b∉WW iz [] [(".acc",[D])]:=λb aO=>(r6 b aO).2.2;have aky:=T.frame 0 _ _ (WW iz [] [(".acc",[D])]) hS (λb o e _=>old b o e) C0 D5;obtain loop:∀tk,Pz (Iq Y w) A (.compLoop (.ListComp jn [⟨gR,iter,jk,0⟩] scope pos) 0 (.ref J) (.ref D) iz) (aH (.ref D) C') {aN with heap:=eY,toks:=tk}:=by
  intro akg;refine aab (Ac Y w (Zs++Hz) U s iz (inComp locs L) D C' S bind mt me B ys) ?_ (B.length+1)
   (Ac.mk 0 [] [] ys [] 0 _ (JS _) (cI akg) zQ .nil da.nil rfl (Io _) aky hd rfl)
  rintro k ir ⟨i,us,C4,rest,cs,kk,_,yE,r8,An,xv,xt,xl,rD,nY,uT,p8⟩;by_cases kl:i<B.length
  ·rw[J6 kl]at uT;obtain⟨jx,akx,apd⟩:=ao uT;obtain⟨c,hc,xC⟩:=ao apd;refine Kf (T.turn i _ ir ?Q (MW (Iq Y w) A iz λe s'=>aH (.ref D) C' (.error e) s') (HQ kl) nY (λz hz=>(r8.base.hide z (Hx _ hz)).2.imp λo h=>h.1) ?k) ?hgo λ_ _ e=>e
   case hgo=>
    intro rr aqv apm;induction rr with
    |none=>exact apm.elim
    |some v=>exact apm
   case k=>
    intro v as h' tk rd has akh kp;have wx:=r8.oP (Hy:=Zs++Hz) (tk:=tk) (T.cQ i _ nY) r6 kp (λ_ q=>q) (λz hz hw=>(HD.mp hz).elim (T.pV _ _ akh z) λq=>IG q (s5 z hw));obtain yj:=fO.of (T.cQ i _ nY) (T.pV i _ nY) kp;have xq:=yj _ _ An (λ_ q=>by cases q) λ_=>bw _ _;obtain rep:dK Y w (Zs++Hz) s.heap (WW iz [] [(".acc",[D])]) h' v (V.fix B[i] .s):=dK.fixed rd ((cN _).mp pZ _ (KM _)) λa ha=>C0 a (has a ha);refine ht.2 BU hA.handled wx rep akx λCW aqq ao9 akl=>?_;have ahy:Off (WW iz [] [(".acc",[D])]) h' CW:=by
     intro b o e hU;refine akl b o (λq=>?_) e;rcases hU with hU|hU
     ·exact hU (q▸.head _)
     ·obtain⟨o',e',nt⟩:=wx.cO iz.locals (.head _);rw[q]at e;rw[e]at e';have e:=si e';subst e;clear e';exact nt hU
    have ahx:∀a∈cs,a∉WW iz [] [(".acc",[D])]:=λa ha=>by exact cW.symm▸(xt a ha).2
    refine ye BU hA ao9 hc λaqx Bt=>?_;have Dk:=ao9.grow Bt;have back:∀{Ap:HM},InF Y w (Zs++Hz) U s [] iz [] jx [(".acc",[D])] Ap->InF Y w (Zs++Hz) U s [] iz [] (inComp locs L) [(".acc",[D])] Ap:=λJ=>J.weaken λx vv e=>by
     exact(ht.1 _ _ _ akx x (kz e).1).trans e
    have akn:=T.frame _ _ _ (WW iz [] [(".acc",[D])]) (T.frame _ _ _ _ akh ahy C0 D5) (Off.cM (ag Bt)) C0 D5;have aku:=ag Bt _ _ (akl _ _ E1 xq);have akv:=((xv.cQ yj).off ahy ahx).grow (ag Bt);induction c with
    |false=>simp only[Ko,K8]at xC⊢;exact i12 _ (qp kl) (.mk (i+1) us C4 rest cs kk _ kl (back Dk) aku akv xt xl (JZ rD) akn xC p8)
    |true=>
     simp only[MU]at xC⊢;obtain⟨ev,EZ,zZ⟩:=ao xC;split at zZ
     ·rename_i ym;induction dI zZ with|mk apu GS=>?_
      refine he BU hA Dk EZ λu Ap Bm aqb=>?_;obtain⟨bs,rdu,cwu,G0⟩:=aqb;rw[ym,cW]at G0;have z6:=ag Bm _ _ aku;refine wpAny_list_append_plain (items:=us.toArray) ⟨kk,z6⟩ (λt6 pl sb=>?_) (by simp;exact xv.length▸Hs rD (Hs (IK kl) a8));obtain⟨k',ahz⟩:=pl;have abl:t6.get? D=hb (cq (us++[u]) k'):=by refine ahz.trans ?_;simp
      obtain ajk:=(back (Dk.grow Bm)).al5 (tk:=Ap.toks) u0 (z:=D) (h':=t6) (by exact cW.symm▸.tail _ (.head _)) E1 ⟨_,_,z6⟩ sb ⟨_,abl,bw _ _⟩;obtain o9:Off (WW iz [] [(".acc",[D])]) Ap.heap t6:=by
       intro b o e hU;refine(sb.2 b λq=>?_).trans e;rcases hU with hU|hU
       ·exact hU (by rw[cW,q];exact .tail _ (.head _))
       ·rw[q,z6]at e;cases e;exact bw _ _ hU
      refine i12 _ (qp kl) (.mk (i+1) (us++[u]) (C4++[ev.x]) apu (cs++(bs++[])) k' _ kl ajk abl ?_ ?_ ?_ ?_ ?_ GS (by refine p8.trans ?_;simp))
      ·exact((akv.grow (ag Bm)).off o9 ahx).append (.cons (rdu.off o9 λa ha=>by exact cW.symm▸(G0 a ha).2) .nil)
      ·rw[IA];exact da.append xt G0
      ·rw[eI,xl];simp[fw,cwu]
      ·simp;exact QG.mp rD
      ·exact T.frame _ _ _ _ (T.frame _ _ _ (WW iz [] [(".acc",[D])]) akn (Off.cM (ag Bm)) C0 D5) o9 C0 D5
     ·exact no zZ
  ·obtain D8:=M7 yE (JH.mp kl);subst D8;rw[KN]at uT;have e:=H4 (show hb []=hb _ from uT);subst e;clear uT;refine T.done ir _ _ nY λh' tk kp=>?_;have wx:=r8.oP (Hy:=Hz) (tk:=tk) (T.cQ _ _ nY) r6 kp (λ_ q=>Hx _ q) (λz hz hw=>IG hz (s5 z hw));have yj:fO (Zs++Hz) ir.heap h':=fO.of (T.cQ _ _ nY) (T.pV _ _ nY) kp;have xq:=yj _ _ An (λ_ q=>by cases q) λ_=>bw _ _;obtain⟨m,R,_⟩:=wx.ns;obtain⟨qv,aoV,Hd⟩:=wx.same;rw[IA]at p8;subst p8;refine hR D C' _ cs m ⟨qv,aoV,Hd,λb o e=>?_⟩ (.list xq ((fA (akz _)).2 (xv.cQ yj))) (aV.mpr ⟨Hs rD a8,xl⟩) (λa ha=>?_) Es R
   ·have:=wx.keep b o e Ia;rw[Hd]at this;exact this
   ·clear hR hd hv I hA hs aH E X he ye ht hi ok me mt bind mi pos jk iter jn xq yj wx D5 C0 r6 u0 cI bI s5 akz DZ cW BU A6 yd E4 zQ below old Es Bn Hd aoV qv R ED FI FY kp nY rD xl xv An r8 yE kk us akg kR pg sZ a8 pZ hF hS;rcases Hw.mp ha with rfl|ha
    ·exact gQ FE E1
    ·obtain⟨q1,q2⟩:=xt a ha;exact gQ q1 (λq=>q2 (q▸.head _))
 exact codeAny_compStart_list (loop _) (T.self 0 _ _ _ aky (loop _))
def qZ(mi:ar->Hp (Hn Ho×Fl))(locs:Hn HP)(bind:V->ar->Hp ar)(mt:ar->Hp Ig)(me:ar->Hp V)(L:ar):Hp (Hn Ho):=
 (mi L).bind λv=>sJ bind mt me (inComp locs L) v.1
variable{mi:ar->Hp (Hn Ho×Fl)}{me:ar->Hp V}
theorem Ev.comp{jn gR iter:HR}{jk:Hn HR}{pos:J3}(ok:jC scope sc locs=Hq)
  (hi:It Y w U n sc gR iter mi)(ht:xO Y w U (dE scope sc) locs gR bind)(ye:xW Y w U n (dE scope sc) jk mt)(he:Ev Y w U n (dE scope sc) jn me):
  Ev Y w U n sc (.ListComp jn [⟨gR,iter,jk,0⟩] scope pos) (λL=>(qZ mi locs bind mt me L).map λys=>⟨.list ys,.d⟩):=by
 intro A Hz K ae X C L O s v Q E hs hA I R hQ;induction dI R with|mk ys p8=>?_
 obtain⟨⟨B,f⟩,hv,hd⟩:=ao p8;obtain OK:=oo.of ok;obtain qb:∀p∈scope.names,p.2=.free->∃c,K.cells.lookup p.1=hb c:=λp hp e=>I.rU p.1 (by unfold KG;exact hs.symm▸OK.free p hp e);refine M5 (g:=⟨gR,iter,jk,0⟩) (gs:=[]) rfl (hi.1 K) (iA qb) OK.kind (λx hx e=>(OK.locs x hx e).1) (oW OK hi ht ye he hs hA I hv hd λD C' s' cs m k rd cw fr hC hn=>i12 m hn (λh' AD=>?_));obtain k':I8 s {s' with heap:=h'}:=by refine my k λh1 t1 e1 g1=>?_;clear he ye ht hi ok pos jk iter gR jn p8 qb OK hd hv f B k R hA hs E v A;subst e1;exact Ca h' t1 rfl (λb o e=>(AD.2 b λq=>by rw[q,hC]at e;exact no e).trans (g1 b o e))
 refine hQ _ _ k' ⟨D::cs,rd.off (W:=[C']) (λb o e hc=>?_) (λa ha=>by simpa using(fr a ha).2),cw,λa ha=>I.fresh (fr a ha).1⟩;refine(AD.2 b λq=>?_).trans e;refine vc hn λo' es ep jU kS o1=>?_;rcases hc with hc|hc
 ·exact hc (by simp[q])
 ·rw[q,jU]at e;have e:=si e;subst e;clear e;refine pQ hc λo1 o2 z=>?_;rw[z]at kS;cases kS
section
variable{X:Hn Hv}
theorem du.setG(I:du Y w Hz U ae X K C L O s){v:VV}{m:HP->Hp HE}{tk:HG}(hk:K.kindOf x=hb .local)
  (EH:∀y vv,L y=hb vv->K.kindOf y=hb .local->∃u,m y=hb u/\cj Y w Hz ae.heap (WW K C O) O s.heap y u vv)
  (hn:h'.Ns K.locals (λy=>if y=x then hb u else m y))(hs:∀b o,b≠K.locals->s.heap.get? b=hb o->h'.get? b=hb o)(r:cj Y w Hz ae.heap (WW K C O) O h' x u v):
  du Y w Hz U ae X K C (L.set x v) O {s with heap:=h',toks:=tk}:=by
 have aU:nq [K.locals] (WW K C O) s.heap h':=by refine⟨λa ha=>by exact(HB.mp ha).symm▸.head _,λb o e aO=>hs b o (by simpa using aO) e,λa ha=>?_⟩;refine(HB.mp ha).symm▸vc hn λo es ep ho hd o1=>i12 o ho (λ⟨vs,k,hc⟩=>?_);rw[hc]at hd;cases hd
 refine CP (I.toInF.wrote aU) λw1 w2 w3 w4 w5=>pQ I.same λh0 t0 e0=>?_;have gq:∀c∈C,c≠K.locals:=λc hc e=>by
  have:=I.b9;unfold WW at this;rw[HZ]at this;exact this.1 (e▸HF _ hc)
 refine⟨⟨⟨h',tk,e0▸rfl⟩,w1,w2,w3,w4,I.bZ,I.b9,I.kind,I.glob,I.jA,I.rU,⟨_,hn,λy vv e1 e2=>?_⟩,λy vv e1 e2=>?_⟩,I.fc,I.l9,λz c hc=>?_⟩
 ·obtain d4:=(eW _ _ _ _).symm.trans e1;by_cases hy:y=x
  ·clear hn e0 t0 h0 w4 w3 w2 w1;subst hy;rw[H5 rfl]at d4;have e:=si d4;subst e;clear d4;exact i12 u (H5 rfl) r
  ·rw[Ir hy]at d4;refine aQ (EH y vv d4 e2) λu' a b=>i12 u' ((Ir λq=>hy q).trans a) (b.wrote w5 aU.same λsp kZ a ha=>?_);simpa using(fy I.b9 kZ ha).1
 ·obtain hy:y≠x:=λq=>by rw[q,hk]at e2;cases e2
  obtain d4:=(eW _ _ _ _).symm.trans e1;rw[Ir hy]at d4;refine j4 (I.cell y vv d4 e2) λc u' a o1 d=>?_;obtain⟨o,ho,hd⟩:=o1;refine mD c u' a ⟨o,hs c o (gq c (I.il _ c a).1) ho,hd⟩ (d.wrote w5 aU.same λsp kZ a ha=>?_);simpa using(fy I.b9 kZ ha).1
 ·obtain⟨q,v,o,ho,hd⟩:=I.il z c hc;exact⟨q,v,o,hs c o (gq c q) ho,hd⟩
end
noncomputable def sO(sc scope:IH)(x:HP)(line ao2:HG):Ig:=
 sc.names.lookup x==hb .local&&line==ao2&& !(scope.names.any λp=>p.1==x&&(p.2==.local||p.2==.cell))
variable{jn:HR}
theorem ab5{gens:Hn Lb}{line:HG}(hs:K.scope=sc)(hk:sc.kind=.function):
  JU (.ListComp jn gens scope pos) (hb (.Name x p)) line K=pure (sO sc scope x p.line pos.line):=by
 delta JU sO Env.blockKind KG
 simp only[hs,hk];rfl
theorem S1.acK{jk:Hn HR}{p:J3}(ok:jC scope sc locs=Hq)
  (hi:It Y w U n sc gR iter mi)(ht:xO Y w U (dE scope sc) locs gR bind)(ye:xW Y w U n (dE scope sc) jk mt)(he:Ev Y w U n (dE scope sc) jn me)(iS:sO sc scope x p.line p9.line=Hq):
  S1 Y w U n sc (.Assign [.Name x p] (.ListComp jn [⟨gR,iter,jk,0⟩] scope p9) pos) (λL=>(qZ mi locs bind mt me L).map λys=>.next (L.set x (.val ⟨.list ys,.d⟩))):=by
 intro A Hz K ae X C L O s r Q E hs hA I R hQ;induction dI R with|mk ys p8=>?_
 obtain⟨⟨B,f⟩,hv,hd⟩:=ao p8;have OK:=oo.of ok;have hk:K.kindOf x=hb .local:=by simp only[sO,HU]at iS;unfold KG;exact hs.symm▸eq_of_beq iS.1.1
 obtain qb:∀p∈scope.names,p.2=.free->∃c,K.cells.lookup p.1=hb c:=λp hp e=>I.rU p.1 (by unfold KG;exact hs.symm▸OK.free p hp e);obtain ao4:JU (.ListComp jn [⟨gR,iter,jk,0⟩] scope p9) (hb (.Name x p)) pos.line K=pure Hq:=by(refine(ab5 hs (by exact hs▸I.kind)).trans ?_;exact HL _ iS)
 refine wR (exec_Assign_Name_used _ _ _ _ ao4)<|Ht (M4 (Ht (Ht (Kf (M5 (use:=hb (PySem.assign (.Name x p) K)) (Q:=λ_ s'=>Q .next s') (g:=⟨gR,iter,jk,0⟩) (gs:=[]) rfl (hi.1 K) (iA qb) OK.kind (λx hx e=>(OK.locs x hx e).1) ?_)
  (λ_ s' hq=>HV (HV hq)) λ_ _ e=>e))))
 refine oW OK hi ht ye he hs hA I.toInF hv hd λD C' s' cs m k rd cw fr hC hn=>aQ I.ns λmL G9 hvL=>?_;obtain hLs:∃o,s.heap.get? K.locals=hb o:=by exact uB G9 λo o1 o2 ho o3=>u9 o ho
 have hLC:K.locals≠C':=λq=>by refine dz hLs λo ho=>?_;rw[q,hC]at ho;exact no ho
 refine L5 (Nr hk (G9.keeps (ag k)) (λmq ao8 iw=>?_) (by refine I.kind.symm▸?_;rfl));refine i12 m (hn.sameBut iw (K9 hLC)) (λm7 iJ=>?_);have kk:∀b o,b≠K.locals->s.heap.get? b=hb o->m7.get? b=hb o:=λb o Hk e=>
  (iJ.2 b λq=>by rw[q,hC]at e;exact no e).trans ((iw.2 b Hk).trans (ag k b o e))
 refine my k λh1 t1 e1 g1=>?_;clear iS he ye ht hi ok p8 hLs ao4 qb OK hd hv f B hC k p R hA hs E r A;subst e1;have fr':∀a∈D::cs,ae.heap.get? a=Hu/\a∉WW K C O:=λa ha=>I.toInF.fresh (fr a ha).1;obtain Ao:RD Y w Hz m7 (.ref D) (.list ys) (D::cs):=by
  refine rd.off (W:=[K.locals,C']) (λb o e hc=>?_) λa ha=>?_
  ·obtain Hk:b≠K.locals:=λq=>by
    rcases hc with hc|hc
    ·exact hc (by simp[q])
    ·refine vc G9 λo' es ep jU kS o1=>pQ hc λo1 o2 z=>?_;rw[q,g1 _ _ jU]at e;have e:=si e;subst e;clear e;rw[z]at kS;cases kS
   obtain hbC:b≠C':=λq=>by
    rcases hc with hc|hc
    ·exact hc (by simp[q])
    ·refine vc hn λo' es ep jU kS o1=>pQ hc λo1 o2 z=>?_;rw[q]at e;rw[e]at jU;have e:=si jU;subst e;clear jU;rw[z]at kS;cases kS
   exact(iJ.2 b hbC).trans ((iw.2 b Hk).trans e)
  ·simp only[Hw,Ia,Kv,LR];exact gQ (λq=>(fr' a ha).2 (q▸.head _)) (fr a ha).2
 refine hQ O _ (I.setG (u:=.ref D) (v:=.val ⟨.list ys,.d⟩) hk hvL (ao8.sameBut iJ hLC) kk ⟨.inl rfl,D::cs,Ao,cw,fr'⟩) ⟨λb o e aO=>kk b o (λq=>aO (q▸.head _)) e,λ_ h=>.inl h⟩
noncomputable def lS:Ho->I2
 |.none=>"NoneType"
 |.bool _=>"bool"
 |.int _=>"int"
 |.str _=>"str"
 |.list _=>"list"
 |.tuple _=>"tuple"
 |.dict _=>"dict"
def wY(T:I2)(x:Ho):Ig:=lS x==T||(lS x=="bool"&&T=="int")
def yT:Ho->Ig
 |.dict aW=> !dQ aW
 |_=>HH
def zt(T:I2)(x:Ho):Hp V:=if yT x=Hq then Hu else hb ⟨.bool (wY T x),.d⟩
structure rY(T:I2):Prop where
 ty:typeOf (.type T)=pure (.type "type")
 sub:∀x:Ho,Ml (.type (lS x)) (.type T)=pure (wY T x)
theorem rY.of(ty:typeOf (.type T)=pure (.type "type"))(h1:Ml (.type "NoneType") (.type T)=pure (wY T .none))(h2:Ml (.type "bool") (.type T)=pure (wY T (.bool Hq)))
  (h3:Ml (.type "int") (.type T)=pure (wY T (.int 0)))(h4:Ml (.type "str") (.type T)=pure (wY T (.str KQ)))(h5:Ml (.type "list") (.type T)=pure (wY T (.list [])))(h6:Ml (.type "tuple") (.type T)=pure (wY T (.tuple [])))
  (h7:Ml (.type "dict") (.type T)=pure (wY T (.dict []))):rY T:=by
 refine⟨ty,λx=>?_⟩;cases x<;>assumption
theorem agQ:rY "int":=by refine .of ?_ ?_ ?_ ?_ ?_ ?_ ?_ ?_<;>first|kernel_rfl|(rw[Ls];kernel_rfl)
theorem aeh:rY "bool":=by refine .of ?_ ?_ ?_ ?_ ?_ ?_ ?_ ?_<;>first|kernel_rfl|(rw[Ls];kernel_rfl)
theorem afX:rY "str":=by refine .of ?_ ?_ ?_ ?_ ?_ ?_ ?_ ?_<;>first|kernel_rfl|(rw[Ls];kernel_rfl)
theorem aev:rY "list":=by refine .of ?_ ?_ ?_ ?_ ?_ ?_ ?_ ?_<;>first|kernel_rfl|(rw[Ls];kernel_rfl)
theorem ac5:rY "tuple":=by refine .of ?_ ?_ ?_ ?_ ?_ ?_ ?_ ?_<;>first|kernel_rfl|(rw[Ls];kernel_rfl)
variable{x:Ho}
theorem ak2(h:wY T x=HH):(LZ (lS x)==LZ T)=HH:=by
 cases e:(LZ (lS x)==LZ T)with
 |false=>rfl
 |true=>have:=eq_of_beq e;cases this;simp[wY]at h
theorem aeg(hT:rY T)(r:RD Y w Hz s.heap u x as)(hi:yT x=HH)
  (h:∀s',I8 s s'->Q (.bool (wY T x)) s'):wpAny (Iq Y w) A (call (.builtin "isinstance") [u,.type T]) Q E s:=by
 have tr:∀{u:HE}{x:Ho},s.TypeIs u (lS x)->(∀s',I8 s s'->Q (.bool (wY T x)) s')->((LZ (lS x)==LZ T)=HH->Ml (.type (lS x)) (.type T)=pure HH->Q (.bool HH) {s with toks:=s.toks+1}->wpAny (Iq Y w) A (call (.builtin "isinstance") [u,.type T]) Q E s)->wpAny (Iq Y w) A (call (.builtin "isinstance") [u,.type T]) Q E s:=λ{u x} hx h f=>by
  have e9:=hT.sub x;cases e:wY T x with
  |true=>rw[e]at e9 h;exact KI (isinstance_true hT.ty e9) ⟨hx,h s (aD s)⟩
  |false=>rw[e]at e9 h;exact f (ak2 e) e9 (h _ (aK s (s.toks+1)))
 have H:=r.head;clear r;cases x with
 |none=>cases H;exact tr (x:=.none) rfl h λgq e9 hq=>KI (isinstance_false_none gq hT.ty e9) hq
 |bool b=>cases H;exact tr (x:=.bool b) rfl h λgq e9 hq=>KI (isinstance_false_bool gq hT.ty e9) hq
 |int i=>induction H with|mk t=>exact tr (x:=.int i) rfl h λgq e9 hq=>KI (isinstance_false_int gq hT.ty e9) hq
 |str x=>induction H with|mk t=>exact tr (x:=.str x) rfl h λgq e9 hq=>KI (isinstance_false_str gq hT.ty e9) hq
 |list B=>induction H with|mk a vs n bs h1 h2=>exact tr (i12 _ h1 rfl) h λgq e9 hq=>KI (isinstance_false_list gq hT.ty e9) ⟨⟨_,h1,rfl⟩,hq⟩
 |tuple B=>induction H with|mk a vs n h1 hz h2=>exact tr (i12 _ h1 rfl) h λgq e9 hq=>KI (isinstance_false_tuple gq hT.ty e9) ⟨⟨_,h1,rfl⟩,hq⟩
 |dict ps=>induction H.2.2 (by cases e:dQ ps with|true=>rfl|false=>rw[show yT (.dict ps)= !dQ ps from rfl,e]at hi;cases hi)with|mk a aW B bs h1 h2 h3 h4=>exact tr (x:=.dict _) h1.typeIs h λgq e9 hq=>KI (isinstance_false_dict gq hT.ty e9) ⟨h1.typeIs,hq⟩
theorem Ev.alc{tp:J3}(hT:rY T)(hx:aY sc "isinstance"=Hq)(hg:bt U "isinstance" (.builtin "isinstance"))(vm:aY sc T=Hq)(hg':bt U T (.type T))(h:Ev Y w U n sc e m)
  (he:∀K,Ie [e,.Name (HA T) tp] K=[(HH,Jf e K),(HH,Jf (.Name (HA T) tp) K)]):
  Ev Y w U n sc (.Call (.Name (HA "isinstance") np) [e,.Name (HA T) tp] [] pos) (λL=>(m L).bind λv=>zt T v.x):=by
 intro A Hz K ae X C L O s v Q E hs hA I;refine ak λv hv R hQ=>?_;unfold zt at R;split at R
 ·cases R
 rename_i m9;have e:=si R;subst e;clear R;refine Ht (dh I (by exact hs.symm▸hx) hg ?_);rw[he];refine M9 rfl (Nx (Ly (h hs hA I hv λu ay ah aL=>?_)));obtain⟨as,rd,c,_⟩:=aL;exact Ly (dh (I.grow ah) (by exact hs.symm▸vm) hg' (LB (aeg hT rd (by simpa using m9) λs' k=>hQ _ _ (ab ah k) dK.bool)))
noncomputable def nc:Hn Ho->Hp (Hn HP)
 |[]=>hb []
 |.str x::B=>(nc B).map (x::·)
 |_::_=>Hu
def pG(sep:HP)(B:Hn Ho):Hp Ho:=
 (nc B).bind λts=>if JoinOk sep ts=Hq/\wf (.str (Qr sep ts))=Hq then hb (.str (Qr sep ts))else Hu
theorem ace(h:nc (x::B)=hb ts):∃s DX,x=.str s/\nc B=hb DX/\s::DX=ts:=by
 cases x with
 |str s=>exact aQ (H6.mp h) λDX h1 h2=>mD s DX rfl h1 h2
 |_=>exact no h
theorem bH.strs(r:bH Y w Hz h vs B as)(e:nc B=hb ts):∃l,vs=strValues l/\l.map (·.1)=ts:=by
 refine bH.ind (aH:=λvs B _=>∀ts,nc B=hb ts->∃l,vs=strValues l/\l.map (·.1)=ts) (λts e=>?_) (λa _ r ts e=>?_) r ts e
 ·have e:=si e;subst e;clear e;exact i12 ([]) rfl rfl
 ·refine j4 (ace e) λs DX o1 h1 o2=>?_;subst o1;subst o2;induction a.ig with|mk t=>?_
  exact aQ (r DX h1) λl e1 e2=>i12 ((s,t)::l) (by refine e1.symm▸?_;rfl) (by refine e2▸?_;rfl)
set_option tactic.hygienic true in
theorem Ev.join{kp ap pos:J3}{e:HR}{m:ar->Hp V}(h:Ev Y w U n sc e m)(hl:(ap.endLine==pos.line)=Hq)(he:∀K,Ie [e] K=[(HH,Jf e K)]):
  Ev Y w U n sc (.Call (.Attribute (.Constant (.str sep) k kp) (HA "join") ap) [e] [] pos) (λL=>(m L).bind λv=>(match v.x with|.list B=>pG sep B|_=>Hu).map λy=>⟨y,.d⟩):=by
 intro A Hz K ae X C L O s v Q E hs hA I;refine ak λa ha R hQ=>?_;induction dI R with|mk y hy=>?_
 refine J5 rfl (by rw[he];rfl) hl F.plainAttrs_str F.slot_str_join F.type_str_join<|Kf (MK (x:=sep) (Q:=λu s'=>∃t,u=.str sep t/\I8 s s') ⟨_,rfl,aK s _⟩) (λu ay hu=>?_) λ_ _ e=>e
 ·clear hl ap kp R v;refine aQ hu λt o1 ah=>?_;subst o1;refine l6 (Ql _ _ _) (λ_ e=>nomatch e) ?_;rw[he];refine M9 rfl (Nx (Ly (h hs hA (I.grow ah) ha λu aN aI cY=>LB ?_)));obtain⟨as,rd,c,_⟩:=cY;split at hy
  ·rename_i B hx;rw[hx]at rd;obtain⟨ts,h1,h2⟩:=ao hy;split at h2
   ·rename_i l7;have e:=si h2;subst e;clear h2;obtain H:=rd.listI;clear he h pos c rd hx e hu ha I hA hs X L;induction H with|mk o1 o2 o3 o4 a r=>?_
    clear m;refine aQ (r.strs h1) λl o1 e2=>?_;subst o1;exact SC.join ⟨_,a,rfl,_,rfl⟩ e2 l7.1 λt' k=>hQ _ _ (ab ah (ab aI (aK _ _))) (dK.str l7.2)
   ·exact no h2
  ·exact no hy
set_option tactic.hygienic true in
theorem S1.extend{x:HP}{e:HR}{p ap cp pos:J3}{m:ar->Hp V}(h:Ev Y w U n sc e m)(hv:aA sc x=Hq)(he:∀K,Ie [e] K=[(HH,Jf e K)])(hl:(ap.endLine==cp.line)=Hq)
  (hi:∀K:Ke,K.scope=sc->KJ K=HH):
  S1 Y w U n sc (.Expr (.Call (.Attribute (.Name x p) (HA "extend") ap) [e] [] cp) pos)
   (λL=>match L x with|some (.own (.lst B))=>(m L).bind λv=>(match v.x with|.list ys=>if v.fl=.d/\B.length+ys.length<=sizeLine then hb (.next (L.set x (.own (.lst (B++ys)))))else Hu|_=>Hu)|_=>Hu):=by
 intro A Hz K ae X C L O s r Q E hs hA I R hQ;dsimp only at R;split at R
 ·rename_i B hx;obtain⟨v,k9,R⟩:=ao R;split at R
  ·rename_i ys hy;revert R;refine jl λhz R=>?_
   ·cases R;refine LP (J5 rfl (by rw[he];rfl) hl LY PZ P0 (I.owned (by exact hs.symm▸hv) hx (λ_ _ q=>by cases q) λa hO r=>?_)) (hi K hs);clear hi hl hv pos ap p;induction r.AM with|mk vs k as a1 b c d=>?_
    refine l6 ⟨_,a1,rfl⟩ (λa' ea=>by cases ea;exact⟨_,a1,rfl⟩) ?_;rw[he];show wpAny _ _ (Lq cp (.builtin "list.extend") [.ref a] [(HH,Jf e K)] []) _ _ _;refine Q5 (h hs hA I.toInF k9 λu ay ah aL=>?_);obtain gU:=I.grow ah;have D3:=ag ah _ _ a1;rw[aV]at c;obtain a8:=b.length;obtain⟨bs,rv,cv,ov⟩:=aL;rw[hy]at rv cv;rw[hz.1]at ov;obtain H:=rv.listI;clear he h cp e a1 rv k9 I hA hs E A;induction H with|mk b' ws k2 bs b1 rvs=>?_
    have Am:=rvs.length;rw[aV]at cv;refine Fe b' vs.toArray ws.toArray k k2 (by simp[a8];exact c.1) (by simp[a8,Am];exact JZ hz.2) (PyProof.Rows.extend_door (by simp[a8,Am];exact hz.2)) rfl D3 b1<|dz (gj vs k (λB=>B++ws.toArray)) λk' ek=>?_;have hG:(ay.heap.update a (JB λB=>B++ws.toArray)).get? a=hb (cq (vs++ws) k'):=by rw[Jb _ D3 rfl,ek];simp
    refine hQ O _ (gU.s9 (tk:=ay.toks) hx hO (JL _ _ _) ⟨_,hG,bw _ _⟩ λu' r' off=>?_) ((Step.cM (ag ah)).trans (nJ hO (JL _ _ _)));clear Am a8 D3 gU ek b1 k2 k hO hx hQ Q X;cases r' with
    |lst a2 b2 c2 d2=>
     refine .lst (as:=as++bs) hG (((b.grow (ag ah)).off off λy hy=>(d y hy).2).append (rvs.off off λy hy=>(ov y (.tail _ hy)).2)) (aV.mpr ⟨by simpa using hz.2,?_⟩) ?_
     ·rw[eI,c.2];exact cv.2
     ·exact da.append d λy hy=>ov y (.tail _ hy)
  ·exact no R
 ·exact no R
def qK(Y:IB)(w:Ja)(U:Iv)(n:HG)(x:HP)(m:Hn Ho->Hp Ho):Prop:=
 ∃a o fd,bt U x (.ref a)/\U.get? a=hb o/\o.data=.func fd/\Fn Y w U n a m
def lO(U:Iv)(x:HP)(sc:IH)(ps:Hn HP)(body:Hn IM):Prop:=∃a,bt U x (.ref a)/\jq U a sc ps body
theorem Fn.mono{m:Hn Ho->Hp Ho}(h:Fn Y w U k jo m)(hk:k<=n):Fn Y w U n jo m:=by intro A Hz s us B as y Q E hA b rd hw R hQ;exact h (hA.mono hk) b rd hw R hQ
variable{x:HP}
theorem qK.of{m:ar->Hp Out}(D:lO U x sc ps body)(h:St Y w U n sc body m)(spec:Hn Ho->Hp Ho)(R:∀B y,spec B=hb y->BI ps m B=hb y):
  qK Y w U (n+1) x spec:=by
 refine aQ D λa g D=>vc D.there λfo fd args ho hd o1=>A3 a fo fd g ho hd ?_;intro A Hz s us B as y Q E hA b rd hw hy hQ;exact Fn.def D h hA b rd hw (R B y hy) hQ
theorem Ev.def{m:Hn Ho->Hp Ho}(h:qK Y w U k x m)(yG:rL Y w U n sc es ms)(hx:aY sc x=Hq)(hk:k<=n)
  (er:∀K:Ke,(J4 pos (Ie es K)).any (·.1)=HH):
  Ev Y w U n sc (.Call (.Name x np) es [] pos) (λL=>(ms L).bind λvs=>(m (vs.map (·.x))).map λy=>⟨y,.d⟩):=by
 exact Au h λa o fd g ho hd hf=>Ev.fn hx g ho hd yG (hf.mono hk) er
structure BQ(U:Iv):Prop where
 len:bt U "len" (.builtin "len")
 isinstance:bt U "isinstance" (.builtin "isinstance")
 range:bt U "range" (.type "range")
 int:bt U "int" (.type "int")
 bool:bt U "bool" (.type "bool")
 str:bt U "str" (.type "str")
 list:bt U "list" (.type "list")
 tuple:bt U "tuple" (.type "tuple")
theorem S1.abA{jk:Hn HR}(ok:jC scope sc locs=Hq)
  (hi:It Y w U n sc gR iter mi)(ht:xO Y w U (dE scope sc) locs gR bind)(ye:xW Y w U n (dE scope sc) jk mt)(he:Ev Y w U n (dE scope sc) jn me)(iS:sO sc scope x p.line p9.line=HH)(hk:sc.kind=.function)(hv:aA sc x=Hq):
  S1 Y w U n sc (.Assign [.Name x p] (.ListComp jn [⟨gR,iter,jk,0⟩] scope p9) pos) (λL=>(qZ mi locs bind mt me L).map λys=>.next (L.set x (.val ⟨.list ys,.d⟩))):=by
 obtain h:=S1.assign (x:=x) (p:=p) (pos:=pos) (Ev.comp (pos:=p9) ok hi ht ye he) hv (λK h=>by(refine(ab5 h hk).trans ?_;exact HL _ iS));intro A Hz K ae X C L O s r Q E hs hA I R hQ;induction dI R with|mk ys p8=>?_
 exact h hs hA I (by dsimp only;refine p8.symm▸?_;rfl) hQ
end
theorem ab1{a:HI}(h1: -(2^64)<a)(h2:a<2^64):smallInt a=Hq:=by exact Ip (intBits_le_64 h1 h2)
noncomputable def S(l:Hn HG):HP:=⟨l.toArray⟩
theorem lI(l:Hn HG):(S l).length=l.length:=Jd
theorem q6(a b:Hn HG):S a++S b=S (a++b):=by show Rm _ _=_;simp[S,Rm]
variable{a b:Hn HG}
theorem jt(h:S a=S b):a=b:=by have:=HL Str.cps h;simpa[S]using this
theorem apX:S a=S b↔a=b:=⟨jt,λh=>by rw[h]⟩
theorem apZ{l:Hn HG}(h1:l.length<=sizeLine)(h2:∀c∈l,c<0x110000):wf (.str (S l))=Hq:=by rw[iD,lI];refine⟨?_,h1⟩;unfold Ki S;rw[Mn];intro c hc;simpa using h2 c (by simpa using hc)
theorem acR:∀ts:Hn (Hn HG),Qr KQ (ts.map S)=S ts.flatten:=by
 intro ts;show Rn KQ (ts.map S)=_;rw[StrLaws.glued_eq_join];induction ts with
 |nil=>rfl
 |cons a ts ih=>
  induction ts with
  |nil=>simp[Str.join]
  |cons b ts=>show S a++KQ++Str.join KQ ((b::ts).map S)=_;rw[ih,show KQ=S []from rfl,q6,q6];simp
theorem ac8(ts:Hn HP):nc (ts.map .str)=hb ts:=by
 induction ts with
 |nil=>exact rfl
 |cons t ts bY=>exact HL (Jo (t::·)) bY
theorem ahC{ts:Hn (Hn HG)}(h1:ts.flatten.length<=1000)(h2:ts.length<=1000)(h3:∀t∈ts,∀c∈t,c<0x110000):pG KQ (ts.map λt=>.str (S t))=hb (.str (S ts.flatten)):=by
 obtain e:(ts.map λt=>JF (S t))=(ts.map S).map .str:=by simp
 unfold pG;rw[e,ac8];simp only[HT];rw[acR];refine H5 ⟨?_,apZ (Hs h1 (by decide)) λc hc=>?_⟩
 ·obtain hs:((ts.map S).map (·.length)).sum=ts.flatten.length:=by rw[List.length_flatten,Ii];exact HL _ (J0 λt _=>lI t)
  unfold JoinOk Ro;rw[StrLaws.joinTotal,hs];obtain hz:KQ.length=0:=rfl;obtain hl:(1000:HG)<=sizeLine:=by decide
  rw[hz,Nat.mul_zero,Nat.add_zero,JI,Na];exact JH.mpr (Hs h1 hl)
 ·exact aQ (List.mem_flatten.mp hc) λt ht hc=>h3 t ht c hc
variable{α:Type}
theorem pick_run(B:Hn α)(a:HG):∀n,a+n<=B.length->((H0 n).map (λk=>a+k)).filterMap (B[·]?)=(B.drop a).take n:=by
 intro n;induction n with
 |zero=>intro _;exact O9
 |succ n ih=>intro h;rw[P4,HJ,List.filterMap_append,ih (IK h),KD];congr 1;rw[List.getElem?_drop,HS,MX,I1,List.filterMap_nil];rw[HQ (by exact NR h)];rfl
theorem iZ(B:Hn α)(a b:HG)(U:b<=B.length):((H0 (b-a)).map (λk=>a+k)).filterMap (B[·]?)=(B.take b).drop a:=by
 rw[List.drop_take];by_cases h:a<=b
 ·exact pick_run B a (b-a) (Hs (JY (Nat.add_sub_cancel' h)) U)
 ·rw[show b-a=0 by exact KZ (IK (PB.mp h))];exact O9
theorem sliceRange_one(a b:HG):ON (a:HI) (b:HI) 1=(H0 (b-a)).map λk=>a+k:=by
 unfold ON;simp only[show(1:HI)>0 by decide,MU];split
 ·have:((b:HI)-a+1-1)/1=((b-a:HG):HI):=by rw[OQ];exact amm ‹_›
  rw[this,ME];exact J0 λk _=>by(rw[Q3];rfl)
 ·have:b-a=0:=KZ (I4.mp (Kq.mp ‹_›));rw[this];rfl
noncomputable def eH(v:Hp HI)(n:HG):HG:=match v with
 |none=>0
 |some i=>if i<0 then(i+n).toNat else min i.toNat n
noncomputable def fh(v:Hp HI)(n:HG):HG:=match v with
 |none=>n
 |some i=>if i<0 then(i+n).toNat else min i.toNat n
theorem oU(v:Hp HI)(n:HG):fh v n<=n:=by
 unfold fh;split
 ·exact Io _
 ·split<;>first|exact tl0 ‹_›|exact I7 _ _
theorem ad8(v:Hp HI)(n:HG):eH v n<=n:=by
 unfold eH;split
 ·exact JS _
 ·split<;>first|exact tl0 ‹_›|exact I7 _ _
variable{i:HI}{n:HG}
theorem nO(h:i<0):max 0 (min (i+n) n)=(((i+n).toNat:HG):HI):=by rw[N8 (HY (Md (IZ h) _) (OJ (NL _))),Int.toNat_eq_max,Int.max_comm]
theorem lz(h:¬i<0):max 0 (min i n)=((min i.toNat n:HG):HI):=by
 obtain h':0<=i:=Kq.mp h;rw[MS (Int.le_min.mpr ⟨h',H3 _⟩)];rcases QR i n with q|q
 ·rw[N8 q,Jk (JE.mpr q),Lu h']
 ·rw[PQ q,KP ((Int.le_toNat h').mpr q)]
theorem acn(lo hi:Hp HI)(n:HG):de lo hi Hu n=(H0 (fh hi n-eH lo n)).map λk=>eH lo n+k:=by
 rw[<-sliceRange_one];unfold de Jr;simp only[MF,show(1:HI)>0 by decide,MU];congr 1
 ·cases lo with
  |none=>rfl
  |some i=>
   simp only[eH];split
   ·exact nO ‹_›
   ·exact lz ‹_›
 ·cases hi with
  |none=>rfl
  |some i=>
   simp only[fh];split
   ·exact nO ‹_›
   ·exact lz ‹_›
theorem slice_list(lo hi:Hp HI)(B:Hn Ho):kr lo hi Hu (.list B)=hb (.list ((B.take (fh hi B.length)).drop (eH lo B.length))):=by show(if(Hu:Hp HI)=hb 0 then Hu else hb (Mw ((de lo hi Hu B.length).filterMap (B[·]?))))=_;rw[Ir (by nofun),acn,iZ _ _ _ (oU _ _)]
theorem acd(lo hi:Hp HI)(n:HG):IQ lo hi 1 n=(H0 (fh hi n-eH lo n)).map λk=>eH lo n+k:=by
 rw[<-sliceRange_one];unfold IQ;simp only[show(1:HI)>0 by decide,MU];congr 1
 ·cases lo with
  |none=>rfl
  |some i=>
   simp only[eH];split
   ·exact nO ‹_›
   ·exact lz ‹_›
 ·cases hi with
  |none=>rfl
  |some i=>
   simp only[fh];split
   ·exact nO ‹_›
   ·exact lz ‹_›
theorem aeA(lo hi:Hp HI)(l:Hn HG):kr lo hi Hu (.str (S l))=hb (.str (S ((l.take (fh hi l.length)).drop (eH lo l.length)))):=by
 unfold kr;simp only[MF,show((1:HI)=0)=Jg by simp,K8];rw[acd,lI];congr 2;split
 ·rename_i h;obtain h2:=h.2;simp at h2;have:=oU hi l.length;have:=ad8 lo l.length;rw[show eH lo l.length=0 by exact apB h2 ‹_› this,show fh hi l.length=l.length by lia -abstractProof];simp
 ·rw[<-(iZ l (eH lo l.length) (fh hi l.length) (oU _ _))];unfold S;simp
noncomputable def zL(bind:V->ar->Hp ar)(test:ar->Hp Ig)(jn:ar->Hp V)(L:ar)(x:Ho):Hp (Hp Ho):=
 (bind (V.fix x .s) L).bind λjx=>(test jx).bind λc=>if c then(jn jx).bind λv=>if v.fl=.d then hb (hb v.x)else Hu else hb Hu
variable{x y:HP}{f g:Fl}
theorem akR(h:x.length+y.length<=sizeLine):gE .Add ⟨.str x,f⟩ ⟨.str y,g⟩=hb ⟨.str (x++y),.d⟩:=by
 have:aoA .Add (.str x) (.str y)=hb (.str (x++y)):=by exact(H5 h)
 unfold gE;refine this.symm▸?_;rfl
theorem ael{B:Hn α}{k:HI}(h:0<=k):eZ B k=B[k.toNat]? :=H5 h
theorem ah0(h:n<=1000):n<=sizeLine:=Hs h (by decide)
variable{β:Type}
theorem aj0(f:α->β)(l:Hn α):(l.map λj=>[f j]).flatten=l.map f:=by
 induction l with
 |nil=>exact rfl
 |cons a l bY=>(refine HS.symm▸List.flatten_cons.symm▸bY.symm▸?_);rfl
theorem ai2(h:0<=i)(h':i<=n):fh (hb i) n=i.toNat:=by simp only[fh];exact iF (MQ h)<|Jk (JE.mpr h')
theorem adZ(h:0<=i)(h':i<=n):eH (hb i) n=i.toNat:=by simp only[eH];exact iF (MQ h)<|Jk (JE.mpr h')
theorem aiK:eH Hu n=0:=rfl
theorem afe(h:a.length+b.length<=1000):gE .Add ⟨.str (S a),f⟩ ⟨.str (S b),g⟩=hb ⟨.str (S (a++b)),.d⟩:=by(refine(akR (by rw[lI,lI];exact ah0 h)).trans ?_;rw[q6])
noncomputable def qg:Hn HG:=(H0 26).map (97+·)
theorem ahB:HA ""=KQ:=by decide +kernel
theorem ac3(h0:0<=i)(h1:i<26):eZ qg i=hb (97+i.toNat):=by refine(ael h0).trans ?_;unfold qg;(refine Iz.trans ?_;rw[Nl ((Lz (by decide)).mpr h1)]);rfl
noncomputable def run(m:ar->Hp Out)(L:ar):Hp Out:=m L
theorem kM(f:HG->α)(n:HG):(H0 (n+1)).map f=(H0 n).map f++[f n]:=by(refine P4.symm▸?_;refine HJ.symm▸?_);rfl
variable{i:HG}
theorem jK(f:HG->α)(h:i<n):((H0 n).map f)[i]? =hb (f i):=by(refine Iz.trans ?_;refine(Nl h).symm▸?_);rfl
mutual
theorem qy:∀x:Ho,nd x=Hq->IX x x=Hq
 |.none,_=>by assumption
 |.bool _,_=>Ih _
 |.int _,_=>Ih _
 |.str _,_=>Ih _
 |.list B,h=>oH B h
 |.tuple B,h=>oH B h
 |.dict _,h=>Iu h
theorem oH:∀B:Hn Ho,xV B=Hq->KE B B=Hq
 |[],_=>by assumption
 |x::B,h=>by
  simp only[xV,HU]at h;simp[KE,qy x h.1,oH B h.2]
end
def plain(k:HG)(x:Ho):Prop:=nd x=Hq/\x.depth<=k
variable{k:HG}{x:Ho}
theorem b8{j:HG}(h:plain j x)(hk:j<=k):plain k x:=⟨h.1,Hs h.2 hk⟩
theorem aaw:plain 1 .none:=⟨rfl,JS _⟩
theorem eT(b:HI):plain 1 (.int b):=⟨rfl,JS _⟩
theorem bR(b:HP):plain 1 (.str b):=⟨rfl,JS _⟩
variable{B:Hn Ho}
theorem aao:(∀x∈B,x.depth<=k)->Mb B<=k:=by
 induction B with
 |nil=>intro _;exact JS _
 |cons x B bY=>intro h;obtain h2:=bY λy hy=>h y (.tail _ hy);simp only[Mb];exact Nat.max_le_of_le_of_le (h x (.head _)) h2
theorem cU(h:∀x∈B,plain k x):plain (k+1) (.list B):=by
 refine⟨?_,?_⟩
 ·exact(tu B).mpr λx hx=>(h x hx).1
 ·have:=aao λx hx=>(h x hx).2;simp only[Qc];exact Im this 1
theorem ic(h:∀x∈B,plain k x):plain (k+1) (.tuple B):=by
 refine⟨?_,?_⟩
 ·exact(tu B).mpr λx hx=>(h x hx).1
 ·have:=aao λx hx=>(h x hx).2;simp only[Qc];exact Im this 1
theorem Bc(hx:plain 60 x)(hy:plain 60 nZ):bW .NotEq x nZ=hb (!IX x nZ):=by
 have:(nd x&&nd nZ&&decide (min x.depth nZ.depth<=60))=Hq:=by have:=hx.2;simp only[hx.1,hy.1,MG,Qs,Ik];exact Hs (Mm _ _) this
 exact HL (Jo (!·)) (H5 this)
theorem AO(hx:plain 60 x)(hy:plain 60 nZ):bW .Eq x nZ=hb (IX x nZ):=by
 have:(nd x&&nd nZ&&decide (min x.depth nZ.depth<=60))=Hq:=by have:=hx.2;simp only[hx.1,hy.1,MG,Qs,Ik];exact Hs (Mm _ _) this
 exact H5 this
theorem aaT(hx:plain 60 x):bW .Eq x x=hb Hq:=by(refine(AO hx hx).trans ?_;exact HL _ (qy x hx.1))
section
section
variable{ae s s':HM}{X C:Hn Hv}{K:Ke}{L:ar}{O:Hn (HP×Hn Hv)}
theorem du.ahW(I:du Y w Hz U ae X K C L O s)(k:I8 s s')(x:HP){D:Hv}(hD:s.heap.get? D=Hu)(hD':s'.heap.get? D=hb o)(ho:¬j0 o):
  du Y w Hz U ae X K C (L.del x) ((x,[D])::O) s':=by
 have hW:∀b,b∈WW K C ((x,[D])::O)->b=D∨b∈WW K C O:=by
  intro b aO;simp only[WW,IF,Hw,HD,Ia,Kv]at aO⊢;rcases aO with h|h|h|h
  ·exact .inr (.inl h)
  ·exact .inr (.inr (.inl h))
  ·exact .inl h
  ·exact .inr (.inr (.inr h))
 obtain g:=ag k;refine ew (I.toInF.fresh hD) λHc DU=>?_;obtain I':=I.grow k;refine⟨⟨I'.same,I'.base,I'.keep,I'.alive,λa ha=>?_,λa ha=>?_,?_,I.kind,I.glob,I.jA,I.rU,?_,λy vv e1 e2=>?_⟩,I.fc,I.l9,I'.il⟩
 ·rcases hW a ha with rfl|ha
  ·exact i12 o hD' ho
  ·exact I'.cO a ha
 ·rcases hW a ha with rfl|ha
  ·refine gQ ?_ (λ_=>Hc);cases e:U.get? a with
   |none=>rfl
   |some o'=>exact no (hD.symm.trans (I.base.grow _ _ e))
  ·exact I.bZ a ha
 ·refine Nw ?_ (HZ.mpr ⟨DU,I.b9⟩);unfold WW;exact IF.symm▸(O6 ..).trans (O7 _ PK.symm)
 ·refine aQ I.ns λm R hv=>i12 m (R.keeps g) (λy vv e1 e2=>?_);have d4:(if y=x then Hu else L y)=hb vv:=e1;by_cases hy:y=x
  ·rw[H5 hy]at d4;exact no d4
  ·rw[Ir hy]at d4;exact aQ (hv y vv d4 e2) λu a b=>i12 u a ((b.more hD hW hy).grow g)
 ·have d4:(if y=x then Hu else L y)=hb vv:=e1;by_cases hy:y=x
  ·rw[H5 hy]at d4;exact no d4
  ·rw[Ir hy]at d4;exact j4 (I.cell y vv d4 e2) λc u a b d=>mD c u a (et b g) ((d.more hD hW hy).grow g)
theorem aeM(k:I8 s s')(x:HP){D:Hv}(hD:s.heap.get? D=Hu):Step s.heap s'.heap (WW K C O) (WW K C ((x,[D])::O)):=by
 refine⟨λb ob e _=>ag k b ob e,λb aO=>?_⟩;simp only[WW,IF,Hw,HD,Ia,Kv]at aO⊢;rcases aO with h|h|h|h
 ·exact .inl (.inl h)
 ·exact .inl (.inr (.inl h))
 ·exact .inr (h▸hD)
 ·exact .inl (.inr (.inr h))
end
def BK(Y:IB)(w:Ja)(U:Iv)(n:HG)(sc:IH)(e:HR)(m:ar->Hp (Hn Ho)):Prop:=
 ∀{{A:Jh}} {{Hz:Hn Hv}} {{K:Ke}} {{ae:HM}} {{X C:Hn Hv}} {{L:ar}} {{O:Hn (HP×Hn Hv)}} {{s:HM}} {{ys:Hn Ho}} {{Q:HE->HM->Prop}} {{E:HE->HM->Prop}},
  K.scope=sc->ey A n->InF Y w Hz U ae X K C L O s->m L=hb ys->
  (∀D cs s',I8 s s'->RD Y w Hz s'.heap (.ref D) (.list ys) (D::cs)->wf (.list ys)=Hq->(∀a∈D::cs,s.heap.get? a=Hu)->Q (.ref D) s')->wpAny (Iq Y w) A (Jf e K) Q E s
variable{sc:IH}{bind:V->ar->Hp ar}
theorem BK.comp{jn gR iter:HR}{jk:Hn HR}{pos:J3}{mi:ar->Hp (Hn Ho×Fl)}{mt:ar->Hp Ig}{me:ar->Hp V}(ok:jC scope sc locs=Hq)
  (hi:It Y w U n sc gR iter mi)(ht:xO Y w U (dE scope sc) locs gR bind)(ye:xW Y w U n (dE scope sc) jk mt)(he:Ev Y w U n (dE scope sc) jn me):
  BK Y w U n sc (.ListComp jn [⟨gR,iter,jk,0⟩] scope pos) (qZ mi locs bind mt me):=by
 intro A Hz K ae X C L O s ys Q E hs hA I p8 hQ;obtain⟨⟨B,f⟩,hv,hd⟩:=ao p8;obtain OK:=oo.of ok;obtain qb:∀p∈scope.names,p.2=.free->∃c,K.cells.lookup p.1=hb c:=λp hp e=>I.rU p.1 (by unfold KG;exact hs.symm▸OK.free p hp e);refine M5 (g:=⟨gR,iter,jk,0⟩) (gs:=[]) rfl (hi.1 K) (iA qb) OK.kind (λx hx e=>(OK.locs x hx e).1) (oW OK hi ht ye he hs hA I hv hd λD C' s' cs m k rd cw fr hC hn=>i12 m hn (λh' AD=>?_));obtain k':I8 s {s' with heap:=h'}:=by refine my k λh1 t1 e1 g1=>?_;clear he ye ht hi ok pos jk iter gR jn qb OK hd hv f B k p8 I hA hs E O L C X ae K A;subst e1;exact Ca h' t1 rfl (λb o e=>(AD.2 b λq=>by rw[q,hC]at e;exact no e).trans (g1 b o e))
 refine hQ D cs _ k' (rd.off (W:=[C']) (λb o e hc=>?_) (λa ha=>by simpa using(fr a ha).2)) cw λa ha=>(fr a ha).1;refine(AD.2 b λq=>?_).trans e;refine vc hn λo' es ep jU kS o1=>?_;rcases hc with hc|hc
 ·exact hc (by simp[q])
 ·rw[q,jU]at e;have e:=si e;subst e;clear e;refine pQ hc λo1 o2 z=>?_;rw[z]at kS;cases kS
theorem BK.def{x:HP}{k:HG}{es:Hn HR}{np pos:J3}{ms:ar->Hp (Hn V)}{m:Hn Ho->Hp Ho}(h:qK Y w U k x m)(yG:rL Y w U n sc es ms)(hx:aY sc x=Hq)(hk:k<=n)
  (er:∀K:Ke,(J4 pos (Ie es K)).any (·.1)=HH):
  BK Y w U n sc (.Call (.Name x np) es [] pos) (λL=>(ms L).bind λvs=>(m (vs.map (·.x))).bind λy=>match y with|.list ys=>hb ys|_=>Hu):=by
 refine Au h λa o fd g ho hd hf=>?_;intro A Hz K ae X C L O s ys Q E hs hA I;refine ak λvs ni=>ak λy hy R hQ=>?_;split at R
 ·have e:=si R;subst e;clear R;refine Ht (dh I (by exact hs.symm▸hx) g (dY (.inr (.inr ⟨a,o,fd,rfl,ho,hd⟩)) (er K) (yG hs hA I ni λus ay ah aL=>⟨(I.grow ah).base.grow,?_⟩)));refine kK aL.yw λas rd c o1=>(hf.mono hk) hA.toRoom (I.grow ah).base rd c hy λu bs s' k ru cu fr=>?_;obtain H:=ru.listI;clear er hk hx yG h pos np es ru c rd aL us hy ni I hA hs E X A hf hd ho g fd o a L;induction H with|mk o1 o2 o3 o4 a1 a2=>?_
  refine hQ _ _ s' (ab ah k) (.list a1 a2) cu λb aO=>?_;clear m ms x a2 a1 o3 o2 cu k s' hQ Q Hz;cases e:s.heap.get? b with
  |none=>rfl
  |some ob=>exact IG (fr b aO) (by refine(ag ah _ _ e).symm▸?_;nofun)
 ·exact no R
theorem S1.apO{x:HP}{e:HR}{p pos:J3}{m:ar->Hp (Hn Ho)}(h:BK Y w U n sc e m)(hv:aA sc x=Hq)(iS:∀K:Ke,K.scope=sc->JU e (hb (.Name x p)) pos.line K=pure HH):
  S1 Y w U n sc (.Assign [.Name x p] e pos) (λL=>(m L).bind λys=>if b7 ys=Hq then hb (.next (L.set x (.own (.lst ys))))else Hu):=by
 intro A Hz K ae X C L O s r Q E hs hA I;refine ak λys p8=>jl λym R hQ=>?_
 ·have e:=si R;subst e;clear R;refine Kk (h hs hA I.toInF p8 λD cs ay ah rd c fr=>?_) (iS K hs);refine Ct rd.fM λo1 o2 o3 o4 q1 q2 a1 a2=>?_;clear iS h pos p rd p8 hA;cases q1;cases q2
  ·obtain e:=a2.bT ym;clear m ym;subst e;obtain hD:=fr D (.head _);refine(I.ahW ah x hD a1 (bw _ _)).store (v:=.own (.lst ys)) (by exact hs.symm▸hv) ⟨[D],by(refine HK.trans ?_;rw[Ih]),.lst a1 a2 c da.nil⟩ λs' I' t=>hQ _ s' (by rw[<-nT];exact I') ((aeM ah x hD).trans t)
section
end
def gK:Ho->Hp (Hn (Ho×Ho))
 |.dict aW=>if dQ aW=Hq then hb aW else Hu
 |_=>Hu
theorem gG(h:gK x=hb aW):x=.dict aW/\dQ aW=Hq:=by
 cases x with
 |dict k=>
  change(if dQ k=Hq then hb k else Hu)=hb aW at h;by_cases hp:dQ k=Hq
  ·rw[H5 hp]at h;have e:=si h;subst e;clear h;exact⟨rfl,hp⟩
  ·rw[Ir hp]at h;exact no h
 |_=>exact no h
noncomputable def rf(B:Hn (HI×HP))(k:HI):Hp HP:=(B.find? λp=>p.1=k).map (·.2)
theorem eF.get{aW:Hn (HI×HE)}(h:eF aW dU)(k:HI):(K2 aW k=Hu/\rf dU k=Hu)∨∃x t,K2 aW k=hb (.str x t)/\rf dU k=hb x/\(k,x)∈dU:=by
 dsimp only[K2,rf];induction h with
 |nil=>exact .inl ⟨rfl,rfl⟩
 |cons i x t _ ih=>
  refine Lx.symm▸?_;refine Lx.symm▸?_;by_cases e:i=k
  ·exact(Ip e).symm▸.inr ⟨x,t,rfl,rfl,e▸.head _⟩
  ·exact(Iw e).symm▸ih.imp id λ⟨x,t,a,b,c⟩=>⟨x,t,a,b,.tail _ c⟩
def aoN(p:Ho×Ho):Hp (HI×HP):=(cD p.1).bind λi=>(fW p.2).map λt=>(i,t)
noncomputable def tQ:Hn (Ho×Ho)->Hp (Hn (HI×HP))
 |[]=>hb []
 |p::r=>(aoN p).bind λq=>(tQ r).map (q::·)
noncomputable def anf:Ho->Hp (Hn (Ho×Ho))
 |.dict aW=>hb aW
 |_=>Hu
def apE(aW:Hn (Ho×Ho)):Hp (Hn (HI×HP)):=match aW with
 |[p]=>(match p.1 with
  |.none=>(anf p.2).bind tQ
  |_=>Hu)
 |_=>Hu
def yc(x:Ho):Hp (Hn (HI×HP)):=(anf x).bind apE
theorem acf(B:Hn (HI×HP)):yc (oh B)=hb B:=by
 show tQ (B.map λp=>(.int p.1,.str p.2))=hb B;induction B with
 |nil=>rfl
 |cons p B ih=>show(tQ (B.map λp=>(.int p.1,.str p.2))).map (p::·)=_;refine ih.symm▸?_;rfl
theorem agP{B:Hn (HP×Ho)}:yc (dictOf B)=Hu:=by
 cases B with
 |nil=>rfl
 |cons p t=>cases t<;>rfl
def y5(a k d:V):Hp V:=(yc a.x).bind λB=>(cD k.x).map λi=>match rf B i with
 |some x=>⟨.str x,.d⟩
 |none=>d
inductive anC(k d:V)(B:Hn (HI×HP)):V->Prop
 |mk (i:HI) (hk:k.x=.int i):anC k d B (match rf B i with|some x=>⟨.str x,.d⟩|none=>d)
theorem aep(h:y5 sY Bp d=hb v):∃B,yc sY.x=hb B/\anC Bp d B v:=by obtain⟨B,h1,h⟩:=ao h;exact aQ (H6.mp h) λi h2 h=>h▸i12 B h1 (.mk i (bJ h2))
inductive aou(Y:IB)(w:Ja)(h:Iv)(u:HE)(x:Ho)(B:Hn (HI×HP)):Prop
 |mk (a:Hv) (h1:u=.ref a) (h2:x=oh B) (i:lJ Y w h a B):aou Y w h u x B
variable{h:Iv}{u:HE}{as:Hn Hv}
theorem RD.num_inv(r:RD Y w Hz h u x as)(e:yc x=hb dU):aou Y w h u x dU:=by revert e;refine r.casesOn (λe=>no e) (λ_ e=>no e) (λ_ _ e=>no e) (λ_ _ e=>no e) (λ_ _ e=>no e) (λ_ _ _ e=>no e) (λ_ _ _ _ e=>no (agP.symm.trans e)) (λ_ e=>no e) (λ_ _ e=>no e) (λ_ _ _ _ _ e=>no e) (λi e=>?_);rw[acf]at e;exact(si e)▸⟨_,rfl,rfl,i⟩
variable{e:HR}{ap pos:J3}
theorem Ev.apT{mo me mf:ar->Hp V}(ho:Ev Y w U n sc o mo)(he:Ev Y w U n sc e me)(hf:Ev Y w U n sc jo mf)(hl:(ap.endLine==pos.line)=Hq)
  (d3:∀K:Ke,J2 o (HA "get") K (Jf o K)=Jf o K)(qu:∀K,Ie [e,jo] K=[(HH,Jf e K),(HH,Jf jo K)]):
  Ev Y w U n sc (.Call (.Attribute o (HA "get") ap) [e,jo] [] pos) (λL=>(mo L).bind λa=>(me L).bind λk=>(mf L).bind λd=>y5 a k d):=by
 intro A Hz K ae X C L O s v Q E hs hA I;refine ak λa ha=>ak λk hk=>ak λd hd R hQ=>aQ (aep R) λB hx H=>?_;clear R;obtain⟨kx,kf⟩:=k;induction H with|mk i ek=>?_
 subst ek;refine J5 (d3 K) (by rw[qu];rfl) hl N5 F.slot_dict_get F.type_dict_get (ho hs hA I ha λu ay ah aL=>?_);obtain⟨as,rd,c,fl⟩:=aL;obtain⟨l,rfl,ex,aW,a1,g,b⟩:=rd.num_inv hx;rw[ex,afq]at c;refine l6 a1.typeIs (λa' ea=>by cases ea;exact a1.mapOf.noDict _ rfl) ?_;rw[qu];refine wpAny_dict_get2 (knd:=intKind Y w) g (he hs hA (I.grow ah) hk λrI aN aI cY=>hf hs hA ((I.grow ah).grow aI) hd λaqw dN dO pd=>?_);obtain⟨_,rk,_,_⟩:=cY;obtain H:=rk.dS;clear rk;induction H with|mk t=>?_
 refine mD i _ (intKind_is _ _ _ _) ((a1.keep ((ag aI).trans (ag dO))).mapOf) ?_;obtain kk:=ab ah (ab aI (ab dO (aK _ _)));rcases b.get i with⟨h1,h2⟩|⟨x,t,h1,h2,h3⟩
 ·refine h1.symm▸?_;rw[h2]at hQ;exact hQ _ _ kk (pd.grow (bA.refl _))
 ·refine h1.symm▸?_;rw[h2]at hQ;exact hQ _ _ kk (dK.str (c.2 _ h3))
def nF(Y:IB)(w:Ja)(U:Iv)(x:HP)(d:Ho):Prop:=∃v as,bt U x v/\RD Y w [] U v d as/\wf d=Hq
variable{x:HP}{d:Ho}
theorem Ev.aow(h:nF Y w U x d)(hx:aY sc x=Hq):Ev Y w U n sc (.Name x pos) (λ_=>hb (V.fix d .s)):=by exact j4 h λv as g r c=>Ev.glob hx g r c
theorem S1.ag2{m:ar->Hp V}(h:Ev Y w U n sc e m)(ht:Tg Y w U sc gR bind)(iS:∀K:Ke,K.scope=sc->swapsWithSole [gR] e pos.line K=pure HH)
  (hw:∀K:Ke,swappedStores [gR] e K=pure Hu)(he:∀K:Ke,(N3 [gR] K).map (·.2)=[PySem.assign gR K]):
  S1 Y w U n sc (.Assign [gR] e pos) (λL=>(m L).bind λv=>(bind v L).map .next):=by
 intro A Hz K ae X C L O s r Q E hs hA I;refine ak λv hv R hQ=>?_;induction dI R with|mk ft aO=>?_
 refine wpAny_Assign_stores (h hs hA I.toInF hv λu ay ah aL=>?_) (iS K hs) (hw K);rw[he];exact ht hs hA.handled (I.grow ah) aL aO λs' I' T=>hQ O s' I' ((Step.cM (ag ah)).trans T)
inductive BJ(Y:IB)(w:Ja)(Hz:Hn Hv)(ae:Iv)(W:Hn Hv)(h:Iv):Hn (HE×HE)->Hn (HP×V)->Prop
 |nil:BJ Y w Hz ae W h [] []
 |cons {x:HP} {t:Pk} {u:HE} {v:V} {us:Hn (HE×HE)} {vs:Hn (HP×V)}:wf (.str x)=Hq->dK Y w Hz ae W h u v->BJ Y w Hz ae W h us vs->BJ Y w Hz ae W h ((.str x t,u)::us) ((x,v)::vs)
def AP(Y:IB)(w:Ja)(U:Iv)(n:HG)(sc:IH)(ks:Hn (Hp HR))(es:Hn HR)(m:ar->Hp (Hn (HP×V))):Prop:=
 ∀{{A:Jh}} {{Hz:Hn Hv}} {{K:Ke}} {{ae:HM}} {{X C:Hn Hv}} {{L:ar}} {{O:Hn (HP×Hn Hv)}} {{s:HM}} {{r:Hn (HP×V)}} {{pos:J3}} {{Q:Hn (HE×HE)->HM->Prop}} {{E:HE->HM->Prop}},
  K.scope=sc->ey A n->InF Y w Hz U ae X K C L O s->m L=hb r->(∀us s',I8 s s'->BJ Y w Hz ae.heap (WW K C O) s'.heap us r->Q us s')->wpAny (Iq Y w) A (evalPairs (pairTrees ks es K pos)) Q E s
theorem AP.nil:AP Y w U n sc [] [] (λ_=>hb []):=by intro A Hz K ae X C L O s r pos Q E hs hA I R hQ;(have e:=si R;subst e;clear R);exact Qt (hQ [] s (aD s) .nil)
variable{es:Hn HR}
theorem AP.cons{ks:Hn (Hp HR)}{m:ar->Hp V}{ms:ar->Hp (Hn (HP×V))}(h:Ev Y w U n sc e m)(hr:AP Y w U n sc ks es ms)(hx:wf (.str x)=Hq):
  AP Y w U n sc (hb (.Constant (.str x) k kp)::ks) (e::es) (λL=>do let a<-m L;let r<-ms L;hb ((x,a)::r)):=by
 intro A Hz K ae X C L O s r pos Q E hs hA I;refine ak λa ha=>ak λas has R hQ=>?_;have e:=si R;subst e;clear R;refine Qd (MK ?_);obtain pj:=aK s (s.toks+1);exact h hs hA (I.grow pj) ha λu ay ah aL=>hr hs hA ((I.grow pj).grow ah) has λus aN aI cY=>hQ _ _ (ab pj (ab ah aI)) (.cons hx (aL.grow (ag aI)) cY)
variable{ae:Iv}{W:Hn Hv}{us:Hn (HE×HE)}
theorem BJ.str{vs:Hn (HP×V)}(r:BJ Y w Hz ae W h us vs):allStrKeys us=Hq/\(Nb us).map (·.1)=vs.map (·.1):=by
 induction r with
 |nil=>exact⟨rfl,rfl⟩
 |cons _ _ _ ih=>exact⟨ih.1,by simp only[Nb,HS,ih.2]⟩
theorem BJ.yw{vs:Hn (HP×V)}(r:BJ Y w Hz ae W h us vs)(hf:b7 (vs.map (·.2.x))=Hq):
  bH Y w Hz h ((Nb us).map (·.2)) (vs.map (·.2.x)) []/\(∀p∈vs,wf (.str p.1)=Hq/\wf p.2.x=Hq):=by
 induction r with
 |nil=>exact⟨.nil,λ_ q=>nomatch q⟩
 |cons a b _ ih=>
  simp only[HS,b7,HU]at hf;obtain⟨as,rd,c,_⟩:=b;have:=rd.bT hf.1;subst this;refine⟨.cons (as:=[]) rd (ih hf.2).1,λp hp=>?_⟩;rcases Hw.mp hp with rfl|hp
  ·exact⟨a,c⟩
  ·exact(ih hf.2).2 p hp
def ajX(r:Hn (HP×V)):Hp V:=if(r.map (·.1)).Nodup/\b7 (r.map (·.2.x))=Hq/\r.length<=sizeLine then hb ⟨dictOf (r.map λp=>(p.1,p.2.x)),.d⟩else Hu
variable{keys:Hn (Hp HR)}{values:Hn HR}
theorem Ev.dict{m:ar->Hp (Hn (HP×V))}(h:AP Y w U n sc keys values m)(iG:keys.all (·.isSome)=Hq)(hl:keys.length=values.length)(h0:keys≠[])
  (a8:keys.length<=15):Ev Y w U n sc (.Dict keys values pos) (λL=>(m L).bind ajX):=by
 intro A Hz K ae X C L O s v Q E hs hA I;refine ak λr hr R hQ=>?_;revert R;refine jl λhc R=>?_
 ·have e:=si R;subst e;clear R;refine Q6 (knd:=strKind Y w) iG hl h0 a8 ?_;obtain pj:=bE s {cls:=.type "dict",data:=.dict #[]};refine h hs hA (I.grow pj) hr λus ay ah aL=>ew aL.str λq1 q2=>ew (aL.yw hc.2.1) λq3 q4=>?_;obtain wo:(s.heap.objs.size==Kd)=HH:=by rw[HO];intro e;refine dz I.base.mods λo ho=>?_;have:=I.base.grow _ _ ho;rw[<-e,aR _ (Io _)]at this;exact no this
  have hd:ay.heap.DictOf (strKind Y w) s.heap.objs.size []:=(MB s.heap).keep (ag ah);refine rM (Nb us) (QS Y w us q1) hd (λh' qx gy=>?_);rw[Qe _ (by rw[q2];exact hc.1)]at qx;obtain g:bA s.heap h':=λb o e=>by
   obtain gq:b≠s.heap.objs.size:=λe'=>by rw[e',aR _ (Io _)]at e;exact no e
   exact(gy.2 b gq).trans<|ag ah _ _ (bA.push _ _ _ _ e)
  obtain of:Off [s.heap.objs.size] ay.heap h':=by
   intro b o e aO;obtain gq:b≠s.heap.objs.size:=by
    rcases aO with aO|⟨vs,kk,rfl⟩
    ·exactλe'=>aO (by rw[e'];exact .head _)
    ·intro e';refine vc hd λo' es ep jU hx o1=>?_;rw[e',jU]at e;have e:=si e;subst e;clear e;have:=hx.1;simp at this
   exact(gy.2 b gq).trans e
  refine my (ab pj ah) λh1 t1 e1 o1=>hQ _ _ ⟨h',_,by rw[e1],g⟩ ⟨[s.heap.objs.size],.dict qx wo (by(refine q2.trans ?_;refine Ii.symm▸?_);rfl) ?_,oQ.mpr ⟨by simpa using hc.2.2,λp hp=>?_⟩,λa ha=>?_⟩
  ·have:=q3.off of (λ_ q=>nomatch q);exact Ii.symm▸this
  ·refine aQ (HX.mp hp) λq hq o1=>?_;subst o1;exact q4 q hq
  ·exact(HB.mp ha).symm▸I.mX
theorem acH(a b:HG):L6 (a:HI) (b:HI) 1=b-a:=by
 unfold L6;rw[H5 (show(1:HI)>0 by decide),OQ];by_cases h:a<b
 ·rw[H5 (Jj.mpr h),PD];exact QC b a
 ·refine(Ir λq=>h (Jj.mp q)).symm▸(KZ (JQ h)).symm▸?_;rfl
theorem aac(vs:Hn α)(a b:HG):(vs.take (min b vs.length)).drop (min a vs.length)=(vs.take b).drop a:=by
 by_cases U:b<=vs.length
 ·refine(Jk U).symm▸?_;by_cases ha:a<=vs.length
  ·exact Kx (HL _ (Jk ha)) _
  ·refine(MY (by(refine(KP (Ll ha)).symm▸?_;refine J9.symm▸?_);exact I7 _ _)).trans ?_;(exact(MY (by simp;exact Hs (I7 _ _) (IK (PB.mp ha)))).symm)
 ·refine(KP (Ll U)).symm▸JD.symm▸(Kl (Ll U)).symm▸?_;by_cases ha:a<=vs.length
  ·exact Kx (HL _ (Jk ha)) _
  ·exact(KP (Ll ha)).symm▸KN.symm▸(MY (Ll ha)).symm▸rfl
variable{vs:Hn HE}
theorem bH.slice(r:bH Y w Hz h vs B as)(a b:HG):∃bs,bH Y w Hz h ((vs.take b).drop a) ((B.take b).drop a) bs/\∀c∈bs,c∈as:=by refine aQ (r.part ((H0 (min b vs.length-min a vs.length)).map λk=>min a vs.length+k)) λbs q hq=>?_;rw[iZ vs _ _ (I7 _ _),aac]at q;rw[show vs.length=B.length from r.length,iZ B _ _ (I7 _ _),aac]at q;exact i12 bs q hq
theorem aft{a b:HG}(h:wf (.tuple B)=Hq):wf (.tuple ((B.take b).drop a))=Hq:=by
 rw[dk]at*;refine⟨Hs ?_ h.1,?_⟩
 ·refine Li.symm▸J9.symm▸?_;exact Hs (M1 _ _) (I7 _ _)
 ·exact(cN _).mpr λy hy=>((cN _).mp h.2) y (Kc (Lc hy))
noncomputable def ma(O:Hn (HP×Hn Hv))(x:HP):Hn (HP×Hn Hv):=O.filter λp=>p.1 !=x
variable{O:Hn (HP×Hn Hv)}
theorem ac1(h:y≠x):(ma O x).lookup y=O.lookup y:=by
 unfold ma;induction O with
 |nil=>rfl
 |cons p O ih=>
  by_cases hp:p.1=x
  ·rw[Jm (by simp[hp]),ih,HK,HO.mpr (λe=>h (e.trans hp))]
  ·rw[Jy (by simp[hp]),HK,HK,ih]
theorem adl{p:HP×Hn Hv}(h:p∈ma O x):p∈O/\p.1≠x:=by unfold ma at h;rw[KB]at h;exact⟨h.1,by simpa using h.2⟩
theorem lU:((ma O x).flatMap (·.2)).Sublist (O.flatMap (·.2)):=by
 unfold ma;induction O with
 |nil=>exact Me _
 |cons p O ih=>
  by_cases hp:p.1=x
  ·rw[Jm (by simp[hp]),IF];exact ih.trans (Oq _ _)
  ·rw[Jy (by simp[hp]),IF,IF];exact(Me _).append ih
theorem oV{sp sq:Hn Hv}{b:Hv}(hy:y≠x)(h1:b∈sp)(h2:b∈sq):(O.flatMap (·.2)).Nodup->(x,sp)∈O->(y,sq)∈O->Jg:=by
 induction O with
 |nil=>intro _ m _;exact nomatch m
 |cons p O bY=>
  intro nd m1 m2;rw[IF,H8]at nd;rcases Hw.mp m1 with e1|m1<;>rcases Hw.mp m2 with e2|m2
  ·rw[<-e1]at e2;exact hy (HL ND e2)
  ·exact nd.2.2 b (by rw[<-e1];exact h1) b (IS.mpr ⟨_,m2,h2⟩) rfl
  ·exact nd.2.2 b (by rw[<-e2];exact h2) b (IS.mpr ⟨_,m1,h1⟩) rfl
  ·exact bY nd.2.1 m1 m2
theorem da.turn(o:da ae W f as)(al:∀b∈as,∃ob,h.get? b=hb ob)(hW:∀b∈W',b∈W∨h.get? b=Hu):da ae W' f as:=by
 obtain ne:∀b∈as,b∉W->b∉W':=λb U h1 h2=>(hW b h2).elim h1 λe=>by
  exact dz (al b U) λob q=>no (e.symm.trans q)
 induction f with
 |d=>exactλb U=>⟨(o b U).1,ne b U (o b U).2⟩
 |s=>exactλb U=>ne b U (o b U)
 |t=>trivial
variable{h':Iv}
theorem cj.turn{Z:Hn Hv}(k:Off W h h')(k':∀b ob,h.get? b=hb ob->b∉Z->h'.get? b=hb ob)(r:cj Y w Hz ae W O h x u vv)
  (hz:∀sp,O.lookup x=hb sp->∀a∈sp,a∉Z)(hW:∀b∈W',b∈W∨h.get? b=Hu)(hO:O'.lookup x=O.lookup x):cj Y w Hz ae W' O' h' x u vv:=by
 induction vv with
 |val v=>
  refine ew r λf r=>?_;obtain⟨as,r,c,o⟩:=r;refine⟨f,as,r.off k ?_,c,o.turn r.alive hW⟩;rcases f with f|f<;>rw[f]at o
  ·exactλa ha=>(o a ha).2
  ·exact o
 |own o=>
  refine aQ r λsp e r=>i12 sp (hO.trans e) ?_;obtain hz:=hz sp e;induction r with
  |lst a b c d=>exact .lst (k' _ _ a (hz _ (.head _))) (b.off k λx hx=>(d x hx).2) c (d.turn b.alive hW)
  |lq a g=>exact .lq (a.kept λo e _ _=>k' _ o e (hz _ (.head _))) g
  |tree a b c e' f=>exact .tree (a.off (W:=Z) (λb o e q=>q.elim (k' b o e) λt=>k b o e (.inr t)) hz) b c e' f
variable{a:Hv}
theorem dX(r:RD Y w Hz h (.ref a) d as)(hn:dD d=Hq):∃bs,as=a::bs:=by
 cases d with
 |list B=>refine e43 r.fM λa' o1 o2 bs e1 e2 o3=>?_;cases e1;exact⟨bs,e2⟩
 |dict B=>exact my r.head.1 λa' bs e1 e2=>by cases e1;exact⟨bs,e2⟩
 |_=>cases hn
section
variable{K:Ke}{C:Hn Hv}{eS:Hn Hv}
theorem afH(hO:O.lookup x=hb as)(hn:∀a∈eS,a∈as∨h.get? a=Hu):∀b∈WW K C ((x,eS)::ma O x),b∈WW K C O∨h.get? b=Hu:=by
 intro b aO;unfold WW at aO;rw[IF]at aO;rcases Hw.mp aO with rfl|aO
 ·exact .inl (.head _)
 ·rcases HD.mp aO with aO|aO
  ·exact .inl (I5 _ (HF _ aO))
  ·rcases HD.mp aO with aO|aO
   ·exact(hn b aO).imp (cB hO) id
   ·exact .inl (I5 _ (Hx _ (lU.subset aO)))
variable{ae s:HM}{X:Hn Hv}{L:ar}
theorem du.lY(I:du Y w Hz U ae X K C L O s){x:HP}{ro:Hp Hv}{d d':Ho}{as eS:Hn Hv}{h':Iv}{tk:HG}(hx:L x=hb (.own (.tree ro d)))(hO:O.lookup x=hb as)
  (hs:∀b o,s.heap.get? b=hb o->b∉as->h'.get? b=hb o)(ha:∀a∈as,∃o,h'.get? a=hb o)
  (hn:∀a∈eS,(a∈as∨s.heap.get? a=Hu)/\∃o,h'.get? a=hb o/\¬j0 o)(rO:eS.Nodup)(pZ:wf d'=Hq)(vo:dD d'=Hq)
  (hr:∀a,RD Y w Hz s.heap (.ref a) d as->RD Y w Hz h' (.ref a) d' eS):
  du Y w Hz U ae X K C (L.set x (.own (.tree ro d'))) ((x,eS)::ma O x) {s with heap:=h',toks:=tk}:=by
 obtain w1:fg Y Hz U h':=⟨λz hz=>by
  obtain⟨q,o,e,t⟩:=I.base.hide z hz;refine⟨q,o,hs z o e (λz9=>?_),t⟩;refine aQ (I.cO z (cB hO z9)) λo' e' nt=>?_;rw[e]at e';have e:=si e';subst e;clear e';exact nt t,I.base.lim,I.base.seer,I.base.tree,I.base.mods,λb o e=>hs b o (I.base.grow b o e) λhz=>by
  exact no (((I.bZ b (cB hO hz)).1).symm.trans e)⟩
 obtain w2:∀b o,ae.heap.get? b=hb o->b∉X->h'.get? b=hb o:=λb o e hx=>hs b o (I.keep b o e hx) λhz=>by
  exact no (((I.bZ b (cB hO hz)).2 hx).symm.trans e)
 obtain w3:∀b o,ae.heap.get? b=hb o->∃o',h'.get? b=hb o':=λb o e=>by
  by_cases hz:b∈as
  ·exact ha b hz
  ·exact dz (I.alive b o e) λo' e'=>u9 o' (hs b o' e' hz)
 obtain w5:Off (WW K C O) s.heap h':=λb o e hc=>hs b o e λhz=>by
  rcases hc with hc|hc
  ·exact hc (cB hO hz)
  ·refine aQ (I.cO b (cB hO hz)) λo' e' q=>?_;rw[e]at e';have e:=si e';subst e;clear e';exact q hc
 refine pQ I.same λh0 t0 e0=>?_;have hW:=afH (K:=K) (C:=C) hO λa h=>(hn a h).1;have wk:∀a∈as,a≠K.locals/\a∉C:=λa h=>fy I.b9 hO h;have m1:=cH hO;have N:=I.b9;unfold WW at N;rw[HZ,H8]at N;have rJ:∀a∈WW K C O,∀b,s.heap.get? b=Hu->a≠b:=λa h b aO e=>by
  refine aQ (I.cO a h) λo q o1=>?_;rw[e,aO]at q;exact no q
 have other:∀y,y≠x->∀sp,O.lookup y=hb sp->∀b∈sp,b∉as:=λy hy sp kZ b h1 h2=>oV hy h2 h1 N.2.2.1 m1 (cH kZ);have jj:((x,eS)::ma O x).lookup x=hb eS:=by rw[HK,Ih]
 have wm:∀y,y≠x->((x,eS)::ma O x).lookup y=O.lookup y:=λy hy=>by
  rw[HK,HO.mpr hy];exact ac1 hy
 have aoX:∀u,cj Y w Hz ae.heap (WW K C O) O s.heap x u (.own (.tree ro d))->cj Y w Hz ae.heap (WW K C ((x,eS)::ma O x)) ((x,eS)::ma O x) h' x u (.own (.tree ro d')):=by
  rintro u ⟨sp,e,r⟩;rw[hO]at e;have e:=si e;subst e;clear e;clear ha hO;induction r.pz with|mk _ a b c e f=>?_
  exact i12 eS jj (.tree (hr _ a) rO pZ vo f)
 have ahA:∀y,y≠x->∀u vv,cj Y w Hz ae.heap (WW K C O) O s.heap y u vv->cj Y w Hz ae.heap (WW K C ((x,eS)::ma O x)) ((x,eS)::ma O x) h' y u vv:=
  λy hy u vv r=>r.turn w5 hs (other y hy) hW (wm y hy)
 refine⟨⟨⟨h',tk,by rw[e0]⟩,w1,w2,w3,λa h=>?_,λa h=>?_,?_,I.kind,I.glob,I.jA,I.rU,?_,λy vv e1 e2=>?_⟩,I.fc,I.l9,λz c hc=>?_⟩
 ·by_cases h2:a∈eS
  ·exact(hn a h2).2
  ·have h3:a∈WW K C O/\a∉as:=by
    unfold WW at h;rw[IF]at h;clear hr vo pZ ha hO tk wm jj other w5 w3 w2 w1 e0 t0 h0;rcases Hw.mp h with rfl|q
    ·exact gQ (.head _) (λq=>(wk _ q).1 rfl)
    ·rcases HD.mp q with q|q
     ·exact gQ (I5 _ (HF _ q)) (λq'=>(wk _ q').2 q)
     ·rcases HD.mp q with q|q
      ·exact IG q h2
      ·refine gQ (I5 _ (Hx _ (lU.subset q))) (λq'=>aQ (IS.mp q) λo1 m2 hq=>?_);obtain⟨y,sq⟩:=o1;exact ew (adl m2) λm2 hy=>oV hy q' hq N.2.2.1 m1 m2
   exact aQ (I.cO a h3.1) λo e t=>i12 o (hs a o e h3.2) t
 ·rcases hW a h with h|h
  ·exact I.bZ a h
  ·refine gQ ?_ (λ_=>(I.toInF.fresh h).1);clear hr vo pZ ha hO tk wm jj other hW w5 w3 w2 w1 e0 t0 h0;cases e:U.get? a with
   |none=>rfl
   |some o=>exact no (h.symm.trans (I.base.grow _ _ e))
 ·unfold WW;rw[IF,HZ,H8,H8];obtain Ey:∀b,b∈(ma O x).flatMap (·.2)->b∈WW K C O:=λb q=>I5 _ (Hx _ (lU.subset q));refine yW (λq=>?_) N.2.1 ⟨rO,N.2.2.1.sublist lU,λa E2 b aO e=>?_⟩ (λa E2 b aO e=>?_)
  ·rcases HD.mp q with q|q
   ·exact N.1 (HF _ q)
   ·rcases HD.mp q with q|q
    ·rcases(hn _ q).1 with q|q
     ·exact(wk _ q).1 rfl
     ·exact rJ _ (.head _) _ q rfl
    ·exact N.1 (Hx _ (lU.subset q))
  ·clear hr vo pZ rO ha hO tk wm jj other hW w5 w3 w2 w1 e0 t0 h0;subst e;rcases(hn _ E2).1 with q|q
   ·refine aQ (IS.mp aO) λo1 m2 hq=>?_;obtain⟨y,sq⟩:=o1;exact ew (adl m2) λm2 hy=>oV hy q hq N.2.2.1 m1 m2
   ·exact rJ _ (Ey _ aO) _ q rfl
  ·clear hr vo pZ rO ha hO tk Ey wm jj other m1 hW w5 w3 w2 w1 e0 t0 h0;subst e;rcases HD.mp aO with q|q
   ·rcases(hn _ q).1 with q|q
    ·exact(wk _ q).2 E2
    ·exact rJ _ (I5 _ (HF _ E2)) _ q rfl
   ·exact N.2.2.2 a E2 a (lU.subset q) rfl
 ·refine aQ I.ns λm R hv=>uB R λo es ep ho R=>i12 m ⟨o,es,ep,hs _ _ ho λq=>(wk _ q).1 rfl,R⟩ (λy vv e1 e2=>?_);obtain d4:=(eW _ _ _ _).symm.trans e1;by_cases hy:y=x
  ·clear hr vo pZ rO hn ha hO wm jj other rJ N m1 hW w5 w3 w2 w1 R e0 t0 h0;subst hy;rw[H5 rfl]at d4;have e:=si d4;subst e;clear d4;exact aQ (hv y _ hx e2) λu b r=>i12 u b (aoX u r)
  ·rw[Ir hy]at d4;exact aQ (hv y vv d4 e2) λu b r=>i12 u b (ahA y hy u vv r)
 ·obtain d4:=(eW _ _ _ _).symm.trans e1;refine aQ (I.fc y e2) λc hc yn=>?_;have EF:c∉as:=λq=>(wk c q).2 yn;by_cases hy:y=x
  ·clear hr vo pZ rO hn ha hO wm jj other rJ N m1 hW w5 w3 w2 w1 yn e1 e0 t0 h0;subst hy;rw[H5 rfl]at d4;have e:=si d4;subst e;clear d4;refine j4 (I.cell y _ hx e2) λc' u b1 o1 r=>?_;obtain⟨o,ho,b2⟩:=o1;rw[hc]at b1;have e:=si b1;subst e;clear b1;exact mD c u hc ⟨o,hs _ _ ho EF,b2⟩ (aoX u r)
  ·rw[Ir hy]at d4;refine j4 (I.cell y vv d4 e2) λc' u b1 o1 r=>?_;obtain⟨o,ho,b2⟩:=o1;rw[hc]at b1;have e:=si b1;subst e;clear b1;exact mD c u hc ⟨o,hs _ _ ho EF,b2⟩ (ahA y hy u vv r)
 ·obtain⟨q',v,⟨o,ho,hv⟩⟩:=I.il z c hc;exact⟨q',v,⟨o,hs _ _ ho λq=>(wk c q).2 q',hv⟩⟩
theorem iR(hO:O.lookup x=hb as)(hs:∀b o,s.heap.get? b=hb o->b∉as->h'.get? b=hb o)(hn:∀a∈eS,a∈as∨s.heap.get? a=Hu):
  Step s.heap h' (WW K C O) (WW K C ((x,eS)::ma O x)):=⟨λb o e hw=>hs b o e λq=>hw (cB hO q),afH hO hn⟩
theorem du.oy(I:du Y w Hz U ae X K C L O s){ro:Hp Hv}{A:Jh}{E:HE->HM->Prop}{Q:HE->HM->Prop}(hv:aA K.scope x=Hq)(hx:L x=hb (.own (.tree ro d)))
  (hQ:∀ad as,O.lookup x=hb as->RD Y w Hz s.heap (.ref ad) d as->as.Nodup->wf d=Hq->dD d=Hq->Q (.ref ad) s):wpAny (Iq Y w) A (Jf (.Name x pos) K) Q E s:=by
 simp only[aA,HU,JA,Ik,JI]at hv;obtain⟨hv,hd⟩:=hv;have fin:∀u sp,O.lookup x=hb sp->jM Y w Hz ae.heap (WW K C O) s.heap u (.tree ro d) sp->Q u s:=by
  intro u sp e r;induction r.pz with|mk _ a b c e' f=>?_
  exact hQ _ _ e a b c e'
 rcases hv with hv|hv
 ·obtain⟨m,yk,R⟩:=I.ns;obtain⟨u,hu,sp,e,r⟩:=R x _ hx hv;exact MJ (Lo I.kind hv yk hu (fin u sp e r)) hd
 ·obtain⟨c,u,hc,hu,sp,e,r⟩:=I.cell x _ hx hv;exact MJ (MA I.kind hv hc hu (fin u sp e r)) hd
end
def jb(h h':Iv)(ps:Hn Hv):Prop:=∀b o,h.get? b=hb o->(b∈ps∨j0 o)->h'.get? b=hb o
theorem jb.mono(k:jb h h' ps)(hq:∀b∈qs,b∈ps):jb h h' qs:=λb o e q=>k b o e (q.imp (hq b) id)
theorem cL:(∀{v x as},RD Y w Hz h v x as->jb h h' as->RD Y w Hz h' v x as)/\∀{vs B as},bH Y w Hz h vs B as->jb h h' as->bH Y w Hz h' vs B as:=
 RD.both (λ_=>.none) (λb _=>.bool b) (λi t _=>.int i t) (λi t _=>.str i t) (λa _ r k=>.list (k _ _ a (.inl (.head _))) (r (k.mono λ_ q=>.tail _ q))) (λa z _ r k=>.tuple (k _ _ a (.inr ⟨_,_,rfl⟩)) z (r k))
  (λq g e _ r k=>.dict (by exact uB q λo es ep ho q=>Aw o es ep (k _ _ ho (.inl (.head _))) q) g e (r (k.mono λ_ q=>.tail _ q))) (λi k=>.val (i.kept λc hc o e=>k c o e (.inl hc))) (λi _ r k=>.store (i.kept λc hc o e=>k c o e (.inl (HF _ hc))) (r (k.mono λ_ q=>Hx _ q))) (λi p e n _ r k=>.inst (i.kept (λo eo=>k _ o eo (.inl (.head _))) (λo eo=>k _ o eo (.inl (.tail _ (.head _))))) p e n (r (k.mono λ_ q=>.tail _ (.tail _ q)))) (λi k=>.num (i.kept λo e _ _=>k _ o e (.inl (.head _)))) (λ_=>.nil) (λ_ _ a r k=>.cons (a (k.mono λ_ q=>HF _ q)) (r (k.mono λ_ q=>Hx _ q)))
section
variable(Y w Hz)
inductive xb(h:Iv)(vs:Hn HE)(B:Hn Ho)(i:HG)(x:Ho):Hn Hv->Prop
 |mk (v:HE) (l b m:Hn Hv) (h1:vs[i]? =hb v) (h2:RD Y w Hz h v x b) (h3:∀(h':Iv)x' b',jb h h' (l++m)->RD Y w Hz h' v x' b'->bH Y w Hz h' vs (B.set i x') (l++(b'++m))):xb h vs B i x (l++(b++m))
end
variable{x:Ho}
theorem bH.hole(r:bH Y w Hz h vs B as)(e:B[i]? =hb x):xb Y w Hz h vs B i x as:=by
 refine bH.ind (aH:=λvs B as=>∀i:HG,B[i]? =hb x->xb Y w Hz h vs B i x as) (λi e=>by simp at e) (λ{u us y ys as bs} a q r i e=>?_) r i e;cases i with
 |zero=>rw[LF]at e;(have e:=si e;subst e;clear e);exact xb.mk (l:=[]) u as bs rfl a λh' x' b' k r'=>show bH Y w Hz h' (u::us) (x'::ys) (b'++bs)from .cons r' (cL.2 q k)
 |succ i=>
  obtain⟨v,l,b,m,h1,h3,h4⟩:=r i e;rw[<-I6];refine⟨v,as++l,b,m,h1,h3,λh' x' b' k r'=>?_⟩;rw[I6];exact .cons (cL.1 a (k.mono λ_ q=>HF _ (HF _ q))) (h4 h' x' b' (k.mono λc q=>by
   rcases HD.mp q with q|q
   ·exact HF _ (Hx _ q)
   ·exact Hx _ q) r')
structure jV(Y:IB)(w:Ja)(Hz:Hn Hv)(h:Iv)(u:HE)(d:Ho)(as:Hn Hv)(v:HE)(x:Ho)(b:Hn Hv)(up:Ho->Ho):Prop where
 node:RD Y w Hz h v x b
 ya:wf x=Hq
 Eg:∀x',wf x'=Hq->wf (up x')=Hq
 top:∀x',dD x'=Hq->dD (up x')=Hq
 own:dD d=Hq
 split:∃l m,as=l++(b++m)/\∀(h':Iv)x' b',jb h h' (l++m)->RD Y w Hz h' v x' b'->RD Y w Hz h' u (up x') (l++(b'++m))
theorem jV.root(r:RD Y w Hz h u d as)(c:wf d=Hq)(hn:dD d=Hq):jV Y w Hz h u d as u d as id:=
 ⟨r,c,λ_ q=>q,λ_ q=>q,hn,[],[],by simp,λh' x' b' _ r'=>by simpa using r'⟩
variable{v:HE}{b:Hn Hv}
theorem jV.grow{up:Ho->Ho}(H:jV Y w Hz h u d as v x b up)(k:bA h h'):jV Y w Hz h' u d as v x b up:=by refine my H.split λl m e f=>⟨H.node.grow k,H.ya,H.Eg,H.top,H.own,l,m,e,λqv x' b' k' r'=>f qv x' b' (λc o q p=>k' c o (k c o q) p) r'⟩
theorem adX(h:fw B=Hq)(hx:wf x=Hq):fw (B.set i x)=Hq:=by
 rw[cN]at*;intro y hy;rcases List.mem_or_eq_of_mem_set hy with q|q
 ·exact h y q
 ·exact q.symm▸hx
section
variable(Y w Hz)
inductive ajt(h:Iv)(u:HE)(d:Ho)(as:Hn Hv)(B:Hn Ho)(i:HG)(x:Ho)(up:Ho->Ho):HE->Prop
 |mk (a:Hv) (vs:Hn HE) (n:HG) (v':HE) (b':Hn Hv) (h1:h.get? a=hb (cq vs n)) (h2:vs.length=B.length) (h3:vs[i]? =hb v') (h4:jV Y w Hz h u d as v' x b' (λy=>up (.list (B.set i y)))):ajt h u d as B i x up (.ref a)
inductive aom(h:Iv)(u:HE)(d:Ho)(as:Hn Hv)(aW:Hn (Ho×Ho))(k:HP)(x:Ho)(up:Ho->Ho)(f:HP->Ho->Hn (Ho×Ho)->Hn (Ho×Ho)):HE->Prop
 |mk (a:Hv) (ks:Hn (HP×HE)) (v':HE) (b':Hn Hv) (h1:h.DictOf (strKind Y w) a ks) (h2:(a==Kd)=HH) (h3:K2 ks k=hb v') (h4:jV Y w Hz h u d as v' x b' (λy=>up (.dict (f k y aW)))):aom h u d as aW k x up f (.ref a)
end
theorem jV.item{up:Ho->Ho}(H:jV Y w Hz h u d as v (.list B) b up)(e:B[i]? =hb x):
  ajt Y w Hz h u d as B i x up v:=by
 induction H.node.listI with|mk a vs n bs h1 h2=>?_
 induction h2.hole e with|mk v' l' b' m' g1 g3 g4=>?_
 refine my H.split λl m e' f=>?_;have c:=aV.mp H.ya;refine⟨a,vs,n,v',b',h1,h2.length,g1,g3,tg c.2 e,λx' vm=>H.Eg _ (aV.mpr ⟨by simpa using c.1,adX c.2 vm⟩),λ_ _=>H.top _ rfl,H.own,l++a::l',m'++m,?_,λh' x' B1 k r'=>?_⟩
 ·rw[e'];simp
 ·have:=f h' (.list (B.set i x')) (a::(l'++(B1++m'))) (k.mono λy hy=>?_) (.list (k _ _ h1 (.inl ?_)) (g4 h' x' B1 (k.mono λy hy=>?_) r'))
  ·simpa using this
  ·simp only[HD,Hw]at hy⊢;rcases hy with hy|hy
   ·exact .inl (.inl hy)
   ·exact .inr (.inr hy)
  ·simp
  ·simp only[HD,Hw]at hy⊢;rcases hy with hy|hy
   ·exact .inl (.inr (.inr hy))
   ·exact .inr (.inl hy)
noncomputable def lj(k:HP)(y:Ho):Hn (Ho×Ho)->Hn (Ho×Ho)
 |[]=>[]
 |(.str x,v)::r=>if x=k then(.str x,y)::r else(.str x,v)::lj k y r
 |p::r=>p::lj k y r
variable{k:HP}{ks:Hn (HP×HE)}
theorem ak9:∀{ys:Hn (HP×Ho)},ks.map (·.1)=ys.map (·.1)->atKey k (ys.map λp=>(.str p.1,p.2))=hb x->
  ∃i,(ys.map (·.2))[i]? =hb x/\K2 ks k=(ks.map (·.2))[i]? /\∀y,∃zs:Hn (HP×Ho),lj k y (ys.map λp=>(.str p.1,p.2))=(zs.map λp=>(.str p.1,p.2))/\zs.map (·.1)=ys.map (·.1)/\zs.map (·.2)=(ys.map (·.2)).set i y:=by
 induction ks with
 |nil=>
  intro ys e h;induction ys with
  |nil=>exact no h
  |cons q ys=>cases e
 |cons p ks ih=>
  intro ys e h;induction ys with
  |nil=>cases e
  |cons q ys=>
   refine ew (IP e) λe0 e1=>?_;change(if q.1=k then hb q.2 else atKey k (ys.map λp=>(.str p.1,p.2)))=hb x at h;by_cases hk:q.1=k
   ·rw[H5 hk]at h;have e:=si h;subst e;clear h;refine rM 0 rfl (aap (e0.trans hk)) (λy=>⟨(q.1,y)::ys,?_,rfl,rfl⟩);show(if q.1=k then(JF q.1,y)::_ else _)=_;rw[H5 hk];rfl
   ·rw[Ir hk]at h;refine kK (ih e1 h) λi h1 h2 h3=>rM (i+1) h1 ((aag λe=>hk (e0.symm.trans e)).trans h2) (λy=>kK (h3 y) λzs g1 g2 g3=>rM (q::zs) ?_ (by rw[HS,HS,g2]) (by rw[HS,HS,g3];rfl));show(if q.1=k then _ else(JF q.1,q.2)::lj k y _)=_;rw[Ir hk,g1];rfl
theorem fY:∀{aW:Hn (Ho×Ho)},x4 aW=Hq↔∀p∈aW,wf p.1=Hq/\wf p.2=Hq
 |[]=>⟨(λ_ _ q=>nomatch q),λ_=>rfl⟩
 |(a,b)::aW=>by simp[x4,fY (aW:=aW),and_assoc]
variable{y:Ho}{aW:Hn (Ho×Ho)}
theorem aha:∀{p:Ho×Ho},p∈lj k y aW->p∈aW∨∃q∈aW,p=(q.1,y):=by
 induction aW with
 |nil=>exactλh=>nomatch h
 |cons c r ih=>
  intro p h;obtain⟨a,v⟩:=c;have tl:p∈(a,v)::lj k y r->p∈(a,v)::r∨∃q∈(a,v)::r,p=(q.1,y):=λh=>(Hw.mp h).elim (λe=>.inl (e▸.head _)) λh=>(ih h).imp (.tail _) λh=>h.imp λq h=>⟨.tail _ h.1,h.2⟩;cases a with
  |str x=>
   change p∈(if x=k then(JF x,y)::r else(.str x,v)::lj k y r)at h;by_cases e:x=k
   ·rw[H5 e]at h;exact(Hw.mp h).elim (λh=>.inr ⟨(.str x,v),.head _,h⟩) λh=>.inl (.tail _ h)
   ·rw[Ir e]at h;exact tl h
  |_=>exact tl h
theorem rm:∀{aW:Hn (Ho×Ho)},(lj k y aW).length=aW.length
 |[]=>rfl
 |(.str x,v)::r=>by
  show(if x=k then(JF x,y)::r else(.str x,v)::lj k y r).length=_;split
  ·rfl
  ·rw[Ju,rm,Ju]
 |(.none,v)::r|(.bool _,v)::r|(.int _,v)::r|(.list _,v)::r|(.tuple _,v)::r|(.dict _,v)::r=>by
  exact Ju.symm▸rm.symm▸Ju.symm▸rfl
theorem adN(h:wf (.dict aW)=Hq)(hy:wf y=Hq):wf (.dict (lj k y aW))=Hq:=by
 simp only[wf,HU,Ik]at*;refine⟨by rw[rm];exact h.1,fY.mpr λp hp=>?_⟩;rcases aha hp with q|⟨q,hq,rfl⟩
 ·exact fY.mp h.2 p q
 ·exact⟨(fY.mp h.2 q hq).1,hy⟩
theorem jV.key{v:HE}{aW:Hn (Ho×Ho)}{b:Hn Hv}{up:Ho->Ho}(H:jV Y w Hz h u d as v (.dict aW) b up)(e:atKey k aW=hb x):
  aom Y w Hz h u d as aW k x up lj v:=by
 induction H.node.nK (H.node.aca e)with|mk a ks ys bs b1 b2 b3 b4=>?_
 refine kK (ak9 b3 e) λi i1 i2 i3=>?_;clear e b aW v;induction b4.hole i1 with|mk v' l' b' m' g1 g3 g4=>?_
 refine my H.split λl m e' f=>?_;have c:=H.ya;obtain hx:wf x=Hq:=by simp only[wf,HU]at c;clear b4 bs;refine aQ (HX.mp (Il i1)) λq hq o1=>?_;subst o1;exact vy c.2 hq
 refine⟨a,ks,v',b',b1,b2,i2.trans g1,g3,hx,λx' vm=>H.Eg _ (adN c vm),λ_ _=>H.top _ rfl,H.own,l++a::l',m'++m,?_,λh' x' B1 k' r'=>?_⟩
 ·rw[e'];simp
 ·refine kK (i3 x') λzs z1 z2 z3=>uB b1 λo es ep ho rest=>?_;obtain zN:RD Y w Hz h' (.ref a) (.dict (lj k x' (ys.map λp=>(.str p.1,p.2)))) (a::(l'++(B1++m'))):=by
   refine z1.symm▸RD.dict (B:=zs) ⟨o,es,ep,(k' _ _ ho (.inl (by simp))),rest⟩ b2 (b3.trans z2.symm) ?_;exact z3.symm▸g4 h' x' B1 (k'.mono λy hy=>by
    simp only[HD,Hw]at hy⊢;rcases hy with hy|hy
    ·exact .inl (.inr (.inr hy))
    ·exact .inr (.inl hy)) r'
  have:=f h' _ _ (k'.mono λy hy=>by
   simp only[HD,Hw]at hy⊢;rcases hy with hy|hy
   ·exact .inl (.inl hy)
   ·exact .inr (.inr hy)) zN
  simpa using this
theorem cJ:(∀{v x as},RD Y w Hz h v x as->∀a∈as,∃o,h.get? a=hb o/\¬j0 o)/\∀{vs B as},bH Y w Hz h vs B as->∀a∈as,∃o,h.get? a=hb o/\¬j0 o:=
 RD.both (λ_ q=>nomatch q) (λ_ _ q=>nomatch q) (λ_ _ _ q=>nomatch q) (λ_ _ _ q=>nomatch q) (λa _ r b q=>(Hw.mp q).elim (λe=>⟨_,e▸a,bw _ _⟩) (r b)) (λ_ _ _ r b q=>r b q)
  (λp _ _ _ r b q=>(Hw.mp q).elim (λe=>by obtain⟨o,_,_,ho,hx,_⟩:=p;exact i12 o (e▸ho) (iq hx.1)) (r b)) (λi c q=>by obtain⟨m,t,u,i,_⟩:=i;exact i.alive c q) (λi _ r c q=>(HD.mp q).elim (i.alive c) (r c)) (λ{a dx _ _ _ _ _ as} i _ _ _ _ r c q=>(HD.mp (show c∈[a,dx]++as from q)).elim (i.alive c) (r c)) (λi c q=>by exact(HB.mp q).symm▸i.there.imp λ_ h=>⟨h.1,h.2.2⟩) (λ_ q=>nomatch q) (λ_ _ a r b q=>(HD.mp q).elim (a b) (r b))
section
variable{ae s:HM}{X C:Hn Hv}{K:Ke}{L:ar}
theorem du.put(I:du Y w Hz U ae X K C L O s)(kt:I8 s t){ro:Hp Hv}{ad:Hv}{iQ b':Hn Hv}{up:Ho->Ho}(tk:HG)(hx:L gc=hb (.own (.tree ro d)))(hO:O.lookup gc=hb as)(nd:as.Nodup)
  (hu:RD Y w Hz t.heap (.ref ad) d as)(H:jV Y w Hz t.heap (.ref ad) d as (.ref a) y (a::iQ) up)(hs:∀c o,t.heap.get? c=hb o->c≠a->h'.get? c=hb o)(hy:RD Y w Hz h' (.ref a) y' (a::b'))
  (aO:∀c∈b',c∈iQ∨s.heap.get? c=Hu)(p7:b'.Nodup)(hw:wf y'=Hq)(vo:dD y'=Hq):
  ∃O',du Y w Hz U ae X K C (L.set gc (.own (.tree ro (up y')))) O' {s with heap:=h',toks:=tk}/\Step s.heap h' (WW K C O) (WW K C O'):=by
 refine my H.split λl m e f=>?_;have al:=cJ.1 hu;obtain ET:∀c∈as,∃o,s.heap.get? c=hb o/\¬j0 o:=λc hc=>I.cO c (cB hO hc);have FV:=cJ.1 hy;have ha:a∈as:=by rw[e];simp
 obtain e9:∀c∈iQ,c∈as:=λc hc=>by rw[e];simp[hc]
 have hl:∀c∈l,c∈as:=λc hc=>by rw[e];simp[hc]
 have R:∀c∈m,c∈as:=λc hc=>by rw[e];simp[hc]
 have uk:a∉l/\a∉m/\a∉iQ/\l.Nodup/\m.Nodup/\(∀c∈l,c∉iQ/\c∉m)/\∀c∈iQ,c∉m:=by rw[e]at nd;simp only[H8,Lj,HZ,HD,Hw,LR]at nd;refine xg nd λn1 o1 n7=>?_;obtain⟨⟨n2,n3⟩,n4,n5,n6⟩:=o1;exact i07 (λq=>n7 a q a (.inl rfl) rfl) n3 n2 n1 n5 (λc hc=>⟨λq=>n7 c hc c (.inr (.inl q)) rfl,λq=>n7 c hc c (.inr (.inr q)) rfl⟩) (λc hc q=>n6 c hc c q rfl)
 have wj:∀c∈as,∀c',s.heap.get? c'=Hu->c≠c':=λc hc c' h0 q=>by
  refine aQ (ET c hc) λo ho o1=>?_;rw[q,h0]at ho;exact no ho
 have GU:a∉b':=λq=>(aO a q).elim uk.2.2.1 λh0=>wj a ha a h0 rfl;have old:∀c∈as,∃o,h'.get? c=hb o/\¬j0 o:=λc hc=>by
  by_cases q:c=a
  ·clear nd tk kt ET;subst q;exact FV c (.head _)
  ·exact aQ (al c hc) λo ho ht=>i12 o (hs c o ho q) ht
 have new:∀c∈l++(a::b'++m),(c∈as∨s.heap.get? c=Hu)/\∃o,h'.get? c=hb o/\¬j0 o:=by
  intro c hc;simp only[HD,Lj,Hw]at hc;rcases hc with hc|hc|hc|hc
  ·exact gQ (.inl (hl c hc)) (old c (hl c hc))
  ·clear nd tk kt ET;subst hc;exact gQ (.inl ha) (old c ha)
  ·exact gQ ((aO c hc).imp (e9 c) id) (FV c (.tail _ hc))
  ·exact gQ (.inl (R c hc)) (old c (R c hc))
 obtain EP:(l++(a::b'++m)).Nodup:=by
  simp only[H8,Lj,HZ,HD,Hw,LR];refine l6 uk.2.2.2.1 ⟨⟨GU,uk.2.1⟩,p7,uk.2.2.2.2.1,λc hc c' hU q=>?_⟩ (λc hc c' hU q=>?_)
  ·clear p7 nd tk kt GU e9 FV ET;subst q;rcases aO c hc with h0|h0
   ·exact uk.2.2.2.2.2.2 c h0 hU
   ·exact wj c (R c hU) c h0 rfl
  ·clear p7 nd tk kt GU R e9 FV ET;subst q;rcases hU with hU|hU|hU
   ·subst hU;exact uk.1 hc
   ·rcases aO c hU with h0|h0
    ·exact(uk.2.2.2.2.2.1 c hc).1 h0
    ·exact wj c (hl c hc) c h0 rfl
   ·exact(uk.2.2.2.2.2.1 c hc).2 hU
 obtain gy:∀c o,s.heap.get? c=hb o->c∉as->h'.get? c=hb o:=λc o q hc=>hs c o ((ag kt) c o q) λq'=>hc (q'▸ha);have hr:∀a',RD Y w Hz s.heap (.ref a') d as->RD Y w Hz h' (.ref a') (up y') (l++(a::b'++m)):=by
  intro a' DS;obtain euu:a'=ad:=by refine dz (dX DS H.own) λo1 q1=>dz (dX hu H.own) λo1 q2=>?_;rw[q1]at q2;exact(IP q2).1
  refine euu.symm▸f h' y' (a::b') (λc o q p=>?_) hy;rcases p with p|p
  ·refine hs c o q λq'=>?_;rw[q']at p;exact(HD.mp p).elim uk.1 uk.2.1
  ·refine hs c o q λq'=>aQ (al a ha) λo' jU ht=>?_;rw[q',jU]at q;have e:=si q;subst e;clear q;exact ht p
 exact i12 _ (I.lY hx hO gy (λc hc=>(old c hc).imp λ_ q=>q.1) new EP (H.Eg _ hw) (H.top _ vo) hr) (iR hO gy λc hc=>(new c hc).1)
end
def place(x k:Ho):Hp (Ho×(Ho->Ho)):=match x with
 |.dict aW=>(fW k).bind λkey=>(atKey key aW).map λy=>(y,λz=>.dict (lj key z aW))
 |.list B=>(cD k).bind λi=>if 0<=i then(B[i.toNat]?).map λy=>(y,λz=>.list (B.set i.toNat z))else Hu
 |_=>Hu
def Pa(Y:IB)(w:Ja)(U:Iv)(n:HG)(sc:IH)(x:HP)(e:HR)(m:ar->Ho->Hp (Ho×(Ho->Ho))):Prop:=
 ∀{{A:Jh}} {{Hz:Hn Hv}} {{K:Ke}} {{ae:HM}} {{X C:Hn Hv}} {{L:ar}} {{O:Hn (HP×Hn Hv)}} {{s:HM}} {{ro:Hp Hv}} {{d y:Ho}} {{up:Ho->Ho}} {{Q:HE->HM->Prop}} {{E:HE->HM->Prop}},
  K.scope=sc->ey A n->du Y w Hz U ae X K C L O s->L x=hb (.own (.tree ro d))->m L d=hb (y,up)->
  (∀ad as v b s',I8 s s'->O.lookup x=hb as->as.Nodup->RD Y w Hz s'.heap (.ref ad) d as->jV Y w Hz s'.heap (.ref ad) d as v y b up->Q v s')->wpAny (Iq Y w) A (Jf e K) Q E s
variable{x:HP}
theorem Pa.name(hv:aA sc x=Hq):Pa Y w U n sc x (.Name x pos) (λ_ d=>hb (d,id)):=by intro A Hz K ae X C L O s ro d y up Q E hs hA I hx R hQ;cases R;exact I.oy (by exact hs.symm▸hv) hx λad as hO r nd c hn=>hQ ad as _ as s (aD s) hO nd r (jV.root r c hn)
theorem Pa.idx{pos:J3}{m:ar->Ho->Hp (Ho×(Ho->Ho))}{mi:ar->Hp V}(h:Pa Y w U n sc x e m)(hi:Ev Y w U n sc BY mi)(gy:∀o j,∃jw,Lp BY HH o j=Nh jw (L2 o j)):
  Pa Y w U n sc x (.Subscript e BY pos) (λL d=>(m L d).bind λp=>(mi L).bind λk=>(place p.1 k.x).map λq=>(q.1,λz=>p.2 (q.2 z))):=by
 intro A Hz K ae X C L O s ro d y up Q E hs hA I hx;refine ak λz0 hz=>ak λz1 hk R hQ=>?_;obtain⟨z,apo⟩:=z0;obtain⟨k,kf⟩:=z1;refine aQ (H6.mp R) λo1 hp R=>?_;obtain⟨y',f⟩:=o1;cases R;dsimp only at hp;refine PyProof.Rows.Subscript_ (h hs hA I hx hz λad as v b ay ah hO nd r H=>hi hs hA (I.grow ah).toInF hk λu' aN aI cY=>dz (gy v u') λjw eo=>?_);obtain⟨ks,rk,_,_⟩:=cY;have H:=H.grow (ag aI);have r:=r.grow (ag aI);obtain kk:=ab ah aI;clear gy hi h pos aI ah R hk hx I hA hs ro X;cases z with
 |dict aW=>
  obtain⟨key,e1,hp⟩:=ao hp;refine aQ (H6.mp hp) λy'' e2 e3=>?_;clear mi;cases e3;obtain H:=dg e1;clear e1;subst H;have H:=rk.ig;clear rk;induction H with|mk t=>?_
  clear u';induction H.key e2 with|mk a aqn v' b' b1 b2 b3 H'=>?_
  exact PyProof.Rows.tail_any (T:="dict") b1.typeIs Ob.lookup (Om (ly _ _) b1.mapOf b3 (hQ ad as v' b' _ (ab kk (aK aN _)) hO nd r H')) eo
 |list B=>
  obtain⟨i',e1,DQ⟩:=ao hp;clear hp;clear mi;obtain rfl:=bJ e1;have H:=rk.dS;clear rk;induction H with|mk t=>?_
  split at DQ
  ·rename_i hi0;refine aQ (H6.mp DQ) λy'' e2 e3=>?_;clear e1 u';cases e3;induction H.item e2 with|mk a vs n' v' b' b1 b2 b3 H'=>?_
   obtain kl:=(H2.mp b3).1;exact PyProof.Rows.tail_any (T:="list") ⟨_,b1,rfl⟩ NM (N1 ⟨_,b1,rfl,_,rfl⟩ hi0 (Ka (HY (LO _) (I4.mpr (Hs (IK kl) (b2▸((aV.mp H.ya).1))))) ed) (by simpa using b3) (hQ ad as v' b' _ kk hO nd r H')) eo
  ·exact no DQ
 |_=>exact no hp
noncomputable def bL(L:ar)(x:HP):Hp (Hp Hv×Ho):=match L x with
 |some (.own (.tree a d))=>hb (a,d)
 |_=>Hu
variable{L:ar}
theorem bU{d:Hp Hv×Ho}(h:bL L x=hb d):L x=hb (.own (.tree d.1 d.2)):=by
 unfold bL at h;generalize L x=o at h⊢;cases o with
 |none=>exact no h
 |some v=>cases v with
  |val _=>exact no h
  |own o=>cases o with
   |tree a d=>(have e:=si h;subst e;clear h);rfl
   |_=>exact no h
noncomputable def listOfD:Ho->Hp (Hn Ho)
 |.list B=>hb B
 |_=>Hu
theorem cT(h:listOfD gc=hb B):gc=.list B:=by
 cases gc with
 |list k=>(have e:=si h;subst e;clear h);rfl
 |_=>exact no h
theorem jV.nodup{up:Ho->Ho}(H:jV Y w Hz h u d as v gc b up)(nd:as.Nodup):b.Nodup:=by refine my H.split λl m e o1=>?_;rw[e,H8,H8]at nd;exact nd.2.1.1
theorem g9{h':Iv}(nd:(a::iQ).Nodup)(hs:∀c o,h.get? c=hb o->c≠a->h'.get? c=hb o)(ha:∃o,h.get? a=hb o/\¬j0 o):jb h h' iQ:=by
 rw[HZ]at nd;intro c o e q;refine hs c o e λq'=>?_;clear hs h';subst q';rcases q with q|q
 ·exact nd.1 q
 ·refine aQ ha λo' e' t=>?_;rw[e]at e';have e:=si e';subst e;clear e';exact t q
theorem ju{f:PR->PR}:∀c o,h.get? c=hb o->c≠a->(h.update a f).get? c=hb o:=λc _ e hc=>((JL h a f).2 c hc).trans e
def qd(x:HP)(mp:ar->Ho->Hp (Ho×(Ho->Ho)))(m:ar->Hp V):ar->Hp Out:=λL=>(bL L x).bind λd=>(mp L d.2).bind λp=>(listOfD p.1).bind λB=>(m L).bind λv=>if flat v.x=Hq/\B.length+1<=sizeLine then hb (.next (L.set x (.own (.tree d.1 (p.2 (.list (B++[v.x])))))))else Hu
theorem S1.ahJ{x:HP}{pe e:HR}{ap cp pos:J3}{mp:ar->Ho->Hp (Ho×(Ho->Ho))}{m:ar->Hp V}(hp:Pa Y w U n sc x pe mp)(h:Ev Y w U n sc e m)(he:∀K,Ie [e] K=[(HH,Jf e K)])(hl:(ap.endLine==cp.line)=Hq)
  (d3:∀K:Ke,J2 pe (HA "append") K (Jf pe K)=Jf pe K)(hi:∀K:Ke,K.scope=sc->KJ K=HH):
  S1 Y w U n sc (.Expr (.Call (.Attribute pe (HA "append") ap) [e] [] cp) pos)
   (qd x mp m):=by
 intro A Hz K ae X C L O s r Q E hs hA I;refine ak λd hd=>ak λz1 hy=>ak λB s6=>ak λv hv R hQ=>?_;obtain⟨y,up⟩:=z1;obtain rfl:=cT s6;obtain hx:=bU hd;revert R;refine jl λhz R=>?_
 ·cases R;refine LP (J5 (d3 K) (by rw[he];rfl) hl LY NN NO (hp hs hA I hx hy λad as v' b ay ah hO nd r H=>?_)) (hi K hs);induction H.node.listI with|mk a vs k iQ a1 a2=>?_
  refine l6 ⟨_,a1,rfl⟩ (λa' ea=>by cases ea;exact⟨_,a1,rfl⟩) ?_;rw[he];show wpAny _ _ (Lq cp (.builtin "list.append") [.ref a] [(HH,Jf e K)] []) _ _ _;refine OO (h hs hA (I.grow ah).toInF hv λuu aN aI cY=>?_);obtain⟨bs,rv,cv,_⟩:=cY;obtain rfl:=rv.bT hz.1;obtain g:=ag aI;obtain H:=H.grow g;have a1:=g _ _ a1;have a2:=a2.grow g;have c:=aV.mp H.ya;refine mD vs.toArray k (by simp[a2.length];exact c.1) a1<|dz (gj vs k (λB=>B.push uu)) λk' ek=>?_;obtain hG:(aN.heap.update a (JB λB=>B.push uu)).get? a=hb (cq (vs++[uu]) k'):=by(refine(Jb _ a1 rfl).trans ?_;refine ek.symm▸?_);simp
  obtain kb:=g9 (H.nodup nd) (ju (h:=aN.heap) (a:=a) (f:=JB λB=>B.push uu)) ⟨_,a1,bw _ _⟩;obtain EY:RD Y w Hz (aN.heap.update a (JB λB=>B.push uu)) (.ref a) (.list (B++[v.x])) (a::(iQ++[])):=
   .list hG ((cL.2 a2 kb).append (.cons (as:=[]) (cL.1 rv (kb.mono λ_ q=>nomatch q)) .nil))
  refine aQ (((I.grow ah).grow aI).put (aD aN) aN.toks hx hO nd (r.grow g) H ju EY (λc hc=>.inl (by simpa using hc)) (by simpa using(HZ.mp (H.nodup nd)).2) (aV.mpr ⟨by simpa using hz.2,by rw[eI,c.2];simp[fw,cv]⟩) rfl) λO' I' T'=>?_;exact hQ O' _ I' ((Step.cM (ag (ab ah aI))).trans T')
def q7(x:HP)(mp:ar->Ho->Hp (Ho×(Ho->Ho)))(ms:ar->Hp (Hn V)):ar->Hp Out:=λL=>(bL L x).bind λd=>(mp L d.2).bind λp=>(listOfD p.1).bind λB=>(ms L).bind λvs=>if b7 (vs.map (·.x))=Hq/\vs.length<=sizeLine/\B.length+1<=sizeLine then hb (.next (L.set x (.own (.tree d.1 (p.2 (.list (B++[.list (vs.map (·.x))])))))))else Hu
theorem S1.agE{pe:HR}{es:Hn HR}{lp ap cp pos:J3}{mp:ar->Ho->Hp (Ho×(Ho->Ho))}{ms:ar->Hp (Hn V)}(hp:Pa Y w U n sc x pe mp)(h:rL Y w U n sc es ms)(he:∀K,Ie [.List es lp] K=[(HH,Jf (.List es lp) K)])(hl:(ap.endLine==cp.line)=Hq)
  (d3:∀K:Ke,J2 pe (HA "append") K (Jf pe K)=Jf pe K)(hi:∀K:Ke,K.scope=sc->KJ K=HH):
  S1 Y w U n sc (.Expr (.Call (.Attribute pe (HA "append") ap) [.List es lp] [] cp) pos)
   (q7 x mp ms):=by
 intro A Hz K ae X C L O s r Q E hs hA I;refine ak λd hd=>ak λz1 hy=>ak λB s6=>ak λws hv R hQ=>?_;obtain⟨y,up⟩:=z1;obtain rfl:=cT s6;obtain hx:=bU hd;revert R;refine jl λhz R=>?_
 ·clear s6 hd;cases R;refine LP (J5 (d3 K) (by rw[he];rfl) hl LY NN NO (hp hs hA I hx hy λad as v' b ay ah hO nd r H=>?_)) (hi K hs);clear hi d3 hl hp pos ap pe hy;induction H.node.listI with|mk a vs k iQ a1 a2=>?_
  refine l6 ⟨_,a1,rfl⟩ (λa' ea=>by cases ea;exact⟨_,a1,rfl⟩) ?_;rw[he];show wpAny _ _ (Lq cp (.builtin "list.append") [.ref a] [(HH,Jf (.List es lp) K)] []) _ _ _;refine OO (OL (h hs hA (I.grow ah).toInF hv λus aN aI cY=>⟨by exact cY.length.symm▸hz.2.1,?_⟩));refine kK cY.yw λbs rv cv o1=>?_;clear he h mp cp lp es o1 cY b v' hv hA hs E A;obtain rfl:=rv.bT hz.1;obtain g:=ag aI;have H:=H.grow g;have a1:=g _ _ a1;have a2:=a2.grow g;have c:=aV.mp H.ya;obtain gp:=bA.push aN.heap (cq us 0);have FN:aN.heap.get? aN.heap.objs.size=Hu:=aR _ (Io _);obtain hDa:aN.heap.objs.size≠a:=λq=>by rw[q,a1]at FN;cases FN
  refine mD vs.toArray k (by simp[a2.length];exact c.1) (gp _ _ a1) ?_;generalize hDD:aN.heap.objs.size=D at*;refine dz (gj vs k (λB=>B.push (.ref D))) λk' ek=>?_;generalize hh:(aN.heap.push (cq us 0)).update a (JB λB=>B.push (.ref D))=h' at*;obtain hG:h'.get? a=hb (cq (vs++[.ref D]) k'):=by(refine hh▸?_;(refine(Jb _ (gp _ _ a1) rfl).trans ?_;rw[ek]));simp
  have iG:∀c o,aN.heap.get? c=hb o->c≠a->h'.get? c=hb o:=λc o q hc=>by exact hh▸ju c o (gp c o q) hc
  obtain hDn:h'.get? D=hb (cq us 0):=by exact hh▸ju D _ (by exact hDD▸H7 _ rfl) hDa
  obtain kb:=g9 (H.nodup nd) iG ⟨_,a1,bw _ _⟩;obtain EY:RD Y w Hz h' (.ref a) (.list (B++[.list (ws.map (·.x))])) (a::(iQ++([D]++[]))):=
   .list hG ((cL.2 a2 kb).append (.cons (.list hDn (cL.2 rv (kb.mono λ_ q=>nomatch q))) .nil))
  have hDb:∀c∈iQ,c≠D:=λc hc q=>by
   refine dz (a2.alive c hc) λo ho=>?_;rw[q,FN]at ho;exact no ho
  obtain⟨O',I',T'⟩:=((I.grow ah).grow aI).put (aD aN) aN.toks hx hO nd (r.grow g) H iG EY (λc hc=>by
   rcases HD.mp hc with hc|hc
   ·exact .inl hc
   ·rw[IA,HB]at hc;exact .inr (hc▸FN)) (by
   rw[IA,H8];exact l6 ((HZ.mp (H.nodup nd)).2) (HZ.mpr ⟨Ia,I9⟩) (λc hc c' hU q=>hDb c hc (q.trans (HB.mp hU)))) (aV.mpr ⟨by simpa using hz.2.2,by
   rw[eI,c.2];have:wf (.list (ws.map (·.x)))=Hq:=aV.mpr ⟨by simpa using hz.2.1,cv⟩;simp[fw,this]⟩) rfl
  exact hQ O' _ I' ((Step.cM (ag (ab ah aI))).trans T')
variable{bs:Hn Hv}
theorem bH.setAt(r:bH Y w Hz h vs B as)(hi:i<B.length)(ru:RD Y w Hz h u y bs):
  ∃l b m,as=l++(b++m)/\bH Y w Hz h (vs.set i u) (B.set i y) (l++(bs++m)):=by
 refine bH.ind (aH:=λvs B as=>∀i:HG,i<B.length->∃l b m,as=l++(b++m)/\bH Y w Hz h (vs.set i u) (B.set i y) (l++(bs++m))) (λi e=>by simp at e) (λ{v vs x B as cs} a q r i e=>?_) r i hi;induction i with
 |zero=>exact Aw ([]) as cs rfl (show bH Y w Hz h (u::vs) (y::B) (bs++cs)from .cons ru q)
 |succ i=>refine uB (r i (Nat.lt_of_succ_lt_succ e)) λl b m h2 h4=>Aw (as++l) b m (by rw[h2,I6]) ?_;rw[I6];exact .cons a h4
def lh(k:HP)(y:Ho)(aW:Hn (Ho×Ho)):Hn (Ho×Ho):=if dw k aW then lj k y aW else aW++[(.str k,y)]
variable{ys:Hn (HP×Ho)}
theorem ak8:dw k (ys.map λp=>(.str p.1,p.2))=Hq->∃i,(ys.map (·.1))[i]? =hb k/\∀y,lj k y (ys.map λp=>(.str p.1,p.2))=(ys.set i (k,y)).map λp=>(.str p.1,p.2):=by
 induction ys with
 |nil=>intro h;cases h
 |cons q ys bY=>
  intro h;change(decide (q.1=k)||dw k (ys.map λp=>(.str p.1,p.2)))=Hq at h;by_cases hk:q.1=k
  ·refine i12 0 (hk▸rfl) (λy=>?_);show(if q.1=k then(JF q.1,y)::_ else _)=_;refine iT hk ?_;rw[hk];rfl
  ·rw[Iw hk,Bool.false_or]at h;refine aQ (bY h) λi h1 h2=>i12 (i+1) h1 (λy=>?_);show(if q.1=k then _ else(JF q.1,q.2)::lj k y _)=_;refine iF hk ?_;rw[h2 y];rfl
theorem acu(nd:(ks.map (·.1)).Nodup)(hi:(ks.map (·.1))[i]? =hb k):ML ks k u=ks.set i (k,u):=by
 obtain aqk:ks.any (λkv=>decide (kv.1=k))=Hq:=by exact aQ (HX.mp (Il hi)) λp hp e=>NY.mpr ⟨p,hp,by simpa using e⟩
 unfold ML;refine iT aqk<|NG λj=>?_;refine Iz.trans ?_;rw[NH];by_cases hj:i=j
 ·subst hj;refine Dz _ rfl ?_;rw[Iz]at hi;refine aQ (H6.mp hi) λp hp e=>?_;refine hp.symm▸(H5 (H2.mp hp).1).symm▸?_;simp[e]
 ·refine Fw _ hj ?_;cases hp:ks[j]?with
  |none=>rfl
  |some p=>
   have:¬p.1=k:=λe=>by
    obtain h2:(ks.map (·.1))[j]? =hb k:=by(refine Iz.trans ?_;rw[hp]);exact HL hb e
    refine dz (H2.mp hi) λh3 o1=>?_;exact hj ((PE h3 nd).mp (hi.trans h2.symm))
   simp[this]
theorem ach:dw k (ys.map λp=>(.str p.1,p.2))=HH->∀p∈ys,p.1≠k:=by
 induction ys with
 |nil=>intro _ _ h;exact nomatch h
 |cons q ys bY=>
  intro h p hp;change(decide (q.1=k)||dw k (ys.map λp=>(.str p.1,p.2)))=HH at h;rw[Jn]at h;rcases Hw.mp hp with rfl|hp
  ·exact Ji h.1
  ·exact bY h.2 p hp
theorem ahv{iQ:Hn Hv}(nd:(ks.map (·.1)).Nodup)(R:(a==Kd)=HH)(hk:ks.map (·.1)=ys.map (·.1))(r:bH Y w Hz h' (ks.map (·.2)) (ys.map (·.2)) iQ)
  (ru:RD Y w Hz h' u y bs)(hd:h'.DictOf (strKind Y w) a (ML ks k u))(n0:iQ.Nodup)(nb:bs.Nodup)(uS:∀c∈bs,c∉iQ):
  ∃b',RD Y w Hz h' (.ref a) (.dict (lh k y (ys.map λp=>(.str p.1,p.2)))) (a::b')/\b'.Nodup/\∀c∈b',c∈iQ∨c∈bs:=by
 unfold lh;cases hh:dw k (ys.map λp=>(.str p.1,p.2))with
 |true=>
  refine(H5 rfl).symm▸aQ (ak8 hh) λi h1 h2=>(h2 y).symm▸?_;have yE:i<(ys.map (·.2)).length:=by have:=(H2.mp h1).1;simpa using this
  refine uB (r.setAt yE ru) λl b m e r'=>?_;rw[acu nd (by rw[hk];exact h1)]at hd;obtain ao1:∀{β:Type}(zs:Hn (HP×β))(v:β),zs.map (·.1)=ys.map (·.1)->(zs.set i (k,v)).map (·.1)=ys.map (·.1):=by
   intro β zs v hz;refine NI.trans ?_;rw[hz];refine NG λj=>NH.trans ?_;split
   ·rename_i q;subst q;refine iT (by simpa using yE) ?_;rw[h1]
   ·rfl
  refine rM (l++(bs++m)) (RD.dict (B:=ys.set i (k,y)) hd R ((ao1 ks u hk).trans (ao1 ys y rfl).symm) (by(refine NI.symm▸?_;refine NI.symm▸?_);exact r')) ?_ (λc hc=>?_)
  ·rw[e]at n0 uS;rw[H8,H8]at n0⊢;refine l6 n0.1 ⟨nb,n0.2.1.2.1,λc hc c' hU q=>uS c hc (by rw[q];exact Hx _ (Hx _ (‹_›)))⟩ (λc hc c' hU q=>?_);rcases HD.mp hU with hU|hU
   ·exact uS c' hU (by exact q▸HF _ ‹_›)
   ·exact n0.2.2 c hc c' (Hx _ hU) q
  ·refine e.symm▸?_;simp only[HD]at hc⊢;rcases hc with hc|hc|hc
   ·exact .inl (.inl hc)
   ·exact .inr hc
   ·exact .inl (.inr (.inr hc))
 |false=>
  rw[Ir ID];obtain qu:ML ks k u=ks++[(k,u)]:=by
   unfold ML;rw[Ir];intro q;refine aQ (NY.mp q) λp hp e=>?_;have:p.1∈ys.map (·.1):=by exact hk▸HX.mpr ⟨p,hp,rfl⟩
   exact aQ (HX.mp this) λp' hp' e'=>(ach hh) p' hp' (e'.trans (IW e))
  rw[qu]at hd;refine rM (iQ++(bs++[])) ?_ ?_ (λc hc=>?_)
  ·have:=RD.dict (B:=ys++[(k,y)]) hd R (by(refine HJ.trans ?_;rw[HJ,hk]);rfl) (by rw[HJ,HJ];exact r.append (.cons ru .nil));rw[show(dictOf (ys++[(k,y)]))=.dict ((ys.map λp=>(JF p.1,p.2))++[(.str k,y)]) by unfold dictOf;rw[HJ];rfl]at this;exact this
  ·rw[IA,H8];exact l6 n0 nb (λc hc c' hU q=>uS c' hU (q▸hc))
  ·rw[IA]at hc;exact HD.mp hc
theorem aiS(h:wf (.dict aW)=Hq)(hk:wf (.str k)=Hq)(hy:wf y=Hq)(hz:aW.length+1<=sizeLine):wf (.dict (lh k y aW))=Hq:=by
 unfold lh;split
 ·exact adN h hy
 ·simp only[wf,HU,Ik]at h⊢;refine⟨by simpa using hz,fY.mpr λp hp=>?_⟩;rcases HD.mp hp with q|q
  ·exact fY.mp h.2 p q
  ·exact(HB.mp q).symm▸⟨by simpa[wf]using hk,hy⟩
section
theorem acx(b:h.DictOf (strKind Y w) a ks):(ks.map (·.1)).Nodup:=by obtain⟨_,_,_,_,_,_,_,_,q⟩:=b;exact q
variable{ae s t:HM}{X C:Hn Hv}{K:Ke}
theorem du.afT{A:Jh}{E:HE->HM->Prop}{Q:Nq->HM->Prop}(I:du Y w Hz U ae X K C L O s)(kt:I8 s t){ro:Hp Hv}{ad:Hv}{d:Ho}{v:HE}{aW:Hn (Ho×Ho)}{b:Hn Hv}{up:Ho->Ho}{tk:Pk}(hx:L x=hb (.own (.tree ro d)))(hO:O.lookup x=hb as)
  (nd:as.Nodup)(hu:RD Y w Hz t.heap (.ref ad) d as)(H:jV Y w Hz t.heap (.ref ad) d as v (.dict aW) b up)(rv:RD Y w Hz t.heap z y bs)(yD:∀c∈bs,s.heap.get? c=Hu)(nb:bs.Nodup)(EW:wf y=Hq)(hwk:wf (.str k)=Hq)(n8:aW.length+1<=sizeLine)(rN:dQ aW=Hq)
  (hQ:∀O' s',du Y w Hz U ae X K C (L.set x (.own (.tree ro (up (.dict (lh k y aW)))))) O' s'->Step s.heap s'.heap (WW K C O) (WW K C O')->Q () s'):wpAny (Iq Y w) A (OG v (.str k tk) z) Q E t:=by
 induction H.node.nK rN with|mk a ks ys iQ b1 b2 b3 b4=>?_
 obtain a8:ks.length=ys.length:=by simpa using HL Km b3
 refine NP (knd:=strKind Y w) (ly _ _) b1 (λh' qx gy=>?_) (by refine a8.symm▸?_;simp at n8;exact NQ n8);have iG:∀c o,t.heap.get? c=hb o->c≠a->h'.get? c=hb o:=λc o q hc=>(gy.2 c hc).trans q;have uk:=H.nodup nd;have D0:=cJ.1 H.node a (.head _);have kb:=g9 uk iG D0;have t9:∀c∈bs,c∉as:=λc hc q=>by
  exact aQ (I.cO c (cB hO q)) λo ho o1=>no ((yD c hc).symm.trans ho)
 obtain e9:∀c∈a::iQ,c∈as:=λc hc=>by
  exact my H.split λl m e o1=>e.symm▸Hx _ (HF _ hc)
 have kv:jb t.heap h' bs:=λc o q p=>iG c o q λq'=>by
  clear rN tk b aW v E A a8 gy;subst q';rcases p with p|p
  ·exact t9 c p (e9 c (.head _))
  ·refine aQ D0 λo' jU ht=>?_;rw[q]at jU;have e:=si jU;subst e;clear jU;exact ht p
 have ndk:=acx b1;refine kK (ahv (k:=k) ndk b2 b3 (cL.2 b4 kb) (cL.1 rv kv) qx (HZ.mp uk).2 nb (λc hc q=>t9 c hc (e9 c (.tail _ q)))) λb' n1 n2 n3=>aQ (I.put kt (t.toks+1) hx hO nd hu H iG n1 (λc hc=>(n3 c hc).imp id (yD c)) n2 (aiS H.ya hwk EW n8) rfl) λO' I' T'=>?_;clear rN n8 hwk EW nb yD rv H hu nd hO hx tk b aW v d ad I E A b4 b3 b2 b1 ndk kv e9 t9 kb D0 uk iG a8 n3 n2 n1 b' gy qx;refine my kt λh1 t1 o1 o2=>?_;subst o1;exact hQ O' _ I' T'
end
def AV(x:HP)(mp:ar->Ho->Hp (Ho×(Ho->Ho)))(mi m:ar->Hp V):ar->Hp Out:=λL=>(bL L x).bind λd=>(m L).bind λv=>(mp L d.2).bind λq=>(gK q.1).bind λaW=>(mi L).bind λk=>(fW k.x).bind λkey=>if flat v.x=Hq/\aW.length+1<=sizeLine then hb (.next (L.set x (.own (.tree d.1 (q.2 (.dict (lh key v.x aW)))))))else Hu
theorem S1.apI{x:HP}{pe i e:HR}{p pos:J3}{mp:ar->Ho->Hp (Ho×(Ho->Ho))}{mi m:ar->Hp V}(hp:Pa Y w U n sc x pe mp)(hi:Ev Y w U n sc i mi)(h:Ev Y w U n sc e m)(iS:∀K:Ke,JU e (hb (.Subscript pe i p)) pos.line K=pure HH):
  S1 Y w U n sc (.Assign [.Subscript pe i p] e pos)
   (AV x mp mi m):=by
 intro A Hz K ae X C L O s r Q E hs hA I;refine ak λd hd=>ak λv hv=>ak λz2 hy=>ak λaW AE=>ak λz4 hk=>ak λkey sk R hQ=>?_;obtain⟨y,up⟩:=z2;obtain⟨kx,kf⟩:=z4;dsimp only at AE sk;refine ew (gG AE) λo1 rN=>?_;subst o1;obtain rfl:=dg sk;have hx:=bU hd;revert R;refine jl λhz R=>?_
 ·have e:=si R;subst e;clear R;refine Kr (h hs hA I.toInF hv λz ay ah aL=>hp hs hA (I.grow ah) hx hy λad as v' b aN aI hO nd r H=>hi hs hA ((I.grow ah).grow aI).toInF hk λku dN dO pd=>?_) (iS K);obtain⟨cs,rk,ck,_⟩:=pd;obtain H:=rk.ig;clear rk;induction H with|mk t=>?_
  obtain⟨bs,rv,cv,_⟩:=aL;obtain rfl:=rv.bT hz.1;obtain g:=ag dO;exact I.afT (ab ah (ab aI dO)) hx hO nd (r.grow g) (H.grow g) (rv.grow (ag (ab aI dO))) (λ_ q=>nomatch q) I9 cv ck hz.2 rN λO' s' I' T'=>hQ O' s' I' T'
def uF(x:HP)(mp:ar->Ho->Hp (Ho×(Ho->Ho)))(mi:ar->Hp V)(m:ar->Hp (Hn Ho)):ar->Hp Out:=λL=>(bL L x).bind λd=>(m L).bind λys=>(mp L d.2).bind λq=>(gK q.1).bind λaW=>(mi L).bind λk=>(fW k.x).bind λkey=>if b7 ys=Hq/\aW.length+1<=sizeLine then hb (.next (L.set x (.own (.tree d.1 (q.2 (.dict (lh key (.list ys) aW)))))))else Hu
theorem S1.aoo{pe i e:HR}{p pos:J3}{mp:ar->Ho->Hp (Ho×(Ho->Ho))}{mi:ar->Hp V}{m:ar->Hp (Hn Ho)}(hp:Pa Y w U n sc x pe mp)(hi:Ev Y w U n sc i mi)(h:BK Y w U n sc e m)(iS:∀K:Ke,JU e (hb (.Subscript pe i p)) pos.line K=pure HH):
  S1 Y w U n sc (.Assign [.Subscript pe i p] e pos)
   (uF x mp mi m):=by
 intro A Hz K ae X C L O s r Q E hs hA I;refine ak λd hd=>ak λys hv=>ak λz2 hy=>ak λaW AE=>ak λz4 hk=>ak λkey sk R hQ=>?_;obtain⟨y,up⟩:=z2;obtain⟨kx,kf⟩:=z4;dsimp only at AE sk;refine ew (gG AE) λo1 rN=>?_;subst o1;clear AE;obtain rfl:=dg sk;have hx:=bU hd;revert R;refine jl λhz R=>?_
 ·have e:=si R;subst e;clear R;refine Kr (h hs hA I.toInF hv λD cs' ay ah rv cv fr=>hp hs hA (I.grow ah) hx hy λad as v' b aN aI hO nd r H=>hi hs hA ((I.grow ah).grow aI).toInF hk λku dN dO pd=>?_) (iS K);obtain⟨cs,rk,ck,_⟩:=pd;obtain H:=rk.ig;clear rk;induction H with|mk t=>?_
  refine Ct rv.fM λo1 o2 o3 o4 o5 e2 o6 q=>?_;clear iS h hi hp pos p i pe e o6 o5 o3 ku sk hk hy hv hd hA hs;obtain rfl:=(IP e2).2;clear m mi mp e2 o1;obtain rfl:=q.bT hz.1;obtain g:=ag dO;exact I.afT (ab ah (ab aI dO)) hx hO nd (r.grow g) (H.grow g) (rv.grow (ag (ab aI dO))) fr (HZ.mpr ⟨Ia,I9⟩) cv ck hz.2 rN λO' s' I' T'=>hQ O' s' I' T'
def ql(x:HP)(mp:ar->Ho->Hp (Ho×(Ho->Ho)))(m:ar->Hp V):ar->Hp Out:=λL=>(bL L x).bind λd=>(mp L d.2).bind λp=>(listOfD p.1).bind λB=>(m L).bind λv=>(listOfD v.x).bind λys=>if b7 ys=Hq/\B.length+ys.length<=sizeLine/\v.fl=.d then hb (.next (L.set x (.own (.tree d.1 (p.2 (.list (B++ys)))))))else Hu
theorem S1.ajb{pe:HR}{ap cp pos:J3}{mp:ar->Ho->Hp (Ho×(Ho->Ho))}{m:ar->Hp V}(hp:Pa Y w U n sc x pe mp)(h:Ev Y w U n sc e m)(he:∀K,Ie [e] K=[(HH,Jf e K)])(hl:(ap.endLine==cp.line)=Hq)
  (d3:∀K:Ke,J2 pe (HA "extend") K (Jf pe K)=Jf pe K)(hi:∀K:Ke,K.scope=sc->KJ K=HH):
  S1 Y w U n sc (.Expr (.Call (.Attribute pe (HA "extend") ap) [e] [] cp) pos)
   (ql x mp m):=by
 intro A Hz K ae X C L O s r Q E hs hA I;refine ak λd hd=>ak λz1 hy=>ak λB s6=>ak λz3 hv=>ak λys p8 R hQ=>?_;obtain⟨y,up⟩:=z1;obtain⟨vx,vf⟩:=z3;dsimp only at s6 p8;obtain rfl:=cT s6;clear s6;obtain rfl:=cT p8;obtain hx:=bU hd;revert R;refine jl λhz R=>?_
 ·clear p8 hd;cases R;refine LP (J5 (d3 K) (by rw[he];rfl) hl LY PZ P0 (hp hs hA I hx hy λad as v' b ay ah hO nd r H=>?_)) (hi K hs);clear hi d3 hl hp pos ap pe hy;induction H.node.listI with|mk a vs k iQ a1 a2=>?_
  refine l6 ⟨_,a1,rfl⟩ (λa' ea=>by cases ea;exact⟨_,a1,rfl⟩) ?_;rw[he];show wpAny _ _ (Lq cp (.builtin "list.extend") [.ref a] [(HH,Jf e K)] []) _ _ _;refine Q5 (h hs hA (I.grow ah).toInF hv λuu aN aI cY=>?_);obtain⟨bs,rv,cv,ov⟩:=cY;dsimp only at rv cv ov;obtain H:=rv.listI;clear rv;induction H with|mk D us k2 wq b1 b2=>?_
  clear he mp cp ov bs uu b v' hv hA hs E A;obtain rfl:=b2.bT hz.1;have g:=ag aI;have H:=H.grow g;have a1:=g _ _ a1;have a2:=a2.grow g;have c:=aV.mp H.ya;refine Fe D vs.toArray us.toArray k k2 (by simp[a2.length];exact c.1) (by simp[a2.length,b2.length];exact JZ hz.2.1) (PyProof.Rows.extend_door (by simp[a2.length,b2.length];exact hz.2.1)) rfl a1 b1<|dz (gj vs k (λB=>B++us.toArray)) λk' ek=>?_;obtain hG:(aN.heap.update a (JB λB=>B++us.toArray)).get? a=hb (cq (vs++us) k'):=by(refine(Jb _ a1 rfl).trans ?_;rw[ek]);simp
  obtain kb:=g9 (H.nodup nd) (ju (h:=aN.heap) (a:=a) (f:=JB λB=>B++us.toArray)) ⟨_,a1,bw _ _⟩;obtain EY:RD Y w Hz (aN.heap.update a (JB λB=>B++us.toArray)) (.ref a) (.list (B++ys)) (a::(iQ++[])):=
   .list hG ((cL.2 a2 kb).append (cL.2 b2 (kb.mono λ_ q=>nomatch q)))
  refine aQ (((I.grow ah).grow aI).put (aD aN) aN.toks hx hO nd (r.grow g) H ju EY (λc hc=>.inl (by simpa using hc)) (by simpa using(HZ.mp (H.nodup nd)).2) (aV.mpr ⟨by simpa using hz.2.1,by rw[eI,c.2,(aV.mp cv).2];rfl⟩) rfl) λO' I' T'=>?_;exact hQ O' _ I' ((Step.cM (ag (ab ah aI))).trans T')
variable{s:HM}
theorem amb{A:Jh}{E:HE->HM->Prop}{k:HG}{j:HI}{Q:Nq->HM->Prop}(ho:s.heap.get? a=hb (cq vs k))(h0:0<=j)(hz:j<2^63)(hj:j.toNat<vs.length)
  (hQ:Q () {s with heap:=s.heap.update a (JB λys=>ys.setIfInBounds j.toNat v)}):wpAny (Iq Y w) A (OG (.ref a) (.int j t) v) Q E s:=by
 obtain ty:s.TypeIs (.ref a) "list":=⟨_,ho,rfl⟩;obtain get:vs.toArray[j.toNat]? =hb vs[j.toNat]:=by simp[hj]
 obtain body:wpAny (Iq Y w) A.in1 (Builtin.«list.__setitem__» ⟨[.ref a,.int j t,v],[]⟩) (λr s'=>∃x,r=.done (.ret x)/\Q () s') E s:=by change wpAny _ _ (LX (.int j t)>>=_) _ _ s;refine Ht (wpAny_listSubscript_int (fitsIndex_of h0 hz) ?_);clear hz;obtain⟨i,rfl⟩:=MT h0;change wpAny _ _ ((seqItemAt a i>>=λr=>pure (r.map (i,·)))>>=_) _ _ s;refine Ht (Ht (wpAny_seqItemAt ho rfl (HV (get.symm▸?_))));change wpAny _ _ (setSeqItemAt a i v>>=_) _ _ s;exact Ht (wpAny_setSeqItemAt ho rfl (HV ⟨.none,rfl,hQ⟩))
 refine KR<|Ht (Od ty (by decide) (Ht (JV (name:=HA "__setitem__") ty MZ (KU MZ ty Qu (Kf body (λr s' h=>?_) λ_ _ e=>e) (QH _ _ _)))));obtain⟨x,e,q⟩:=h;exact i12 x e (HV q)
def B5(x:HP)(mp:ar->Ho->Hp (Ho×(Ho->Ho)))(mi m:ar->Hp V):ar->Hp Out:=λL=>(bL L x).bind λd=>(mp L d.2).bind λq=>(listOfD q.1).bind λB=>(mi L).bind λk=>(cD k.x).bind λj=>if 0<=j then(B[j.toNat]?).bind λy=>(cD y).bind λa=>(m L).bind λv=>(cD v.x).bind λb=>hb (.next (L.set x (.own (.tree d.1 (q.2 (.list (B.set j.toNat (.int (a+b)))))))))else Hu
theorem S1.apx{pe i e:HR}{p pos:J3}{mp:ar->Ho->Hp (Ho×(Ho->Ho))}{mi m:ar->Hp V}(hp:Pa Y w U n sc x pe mp)(hi:Ev Y w U n sc i mi)(h:Ev Y w U n sc e m)
  (D8:∀ov iv new,augStore i ov iv new=(do Oa [new,ov,iv] (OG ov iv new);release [new,ov,iv] [];pure .next)):
  S1 Y w U n sc (.AugAssign (.Subscript pe i p) .Add e pos)
   (B5 x mp mi m):=by
 intro A Hz K ae X C L O s r Q E hs hA I;refine ak λd hd=>ak λz1 hy=>ak λB s6=>ak λz3 hk=>ak λj hj Ah hQ=>?_;obtain⟨y,up⟩:=z1;obtain⟨kx,kf⟩:=z3;obtain rfl:=cT s6;clear s6;obtain rfl:=bJ hj;obtain hx:=bU hd;split at Ah
 ·rename_i GI;obtain⟨o,ho,Ah⟩:=ao Ah;obtain⟨ai,ha,Et⟩:=ao Ah;clear Ah;clear hj hd;obtain rfl:=bJ ha;obtain⟨⟨vx,vf⟩,hv,Ex⟩:=ao Et;clear Et;obtain⟨bi,hbi,EE⟩:=ao Ex;clear Ex;clear ha;obtain rfl:=bJ hbi;have e:=si EE;subst e;clear EE;refine wpAny_AugAssign_SubscriptAny (hp hs hA I hx hy λad as v' b ay ah hO nd r H=>hi hs hA (I.grow ah).toInF hk λku aN aI cY=>?_) D8;obtain⟨cs,rk,ck,_⟩:=cY;have H:=rk.dS;clear rk;induction H with|mk t=>?_
  obtain g:=ag aI;obtain H:=H.grow g;obtain r:=r.grow g;clear D8 hi hp pos p i pe g ck hbi ku hk hy;induction H.node.listI with|mk a vs k iQ a1 a2=>?_
  have c:=aV.mp H.ya;obtain hz:=ed;refine j4 (a2.get ho) λov ob e1 e2 o1=>?_;obtain H:=e2.dS;clear e2;induction H with|mk t'=>?_
  have kl:=(H2.mp e1).1;obtain a8:=a2.length;refine N1 ⟨_,a1,rfl,_,rfl⟩ GI (Ka (LO _) (xP (Hs (IK (a8▸kl)) c.1) hz)) (by simpa using e1) (h hs hA ((I.grow ah).grow aI).toInF hv λuu dN dO pd=>?_);obtain⟨bs,rv,cv,_⟩:=pd;obtain H:=rv.dS;clear rv;induction H with|mk t''=>?_
  refine PySem.AutoIntOps.iadd_0 ?_;have kk:=ab ah (ab aI dO);have g3:=ag dO;have H:=H.grow g3;have a1:=g3 _ _ a1;have a2:=a2.grow g3;refine amb a1 GI (Ka (LO _) (xP (Hs (IK (a8▸kl)) c.1) hz)) (NR kl)<|dz (gj vs k (λys=>ys.setIfInBounds j.toNat (.int (ai+bi) dN.toks))) λk' ek=>?_;have hG:(dN.heap.update a (JB λys=>ys.setIfInBounds j.toNat (.int (ai+bi) dN.toks))).get? a=hb (cq (vs.set j.toNat (.int (ai+bi) dN.toks)) k'):=by(refine(Jb _ a1 rfl).trans ?_;rw[ek]);simp
  have kb:=g9 (H.nodup nd) (ju (h:=dN.heap) (a:=a) (f:=JB λys=>ys.setIfInBounds j.toNat (.int (ai+bi) dN.toks))) ⟨_,a1,bw _ _⟩;obtain hjx:=Nv kl a8;refine uB ((cL.2 a2 kb).setAt hjx (.int (ai+bi) dN.toks)) λl b m' eb yw=>?_;have nb:=(HZ.mp (H.nodup nd)).2;obtain⟨O',I',T'⟩:=I.put kk (dN.toks+1) hx hO nd (r.grow g3) H ju (.list hG yw) (λc hc=>.inl (by
   refine eb.symm▸?_;simp only[HD,Ia,false_or]at hc⊢;exact hc.imp id .inr)) (by
   rw[eb]at nb;simp only[KX];rw[H8,H8]at nb;rw[H8];exact l6 nb.1 nb.2.1.2.1 (λc hc c' hU=>nb.2.2 c hc c' (Hx _ hU))) (aV.mpr ⟨by simpa using c.1,adX c.2 rfl⟩) rfl
  clear h mi mp t'' t nb hjx kb hG a2 a1 g3 a8 kl hz e hx cv hv ho c yw eb m' l ek k' dO uu e1 ov aI H nd hO ah b v' GI I hA hs E r A;refine my kk λh1 t1 o1 o2=>?_;subst o1;exact hQ O' _ I' T'
 ·exact no Ah
variable{ps:Hn HP}
theorem lD{k:HP->Hp LL}:∀{us:Hn HE}{m c:HP->Hp HE},ps.Nodup->∀{y:HP}{u:HE},(ps.zip us).lookup y=hb u->
  (k y=hb .local->Oc k (ps.zip us) m y=hb u)/\(k y≠hb .local->Ox k (ps.zip us) c y=hb u):=by
 induction ps with
 |nil=>exactλ_ _ _ e=>no e
 |cons p ps ih=>
  intro us m c hn y u e;cases us with
  |nil=>exact no e
  |cons v us=>
  rw[HZ]at hn;simp only[IT,HK]at e;by_cases hy:y=p
  ·subst hy;simp only[Ih]at e;have e:=si e;subst e;clear e;refine⟨λhk=>?_,λhk=>?_⟩
   ·rw[IT,Oc,aas (lW hn.1),H5 hk];exact H5 rfl
   ·rw[IT,Ox,aar (lW hn.1),Ir hk];exact H5 rfl
  ·obtain hyp:(y==p)=HH:=by simpa using hy
   rw[hyp]at e;exact ih hn.2 e
theorem ae1{B:Hn α}{us:Hn HE}{y:HP}{x:α}(hl:ps.length=us.length)(h:(ps.zip B).lookup y=hb x):∃u,(ps.zip us).lookup y=hb u:=
 IV.mp (aay hl y (Ky (cH h)).1)
structure pb(Y:IB)(w:Ja)(Hz:Hn Hv)(U h:Iv)(ps:Hn HP)(px:HP)(us:Hn HE)(B:Hn Ho)(a:Hv)(d:Ho)(as:Hn Hv):Prop where
 val:(ps.zip us).lookup px=hb (.ref a)
 dat:(ps.zip B).lookup px=hb d
 tree:RD Y w Hz h (.ref a) d as
 node:dD d=Hq
 nodup:as.Nodup
 new:∀c∈as,U.get? c=Hu
 args:∀y u x,(ps.zip us).lookup y=hb u->(ps.zip B).lookup y=hb x->y≠px->∃bs,RD Y w Hz h u x bs/\∀c∈bs,c∉as
variable{px:HP}
theorem du.vD{s':HM}(b:fg Y Hz U s.heap)(ng:K.scope=sc)(hk:sc.kind=.function)(hg:K.globals=I3)(u5:K.builtins=K1)
  (o8:K.cells=LV (K.locals+1) sc.names [])(zR:j2 sc=Hq)(rO:ps.Nodup)(rd:bH Y w Hz s.heap yi B pO)(hw:fw B=Hq)(a8:ps.length=yi.length)(T:pb Y w Hz U s.heap ps px yi B a d as)
  (x:InCallC s K.locals (Oc K.kindOf (ps.zip yi) λ_=>Hu) K.cells (Ox K.kindOf (ps.zip yi) λ_=>Hu) s'):
  du Y w Hz U s as K (K.cells.map (·.2)) ((nL ps B).set px (.own (.tree (hb a) d))) [(px,as)] s':=by
 have I:=du.start (w:=w) b ng hk hg u5 o8 zR rO rd hw x;have keep:=x.toInCall.keep;have Dq:∀c,c∈WW K (K.cells.map (·.2)) [(px,as)]↔c∈WW K (K.cells.map (·.2)) []∨c∈as:=by intro c;simp[WW,or_assoc]
 have t9:∀c∈WW K (K.cells.map (·.2)) [],s.heap.get? c=Hu:=λc hc=>(I.bZ c hc).2 Ia;have yA:=cJ.1 T.tree;obtain gq:∀c∈WW K (K.cells.map (·.2)) [],c∉as:=λc hc q=>by
  exact aQ (yA c q) λo e o1=>no ((t9 c hc).symm.trans e)
 have vars:∀y vv,((nL ps B).set px (.own (.tree (hb a) d))) y=hb vv->∃u,cj Y w Hz s.heap (WW K (K.cells.map (·.2)) [(px,as)]) [(px,as)] s'.heap y u vv/\
   (K.kindOf y=hb .local->Oc K.kindOf (ps.zip yi) (λ_=>Hu) y=hb u)/\(K.kindOf y≠hb .local->Ox K.kindOf (ps.zip yi) (λ_=>Hu) y=hb u):=by
  intro y vv e;obtain e':=(eW _ _ _ _).symm.trans e;by_cases hy:y=px
  ·rw[H5 hy]at e';have e:=si e';subst e;clear e';subst hy;refine rM (.ref a) ⟨as,by rw[HK,Ih],.tree (T.tree.grow keep) T.nodup ?_ T.node λ_ q=>(H4 q).symm⟩ ((lD (m:=λ_=>Hu) (c:=λ_=>Hu) rO T.val).1) ((lD (m:=λ_=>Hu) (c:=λ_=>Hu) rO T.val).2);exact(cN _).mp hw _ (Ky (cH T.dat)).2
  ·rw[Ir hy]at e';rw[adt]at e';induction dI e' with|mk z hz=>?_
   refine dz (ae1 a8 hz) λu hu=>aQ (T.args y u z hu hz hy) λbs q1 q2=>rM u ⟨?_,dK.fixed (q1.grow keep) ((cN _).mp hw _ (Ky (cH hz)).2) λc hc hq=>?_⟩ ((lD (m:=λ_=>Hu) (c:=λ_=>Hu) rO hu).1) ((lD (m:=λ_=>Hu) (c:=λ_=>Hu) rO hu).2)
   ·unfold V.fix;split
    ·exact .inl rfl
    ·exact .inr rfl
   ·refine dz (q1.alive c hc) λo eo=>?_;rcases(Dq c).mp hq with hq|hq
    ·exact no ((t9 c hq).symm.trans eo)
    ·exact q2 c hc hq
 refine⟨⟨I.same,I.base,λc o e _=>keep c o e,I.alive,λc hc=>?_,λc hc=>?_,?_,I.kind,I.glob,I.jA,I.rU,⟨_,x.toInCall.ns,λy vv e1 e2=>?_⟩,λy vv e1 e2=>?_⟩,I.fc,I.l9,I.il⟩
 ·rcases(Dq c).mp hc with hc|hc
  ·exact I.cO c hc
  ·exact aQ (yA c hc) λo e t=>i12 o (keep c o e) t
 ·rcases(Dq c).mp hc with hc|hc
  ·exact gQ ((I.bZ c hc).1) (λ_=>t9 c hc)
  ·exact gQ (T.new c hc) (λq=>IG hc q)
 ·have:WW K (K.cells.map (·.2)) [(px,as)]=WW K (K.cells.map (·.2)) []++as:=by simp[WW]
  refine this.symm▸?_;rw[H8];exact l6 I.b9 T.nodup (λc hc c' hU q=>gq c hc (q▸hU))
 ·exact kK (vars y vv e1) λu r q1 o1=>i12 u (q1 e2) r
 ·refine kK (vars y vv e1) λu r o1 q2=>aQ (I.fc y e2) λc hc o1=>mD c u hc ?_ r;have:=x.cell _ c hc;rw[q2 (by rw[e2];simp)]at this;exact this
def DB(Y:IB)(w:Ja)(U:Iv)(n:HG)(f:Hv)(ps:Hn HP)(px:HP)(m:Hn Ho->Hp Ho):Prop:=
 ∀{{A:Jh}} {{Hz:Hn Hv}} {{s:HM}} {{us:Hn HE}} {{B:Hn Ho}} {{pO as:Hn Hv}} {{a:Hv}} {{d d':Ho}} {{Q:HE->HM->Prop}} {{E:HE->HM->Prop}},
  Room A n->fg Y Hz U s.heap->bH Y w Hz s.heap us B pO->fw B=Hq->ps.length=us.length->pb Y w Hz U s.heap ps px us B a d as->m B=hb d'->
  (∀eS s',(∃h tk,s'={s with heap:=h,toks:=tk})->(∀b o,s.heap.get? b=hb o->b∉as->s'.heap.get? b=hb o)->(∀b o,s.heap.get? b=hb o->∃o',s'.heap.get? b=hb o')->RD Y w Hz s'.heap (.ref a) d' eS->eS.Nodup->wf d'=Hq->
   (∀c∈eS,c∈as∨s.heap.get? c=Hu)->Q .none s')->wpAny (Iq Y w) A (call (.ref f) us) Q E s
def lH(ps:Hn HP)(px:HP)(m:ar->Hp Out)(a:Hv)(B:Hn Ho):Hp Ho:=
 if B.length=ps.length then((ps.zip B).lookup px).bind λd=>(m ((nL ps B).set px (.own (.tree (hb a) d)))).bind λo=>match o with
  |.next L=>(bL L px).bind λq=>if q.1=hb a then hb q.2 else Hu
  |_=>Hu
 else Hu
variable{body:Hn IM}
theorem DB.def{m:ar->Hp Out}{spec:Hn Ho->Hp Ho}(D:jq U jo sc ps body)(D4:px∈ps)(h:St Y w U n sc body m)(R:∀a B d',spec B=hb d'->lH ps px m a B=hb d'):DB Y w U (n+1) jo ps px spec:=by
 intro A Hz s us B pO as a d d' Q E hA b rd hw a8 T kZ hQ;obtain vp:=R a B d' kZ;obtain⟨fo,fd,args,ho,hd,hp,p6,r9,ng,qb,yq,yh,u5,yf⟩:=D.there;unfold lH at vp;split at vp
 ·rename_i GR;obtain⟨aqa,rG,vp⟩:=ao vp;rw[T.dat]at rG;have e:=si rG;subst e;clear rG;obtain⟨o,jU,hy⟩:=ao vp;obtain xo:args.length=ps.length:=by simpa using HL Km p6
  obtain yg:=xo.trans a8;obtain hJ:(args.map (·.arg)).Nodup:=by rw[p6];exact D.names
  refine N4 (Le (fd:=fd) (body:=body) (by have:=hA.depth;exact HC (Hs (Ib _ _) (Ib _ _)) this) (b.grow _ _ ho) hd (by rw[ng];exact D.co) (by rw[ng];exact D.gen) r9 (yf.keeps b.grow) ?_);rw[iU hp yq yg hJ,p6,ng,yh,qb,u5];refine HV (Kz D.kind (λz hz=>?_) λK he s' x=>?_)
  ·refine(dZ (D.vars _ (Ky hz).1)).imp id λq=>⟨q,gk _ _ _ (.inl q)⟩
  ·have e1:K.scope=sc:=by rw[he];rfl
   have e2:K.globals=I3:=by rw[he];rfl
   have e3:K.builtins=K1:=by rw[he];rfl
   obtain e4:K.cells=LV (K.locals+1) sc.names []:=by rw[he];rfl
   have I:=du.vD (w:=w) b e1 D.kind e2 e3 e4 D.once D.names rd hw a8 T x;refine gQ I.base.nolimit (Ni ?_);obtain pe:jf K:=⟨by rw[e1];exact D.gen,by rw[e1];exact D.co,e3,e2⟩;refine h e1 (hA.deeper pe) I jU ?_;clear R h pe I e4 e3 e2 hJ yg xo jU yf u5 yh yq qb ng r9 p6 hp hd ho args fo x he GR kZ T a8 hw rd b hA pO us A;induction o with
   |next L=>
    obtain⟨⟨a',Ez⟩,ht,C8⟩:=ao hy;clear hy;dsimp only at C8;split at C8
    ·rename_i ea;clear spec fd;obtain rfl:=H4 C8;subst ea;obtain hx:=bU ht;dsimp only at hx;intro O' jR J T';obtain aqd:∃eS,O'.lookup px=hb eS/\RD Y w Hz jR.heap (.ref a) Ez eS/\eS.Nodup/\wf Ez=Hq:=by
      have fin:∀u,cj Y w Hz s.heap (WW K (K.cells.map (·.2)) O') O' jR.heap px u (.own (.tree (hb a) Ez))->∃eS,O'.lookup px=hb eS/\RD Y w Hz jR.heap (.ref a) Ez eS/\eS.Nodup/\wf Ez=Hq:=by
       rintro u ⟨sp,e,r⟩;clear ht T' s' E;induction r.pz with|mk _ q1 q2 q3 _ q5=>?_
       exact DO _ e (by exact(q5 a rfl).symm▸q1) q2 q3
      rcases dZ (D.vars px D4)with q|q
      ·exact aQ J.ns λmm yk hv=>aQ (hv px _ hx (by unfold KG;exact e1.symm▸q)) λu o1 r=>fin u r
      ·exact j4 (J.cell px _ hx (by unfold KG;exact e1.symm▸q)) λc u o1 o2 r=>fin u r
     refine Cm aqd λeS r1 r2 r3 r4=>hQ eS jR J.same (λc o e q=>J.keep c o e q) J.alive r2 r3 r4 λc hc=>?_;by_cases q:c∈as
     ·exact .inl q
     ·exact .inr ((J.bZ c (cB r1 hc)).2 q)
    ·exact no C8
   |ret z=>exact no hy
   |fR z L=>exact no hy
   |brk L=>exact no hy
   |cont L=>exact no hy
 ·exact no vp
def zp(Y:IB)(w:Ja)(U:Iv)(n:HG)(x:HP)(ps:Hn HP)(px:HP)(m:Hn Ho->Hp Ho):Prop:=
 ∃a o fd,bt U x (.ref a)/\U.get? a=hb o/\o.data=.func fd/\DB Y w U n a ps px m
theorem zp.of{m:ar->Hp Out}{spec:Hn Ho->Hp Ho}(D:lO U x sc ps body)(D4:px∈ps)(h:St Y w U n sc body m)(R:∀a B d',spec B=hb d'->lH ps px m a B=hb d'):zp Y w U (n+1) x ps px spec:=by exact aQ D λa g D=>vc D.there λfo fd args ho hd o1=>A3 a fo fd g ho hd (DB.def D D4 h R)
theorem aeR{o:Hp Ho}(h:(o.bind λd'=>if dD d'=Hq then hb d' else Hu)=hb d):o=hb d/\dD d=Hq:=by
 obtain⟨d',h1,h2⟩:=ao h;split at h2
 ·rename_i hn;have e:=si h2;subst e;clear h2;exact⟨h1,hn⟩
 ·exact no h2
def sv(x:HP)(m1 m3:ar->Hp V)(m:Hn Ho->Hp Ho):ar->Hp Out:=λL=>(bL L x).bind λd=>(m1 L).bind λv1=>(m3 L).bind λv3=>if v1.fl≠.t/\flat v3.x=Hq then((m [v1.x,d.2,v3.x]).bind λd'=>if dD d'=Hq then hb d' else Hu).map λd'=>.next (L.set x (.own (.tree d.1 d')))else Hu
variable{k:HG}
theorem S1.aon{f p1 p3:HP}{e1 e3:HR}{np xp cp pos:J3}{m1 m3:ar->Hp V}{m:Hn Ho->Hp Ho}(h:zp Y w U k f [p1,px,p3] px m)(h1:Ev Y w U n sc e1 m1)(h3:Ev Y w U n sc e3 m3)(hv:aA sc x=Hq)(vm:aY sc f=Hq)(hk:k<=n)
  (gq:p1≠px/\p3≠px/\p3≠p1)(qu:∀K,Ie [e1,.Name x xp,e3] K=(HH,Jf e1 K)::Ie [.Name x xp,e3] K)
  (Aj:∀K,Ie [.Name x xp,e3] K=(HH,Jf (.Name x xp) K)::Ie [e3] K)(Ae:∀K,Ie [e3] K=(HH,Jf e3 K)::Ie [] K)(er:∀K:Ke,(J4 cp (Ie [e1,.Name x xp,e3] K)).any (·.1)=HH)
  (hi:∀K:Ke,K.scope=sc->KJ K=HH):
  S1 Y w U n sc (.Expr (.Call (.Name f np) [e1,.Name x xp,e3] [] cp) pos)
   (sv x m1 m3 m):=by
 intro A Hz K ae X C L O s r Q E hs hA I;refine ak λd hd=>ak λv1 hv1=>ak λv3 FP R hQ=>?_;obtain hx:=bU hd;split at R
 ·rename_i hz;clear hd;induction dI R with|mk d' kS=>?_
  refine ew (aeR kS) λkS vo=>Au h λfa fo fd g ho BV hf=>LP ?_ (hi K hs);show wpAny _ _ (Jf (.Name f np) K>>=λf=>Lq cp f [] (J4 cp (Ie [e1,.Name x xp,e3] K)) []) _ _ s;refine Ht (dh I.toInF (by exact hs.symm▸vm) g (dY (.inr (.inr ⟨fa,fo,fd,rfl,ho,BV⟩)) (er K) (Kt (h1 hs hA I.toInF hv1 λu1 ay ah aL=>Kt ((I.grow ah).oy (by exact hs.symm▸hv) hx λad as hO rt nd ct cn=>Kt (h3 hs hA (I.grow ah).toInF FP λu3 aN aI cY=>LM ?_) (Ae _)) (Aj _)) (qu _))));have gN:=(I.grow ah).grow aI;have g2:=ag aI;refine gQ gN.base.grow ?_;obtain⟨Hj,ra,ca,Dl⟩:=aL;obtain⟨as3,rc,cc,_⟩:=cY;clear hi er Ae Aj qu vm hv h3 h1 h pos cp xp np e3 e1 BV ho g fd fo FP hv1 I hs r;obtain rfl:=rc.bT hz.2;have ra:=ra.grow g2;have rt:=rt.grow g2;obtain uS:∀c∈Hj,c∉as:=by
   intro c hc q;obtain hw:=cB (K:=K) (C:=C) hO q;clear m3 m1 g2 f E;cases e:v1.fl with
   |d=>rw[e]at Dl;exact(Dl c hc).2 hw
   |s=>rw[e]at Dl;exact Dl c hc hw
   |t=>exact hz.1 e
  have l1:=HO.mpr (K9 gq.1);have l3:=HO.mpr gq.2.2;obtain l4:=HO.mpr gq.2.1;obtain H:pb Y w Hz U aN.heap [p1,px,p3] px [u1,.ref ad,u3] [v1.x,d.2,v3.x] ad d.2 as:=by
   refine⟨by simp[HK,l1],by simp[HK,l1],rt,cn,nd,λc hc=>(gN.bZ c (cB hO hc)).1,λy u z q1 q2 q3=>?_⟩;simp only[IT,HK]at q1 q2;by_cases y1:y=p1
   ·clear gq m3 m1 l4 l3 l1 g2 Dl nd f hz E;subst y1;simp only[Ih]at q1 q2;have e:=si q1;subst e;clear q1;have e:=si q2;subst e;clear q2;exact i12 Hj ra uS
   ·rw[HO.mpr y1]at q1 q2;simp only at q1 q2;rw[HO.mpr q3]at q1 q2;simp only at q1 q2;by_cases y3:y=p3
    ·clear gq m3 m1 l4 l3 l1 uS g2 Dl q3 nd f hz E;subst y3;simp only[Ih]at q1 q2;have e:=si q1;subst e;clear q1;have e:=si q2;subst e;clear q2;exact i12 ([]) rc (λ_ q=>nomatch q)
    ·rw[HO.mpr y3]at q1;exact no q1
  refine hf (hA.toRoom.mono hk) gN.base (.cons ra (.cons rt (.cons rc .nil))) (by simp[fw,ca,ct,cc]) rfl H kS λeS s' sm kp al zM p7 BZ fr=>?_;obtain hn:∀c∈eS,(c∈as∨aN.heap.get? c=Hu)/\∃o,s'.heap.get? c=hb o/\¬j0 o:=λc hc=>⟨fr c hc,cJ.1 zM c hc⟩;obtain ha:∀c∈as,∃o,s'.heap.get? c=hb o:=λc hc=>by
   exact aQ (gN.cO c (cB hO hc)) λo e o1=>al c o e
  clear gq hk m3 m1 H l4 l3 l1 uS g2 cc rc Dl ca ra fr al u3 ct nd f hf fa kS hz hA E A;refine pQ sm λh' tk o1=>?_;subst o1;obtain I':=gN.lY (tk:=tk) hx hO kp ha hn p7 BZ vo (λa' q=>by
   refine dz (dX q cn) λo1 z1=>dz (dX rt cn) λo1 z2=>?_;rw[z1]at z2;exact((IP z2).1).symm▸zM)
  exact hQ _ _ I' ((Step.cM (ag (ab ah aI))).trans (iR hO kp λc hc=>(hn c hc).1))
 ·exact no R
def lT(Y:IB)(w:Ja)(U:Iv)(n:HG)(sc:IH)(e:HR)(m:ar->Hp Ho):Prop:=
 ∀{{A:Jh}} {{Hz:Hn Hv}} {{K:Ke}} {{ae:HM}} {{X C:Hn Hv}} {{L:ar}} {{O:Hn (HP×Hn Hv)}} {{s:HM}} {{d:Ho}} {{Q:HE->HM->Prop}} {{E:HE->HM->Prop}},
  K.scope=sc->ey A n->InF Y w Hz U ae X K C L O s->m L=hb d->
  (∀u as s',I8 s s'->RD Y w Hz s'.heap u d as->as.Nodup->wf d=Hq->(∀a∈as,s.heap.get? a=Hu)->Q u s')->wpAny (Iq Y w) A (Jf e K) Q E s
theorem lT.flat{m:ar->Hp V}(h:Ev Y w U n sc e m):lT Y w U n sc e (λL=>(m L).bind λv=>if flat v.x=Hq then hb v.x else Hu):=by
 intro A Hz K ae X C L O s d Q E hs hA I;refine ak λv hv=>jl λhf R hQ=>?_
 ·have e:=si R;subst e;clear R;refine h hs hA I hv λu s' k r=>?_;obtain⟨as,rd,c,_⟩:=r;obtain rfl:=rd.bT hf;exact hQ u [] s' k rd I9 c λ_ q=>nomatch q
theorem lT.nil:lT Y w U n sc (.List [] pos) (λ_=>hb (.list [])):=by
 intro A Hz K ae X C L O s d Q E hs hA I R hQ;have e:=si R;subst e;clear R;refine OL (LM ⟨JS _,?_⟩);exact hQ _ [s.heap.objs.size] _ (bE s _) (.list (vs:=[]) (H7 _ rfl) .nil) (HZ.mpr ⟨Ia,I9⟩) (by decide) λa ha=>by
  exact(HB.mp ha).symm▸aR _ (Io _)
theorem lT.emp:lT Y w U n sc (.Dict [] [] pos) (λ_=>hb (.dict [])):=by
 intro A Hz K ae X C L O s d Q E hs hA I R hQ;have e:=si R;subst e;clear R;refine QP ?_;obtain wo:(s.heap.objs.size==Kd)=HH:=by refine dz I.base.mods λo ho=>?_;have:=II (I.base.grow _ _ ho);simpa using(KT this)
 exact hQ _ [s.heap.objs.size] _ (bE s _) (RD.dict (aW:=[]) (B:=[]) (MB _) wo rfl .nil) (HZ.mpr ⟨Ia,I9⟩) (by decide) λa ha=>by
  exact(HB.mp ha).symm▸aR _ (Io _)
inductive DI(Y:IB)(w:Ja)(Hz:Hn Hv)(h:Iv):Hn (HE×HE)->Hn (HP×Ho)->Hn Hv->Prop
 |nil:DI Y w Hz h [] [] []
 |cons {x:HP} {t:Pk} {u:HE} {d:Ho} {us:Hn (HE×HE)} {ds:Hn (HP×Ho)} {as bs:Hn Hv}:wf (.str x)=Hq->wf d=Hq->RD Y w Hz h u d as->DI Y w Hz h us ds bs->DI Y w Hz h ((.str x t,u)::us) ((x,d)::ds) (as++bs)
def AQ(Y:IB)(w:Ja)(U:Iv)(n:HG)(sc:IH)(ks:Hn (Hp HR))(es:Hn HR)(m:ar->Hp (Hn (HP×Ho))):Prop:=
 ∀{{A:Jh}} {{Hz:Hn Hv}} {{K:Ke}} {{ae:HM}} {{X C:Hn Hv}} {{L:ar}} {{O:Hn (HP×Hn Hv)}} {{s:HM}} {{r:Hn (HP×Ho)}} {{pos:J3}} {{Q:Hn (HE×HE)->HM->Prop}} {{E:HE->HM->Prop}},
  K.scope=sc->ey A n->InF Y w Hz U ae X K C L O s->m L=hb r->(∀us as s',I8 s s'->DI Y w Hz s'.heap us r as->as.Nodup->(∀a∈as,s.heap.get? a=Hu)->Q us s')->wpAny (Iq Y w) A (evalPairs (pairTrees ks es K pos)) Q E s
theorem AQ.nil:AQ Y w U n sc [] [] (λ_=>hb []):=by intro A Hz K ae X C L O s r pos Q E hs hA I R hQ;(have e:=si R;subst e;clear R);exact Qt (hQ [] [] s (aD s) .nil I9 λ_ q=>nomatch q)
theorem AQ.cons{x:HP}{k:HG}{kp:J3}{e:HR}{ks:Hn (Hp HR)}{es:Hn HR}{m:ar->Hp Ho}{ms:ar->Hp (Hn (HP×Ho))}(h:lT Y w U n sc e m)(hr:AQ Y w U n sc ks es ms)(hx:wf (.str x)=Hq):
  AQ Y w U n sc (hb (.Constant (.str x) k kp)::ks) (e::es) (λL=>(m L).bind λa=>(ms L).bind λr=>hb ((x,a)::r)):=by
 intro A Hz K ae X C L O s r pos Q E hs hA I;refine ak λa ha=>ak λr' GS R hQ=>?_;have e:=si R;subst e;clear R;refine Qd (MK ?_);obtain pj:=aK s (s.toks+1);refine h hs hA (I.grow pj) ha λu as ay ah aL nd c fr=>hr hs hA ((I.grow pj).grow ah) GS λus bs aN aI cY nd2 DU=>hQ _ (as++bs) _ (ab pj (ab ah aI)) (.cons hx c (aL.grow (ag aI)) cY) ?_ λy hy=>?_
 ·rw[H8];refine l6 nd nd2 (λy hy z hz q=>dz (aL.alive y hy) λo ho=>?_);rw[q,DU z hz]at ho;exact no ho
 ·rcases HD.mp hy with hy|hy
  ·exact fr y hy
  ·cases e:s.heap.get? y with
   |none=>rfl
   |some o=>have:=ag ah y o e;exact no ((DU y hy).symm.trans this)
theorem DI.str(r:DI Y w Hz h us ds as):allStrKeys us=Hq/\(Nb us).map (·.1)=ds.map (·.1)/\bH Y w Hz h ((Nb us).map (·.2)) (ds.map (·.2)) as/\∀p∈ds,wf (.str p.1)=Hq/\wf p.2=Hq:=by
 induction r with
 |nil=>exact yW rfl rfl .nil (λ_ q=>nomatch q)
 |cons a b c _ ih=>
  refine yW ih.1 (by simp only[Nb,HS,ih.2.1]) (.cons c ih.2.2.1) (λp hp=>?_);rcases Hw.mp hp with rfl|hp
  ·exact gQ a b
  ·exact ih.2.2.2 p hp
theorem lT.dict{m:ar->Hp (Hn (HP×Ho))}(h:AQ Y w U n sc keys values m)(iG:keys.all (·.isSome)=Hq)(hl:keys.length=values.length)(h0:keys≠[])
  (a8:keys.length<=15):lT Y w U n sc (.Dict keys values pos) (λL=>(m L).bind λr=>if(r.map (·.1)).Nodup/\r.length<=sizeLine then hb (dictOf r)else Hu):=by
 intro A Hz K ae X C L O s d Q E hs hA I;refine ak λr hr=>jl λhc R hQ=>?_
 ·cases R;refine Q6 (knd:=strKind Y w) iG hl h0 a8 ?_;obtain pj:=bE s {cls:=.type "dict",data:=.dict #[]};refine h hs hA (I.grow pj) hr λus as ay ah aL nd fr=>Bh aL.str λq1 q2 q3 q4=>?_;obtain hz:=aR _ (Io _);obtain wo:(s.heap.objs.size==Kd)=HH:=by refine dz I.base.mods λo ho=>?_;have:=II (I.base.grow _ _ ho);simpa using(KT this)
  have hd:ay.heap.DictOf (strKind Y w) s.heap.objs.size []:=(MB s.heap).keep (ag ah);have ao7:s.heap.objs.size∉as:=λq=>by
   have:=fr _ q;exact no (this.symm.trans (H7 s.heap rfl))
  refine rM (Nb us) (QS Y w us q1) hd (λh' qx gy=>?_);rw[Qe _ (by rw[q2];exact hc.1)]at qx;obtain g:bA s.heap h':=λb o e=>by
   obtain gq:b≠s.heap.objs.size:=λe'=>by rw[e',hz]at e;exact no e
   exact(gy.2 b gq).trans<|ag ah _ _ (bA.push _ _ _ _ e)
  obtain kb:jb ay.heap h' as:=λb o e q=>by
   obtain gq:b≠s.heap.objs.size:=λe'=>by
    subst e';rcases q with q|⟨vs,kk,rfl⟩
    ·exact ao7 q
    ·refine vc hd λo' es ep jU hx o1=>?_;rw[jU]at e;have e:=si e;subst e;clear e;have:=hx.1;simp at this
   exact(gy.2 b gq).trans e
  refine my (ab pj ah) λh1 t1 e1 o1=>hQ _ (s.heap.objs.size::as) _ ⟨h',_,by rw[e1],g⟩ (.dict qx wo q2 (cL.2 q3 kb)) (HZ.mpr ⟨ao7,nd⟩) (oQ.mpr ⟨hc.2,q4⟩) λa ha=>?_;rcases Hw.mp ha with rfl|ha
  ·exact hz
  ·cases e:s.heap.get? a with
   |none=>rfl
   |some o=>have:=bA.push s.heap {cls:=.type "dict",data:=.dict #[]} a o e;exact no ((fr a ha).symm.trans this)
section
variable{ae s':HM}{X C:Hn Hv}{K:Ke}
theorem du.abG(I:du Y w Hz U ae X K C L O s)(k:I8 s s')(x:HP){as:Hn Hv}(hf:∀a∈as,s.heap.get? a=Hu)(ha:∀a∈as,∃o,s'.heap.get? a=hb o/\¬j0 o)(nd:as.Nodup):
  du Y w Hz U ae X K C (L.del x) ((x,as)::O) s':=by
 have hW:∀b,b∈WW K C ((x,as)::O)->b∈WW K C O∨b∈as:=by
  intro b aO;simp only[WW,IF,Hw,HD]at aO⊢;rcases aO with h|h|h|h
  ·exact .inl (.inl h)
  ·exact .inl (.inr (.inl h))
  ·exact .inr h
  ·exact .inl (.inr (.inr h))
 obtain hW':∀b∈WW K C ((x,as)::O),b∈WW K C O∨s.heap.get? b=Hu:=λb h=>(hW b h).imp id (hf b);have g:=ag k;obtain I':=I.grow k;have ne:∀a∈as,a∉WW K C O:=λa h=>(I.toInF.fresh (hf a h)).2;have turn:∀y,y≠x->∀u vv,cj Y w Hz ae.heap (WW K C O) O s.heap y u vv->cj Y w Hz ae.heap (WW K C ((x,as)::O)) ((x,as)::O) s'.heap y u vv:=λy hy u vv r=>
  r.turn (Z:=[]) (Off.cM g) (λb o e _=>g b o e) (λ_ _ _ _ q=>nomatch q) hW' (by(refine HK.trans ?_;rw[HO.mpr hy]))
 refine⟨⟨I'.same,I'.base,I'.keep,I'.alive,λa h=>?_,λa h=>?_,?_,I.kind,I.glob,I.jA,I.rU,?_,λy vv e1 e2=>?_⟩,I.fc,I.l9,I'.il⟩
 ·exact(hW a h).elim (I'.cO a) (ha a)
 ·rcases hW a h with h|h
  ·exact I.bZ a h
  ·refine gQ ?_ (λ_=>(I.toInF.fresh (hf a h)).1);cases e:U.get? a with
   |none=>rfl
   |some o'=>have:=I.base.grow _ _ e;exact no ((hf a h).symm.trans this)
 ·have N:=I.b9;unfold WW at N⊢;rw[HZ,H8]at N;refine IF.symm▸?_;rw[HZ,H8,H8];refine yW (λq=>?_) N.2.1 ⟨nd,N.2.2.1,λa h b h' e=>ne a h (e▸I5 _ (Hx _ h'))⟩ (λa h b h' e=>?_)
  ·rcases HD.mp q with q|q
   ·exact N.1 (HF _ q)
   ·rcases HD.mp q with q|q
    ·exact ne _ q (.head _)
    ·exact N.1 (Hx _ q)
  ·rcases HD.mp h' with h'|h'
   ·exact ne b h' (e▸I5 _ (HF _ h))
   ·exact N.2.2.2 a h b h' e
 ·refine aQ I.ns λm R hv=>i12 m (R.keeps g) (λy vv e1 e2=>?_);have d4:(if y=x then Hu else L y)=hb vv:=e1;by_cases hy:y=x
  ·rw[H5 hy]at d4;exact no d4
  ·rw[Ir hy]at d4;exact aQ (hv y vv d4 e2) λu a b=>i12 u a (turn y hy u vv b)
 ·have d4:(if y=x then Hu else L y)=hb vv:=e1;by_cases hy:y=x
  ·rw[H5 hy]at d4;exact no d4
  ·rw[Ir hy]at d4;exact j4 (I.cell y vv d4 e2) λc u a b d=>mD c u a (et b g) (turn y hy u vv d)
end
def zq(Y:IB)(w:Ja)(U:Iv)(n:HG)(x:HP)(d:Ho):Prop:=
 ∃f o fd,bt U x (.ref f)/\U.get? f=hb o/\o.data=.func fd/\∀{{A:Jh}} {{Hz:Hn Hv}} {{s:HM}} {{Q:HE->HM->Prop}} {{E:HE->HM->Prop}},Room A n->fg Y Hz U s.heap->
  (∀u as s',I8 s s'->RD Y w Hz s'.heap u d as->as.Nodup->wf d=Hq->(∀a∈as,s.heap.get? a=Hu)->Q u s')->wpAny (Iq Y w) A (call (.ref f) []) Q E s
theorem zq.of{m:ar->Hp Ho}(D:lO U x sc [] [.Return (hb e) pos])(h:lT Y w U n sc e m)(R:m (nL [] [])=hb d):zq Y w U (n+1) x d:=by
 refine aQ D λf g D=>?_;obtain⟨fo,fd,args,ho,hd,hp,p6,r9,ng,qb,yq,yh,u5,yf⟩:=D.there;refine A3 f fo fd g ho hd ?_;intro A Hz s Q E hA b hQ;obtain yg:args.length=([]:Hn HE).length:=by simpa using HL Km p6
 obtain hJ:(args.map (·.arg)).Nodup:=by exact p6.symm▸I9
 refine N4 (Le (fd:=fd) (body:=[.Return (hb e) pos]) (by have:=hA.depth;exact HC (Hs (Ib _ _) (Ib _ _)) this) (b.grow _ _ ho) hd (by exact ng.symm▸D.co) (by exact ng.symm▸D.gen) r9 (yf.keeps b.grow) ?_);refine(iU hp yq yg hJ).symm▸p6.symm▸ng.symm▸yh.symm▸qb.symm▸u5.symm▸?_;refine HV (Kz D.kind (λz hz=>nomatch hz) λK he s' x=>?_);have e1:K.scope=sc:=by refine he.symm▸?_;rfl
 have e2:K.globals=I3:=by refine he.symm▸?_;rfl
 have e3:K.builtins=K1:=by refine he.symm▸?_;rfl
 obtain e4:K.cells=LV (K.locals+1) sc.names []:=by refine he.symm▸?_;rfl
 have I:=du.start (w:=w) (ps:=[]) b e1 D.kind e2 e3 e4 D.once D.names .nil rfl x;refine gQ I.base.nolimit (Ni ?_);obtain pe:jf K:=⟨by exact e1.symm▸D.gen,by exact e1.symm▸D.co,e3,e2⟩;refine M8 (L3 (h e1 (hA.deeper pe) I.toInF R λu as jR k rd nd c fr=>?_));have kk:I8 s s':=by exact pQ I.same λh' tk e=>Ca h' tk e (λb o eb=>by have:=I.keep b o eb Ia;rw[e]at this;exact this)
 refine hQ u as jR (ab kk k) rd nd c λa ha=>?_;cases e:s.heap.get? a with
 |none=>rfl
 |some o=>have:=ag kk a o e;exact no ((fr a ha).symm.trans this)
theorem S1.aiA{np cp p pos:J3}(h:zq Y w U k jo d)(hn:dD d=Hq)(hv:aA sc x=Hq)(vm:aY sc jo=Hq)(hk:k<=n)(er:∀K:Ke,(J4 cp (Ie [] K)).any (·.1)=HH)
  (iS:∀K:Ke,K.scope=sc->JU (.Call (.Name jo np) [] [] cp) (hb (.Name x p)) pos.line K=pure HH):
  S1 Y w U n sc (.Assign [.Name x p] (.Call (.Name jo np) [] [] cp) pos) (λL=>hb (.next (L.set x (.own (.tree Hu d))))):=by
 intro A Hz K ae X C L O s r Q E hs hA I R hQ;have e:=si R;subst e;clear R;refine Au h λfa fo fd g ho BV hf=>Kk ?_ (iS K hs);show wpAny _ _ (Jf (.Name jo np) K>>=λjo=>Lq cp jo [] (J4 cp (Ie [] K)) []) _ _ s;refine Ht (dh I.toInF (by exact hs.symm▸vm) g (dY (.inr (.inr ⟨fa,fo,fd,rfl,ho,BV⟩)) (er K) (LM ⟨I.base.grow,?_⟩)));refine hf (hA.toRoom.mono hk) I.base λu as ay ah rd nd c fr=>?_;have al:=cJ.1 rd;have gN:=I.abG ah x fr al nd;have hu:∃a,u=.ref a:=by
  clear iS er hk vm pos p cp np al hf BV ho g fd fo fa I hA E A;cases d with
  |list B=>exact e42 rd.fM λa o1 o2 o3 e o4=>⟨a,e⟩
  |dict B=>exact my rd.head.1 λa _ e _=>⟨a,e⟩
  |_=>cases hn
 clear iS er hk vm pos p cp np al hf BV ho g fd fo fa I hA;refine dz hu λa o1=>?_;subst o1;refine gN.store (v:=.own (.tree Hu d)) (by exact hs.symm▸hv) ⟨as,by(refine HK.trans ?_;rw[Ih]),.tree rd nd c hn (λ_ q=>nomatch q)⟩ λs' I' t=>hQ _ s' (by rw[<-nT];exact I') (Step.trans ⟨λb o e _=>ag ah b o e,λb aO=>?_⟩ t);simp only[WW,IF,Hw,HD]at aO⊢;rcases aO with h|h|h|h
 ·exact .inl (.inl h)
 ·exact .inl (.inr (.inl h))
 ·exact .inr (fr b h)
 ·exact .inl (.inr (.inr h))
end
section
section
end
end
structure j7(ns:Hn HP)(U:Iv)(C:Hv)(mN:HP->Hp HE):Prop where
 here:∃N,PyProof.Rows.ClsAt U C N mN
 ga:mN "__getattribute__"=Hu
 gh:mN "__getattr__"=Hu
 sa:mN "__setattr__"=Hu
 attrs:∀y∈ns,mN y=Hu
 obj:∀y∈ns,Kw (.type "object") y=pure Hu
variable{h:Iv}{v:HE}{as:Hn Hv}
theorem RD.handed(r:RD Y w Hz h v x as):handedOut v=pure v:=
 r.casesOn rfl (λ_=>rfl) (λ_ _=>rfl) (λ_ _=>rfl) (λ_ _=>rfl) (λ_ _ _=>rfl) (λ_ _ _ _=>rfl) (λ_=>rfl) (λ_ _=>rfl) (λ_ _ _ _ _=>rfl) (λ_=>rfl)
variable{C a dx:Hv}{mN m:HP->Hp HE}{s:HM}{A:Jh}{E:HE->HM->Prop}{nl:Hn HP}
theorem ia{ex:Ig}{Q:HE->HM->Prop}(aU:j7 nl U C mN)(b:bA U s.heap)(i:oM s.heap a dx C m)(hy:y∈nl)(hv:m y=hb v)(hh:handedOut v=pure v)(hQ:∀s',I8 s s'->s'.heap=s.heap->Q v s'):
  wpAny (Iq Y w) A (getAttr (.ref a) y ex) Q E s:=by
 obtain⟨h,g,d,t,os⟩:=s;refine dz aU.here λN X=>?_;obtain⟨nm,q,bs,sn,sub,col,dd,k0,k1,k2,k3,k5,hC⟩:=(X.keeps b).obj;exact load_attr hC (X.keeps b).ns aU.ga (aU.attrs y hy) (aU.obj y hy) i.inst hv hh (hQ _ (aK _ _) rfl)
theorem qU{nl:Hn HP}{ns:Hn HP}{Q:Nq->HM->Prop}(aU:j7 nl U C mN)(b:bA U s.heap)(i:oM s.heap a dx C m)(hy:y∈nl)(hn:Within m ns)(hl:ns.length<=20)(hf:U.get? a=Hu)
  (hQ:∀h' tk,oM h' a dx C (λz=>if z=y then hb v else m z)->(∀c o,c≠a->c≠dx->s.heap.get? c=hb o->h'.get? c=hb o)->Q () {s with heap:=h',toks:=tk}):
  wpAny (Iq Y w) A (setAttr (.ref a) y v) Q E s:=by
 obtain⟨h,g,d,t,os⟩:=s;refine dz aU.here λN X=>?_;obtain⟨nm,q,bs,sn,sub,col,dd,k0,k1,k2,k3,k5,Ak⟩:=X.obj;have hxC:a≠C:=by rintro rfl;exact no (hf.symm.trans Ak)
 have hz:ns.length<=sizeLine:=Hs hl (by decide);refine store_attr PySem.F.store_object (b _ _ Ak) (X.keeps b).ns aU.sa (aU.attrs y hy) (aU.obj y hy) hxC i.inst (λh' He I' hk akr=>?_) hn hz;obtain⟨o,e1,e2,e3,e4,e5,e6⟩:=i;refine e15 (akr o e1) λrK f1 f2 f3 f4 f5=>Cm I' λo' g1 g2 g3 g4=>?_;clear hf hl hn hy b aU nl hz hxC e6 e2 Ak k5 k3 k2 k1 k0 dd col sub sn bs nm g3 f4 f2 akr I' X N;obtain rfl:=H4 (f1.symm.trans g1);refine hQ h' He ⟨rK,f1,g2,(by exact f3.symm▸e3),f5 dx e4,e5,?_⟩ λc ob h1 h2 q=>hk c ob h1 (λaqt d' q1 q2=>by
  clear hQ Q ns e5 e3 h1 g2 g1 f3 f1 hk He;obtain rfl:=H4 (e1.symm.trans q1);clear e1 q1;obtain rfl:=H4 (e4.symm.trans q2);exact h2) q
 rcases g4 with⟨g4,_⟩|⟨d',g4,_,g5⟩
 ·exact no (g4.symm.trans (f5 dx e4))
 ·clear hQ Q ns e5 e3 e1 os t d g q g2 g1 f3 f1 hk He;obtain rfl:=H4 ((f5 dx e4).symm.trans g4);exact g5
noncomputable def AN:Ho->Hp (Ho×Ho)
 |.dict [kv]=>hb kv
 |_=>Hu
noncomputable def uv:Ho->Hp (Hn Ho)
 |.tuple B=>hb B
 |_=>Hu
def gn(C V:Hv)(x:Ho):Hp (HI×Hn Ho):=(AN x).bind λkv=>(uv kv.1).bind λks=>(uv kv.2).bind λfs=>
 if(ks[0]?.bind cD)=hb (C:HI)/\(ks[1]?.bind cD)=hb (V:HI)then(ks[2]?.bind cD).map λp=>(p,fs)else Hu
def Cg(V:Hv)(x:Ho):Hp (HI×HI):=(AN x).bind λkv=>(cD kv.1).bind λv=>if v=(V:HI)then(uv kv.2).bind λfs=>(fs[0]?.bind cD).bind λa=>(fs[1]?.bind cD).map λb=>(a,b)else Hu
noncomputable def vA(f:js):Hn Ho:=[f.told,.int f.opened,f.given,f.bD,.tuple (f.held.map λq=>.tuple [.str q.1,.int q.2]),.tuple (f.aC.map λq=>.tuple [.int q.1,.int q.2])]
theorem d0(C V p:Hv)(f:js):gn C V (aE C V p f)=hb ((p:HI),vA f):=by show(if hb (C:HI)=hb (C:HI)/\hb (V:HI)=hb (V:HI)then hb ((p:HI),vA f)else Hu)=_;exact(H5 ⟨rfl,rfl⟩)
theorem afG(V:Hv)(x y:HI):Cg V (oX V x y)=hb (x,y):=by show(if(V:HI)=(V:HI)then hb (x,y)else Hu)=_;exact(H5 rfl)
theorem oz{B:Hn (HP×Ho)}{kv:Ho×Ho}(h:AN (dictOf B)=hb kv):∃k,kv.1=.str k:=by
 rcases B with _|⟨p,_|⟨q,B⟩⟩
 ·exact no h
 ·have e:=si h;subst e;clear h;exact⟨_,rfl⟩
 ·exact no h
section
variable(Y w Hz)
inductive af1(h:Iv)(C V:Hv):HE->Ho->HI×Hn Ho->Hn Hv->Prop
 |mk (a dx hd p:Hv) (aJ:Hn (Hv×Hv)) (f:js) (vs:Hn HE) (m:HP->Hp HE) (ks:Hn (HP×HE)) (bs:Hn Hv) (i:bj Y w h a dx C V p hd aJ f vs m ks) (r:bH Y w Hz h vs [f.told,f.given,f.bD] bs):af1 h C V (.ref a) (aE C V p f) ((p:HI),vA f) (bP a dx hd aJ++bs)
inductive afc(h:Iv)(C V:Hv)(u:HE)(x:Ho)(q:HI×Hn Ho)(as:Hn Hv):Prop
 |mk (a dx hd p:Hv) (aJ:Hn (Hv×Hv)) (f:js) (vs:Hn HE) (m:HP->Hp HE) (ks:Hn (HP×HE)) (bs:Hn Hv) (h1:u=.ref a) (h2:x=aE C V p f) (h3:q=((p:HI),vA f)) (h4:as=bP a dx hd aJ++bs) (i:bj Y w h a dx C V p hd aJ f vs m ks) (r:bH Y w Hz h vs [f.told,f.given,f.bD] bs):afc h C V u x q as
end
variable{u:HE}
theorem RD.vK{V:Hv}{q:HI×Hn Ho}(r:RD Y w Hz h u x as)(e:gn C V x=hb q):af1 Y w Hz h C V u x q as:=by
 revert e;refine r.casesOn (λe=>no e) (λ_ e=>no e) (λ_ _ e=>no e) (λ_ _ e=>no e) (λ_ _ e=>no e) (λ_ _ _ e=>no e) (λ_ _ _ _ e=>by
  obtain⟨kv,h1,h2⟩:=ao e;refine dz (oz h1) λk hk=>?_;rw[hk]at h2;exact no h2) (λ_ e=>no e) (λ{a dx C' V' p hd aJ f vs m ks bs} i rs e=>?_) (λ_ _ _ _ _ e=>no e) (λ_ e=>no e)
 replace e:(if hb (C':HI)=hb (C:HI)/\hb (V':HI)=hb (V:HI)then hb ((p:HI),vA f)else Hu)=hb q:=e;by_cases hv:hb (C':HI)=hb (C:HI)/\hb (V':HI)=hb (V:HI)
 ·rw[H5 hv]at e;obtain rfl:=H4 e;obtain rfl:=J7 (H4 hv.1);obtain rfl:=J7 (H4 hv.2);exact⟨a,dx,hd,p,aJ,f,vs,m,ks,bs,i,rs⟩
 ·rw[Ir hv]at e;exact no e
theorem RD.jW{V:Hv}{q:HI×Hn Ho}(r:RD Y w Hz h u x as)(e:gn C V x=hb q):afc Y w Hz h C V u x q as:=by
 induction r.vK e with|mk a dx hd p aJ f vs m ks bs i rs=>?_
 exact⟨a,dx,hd,p,aJ,f,vs,m,ks,bs,rfl,rfl,rfl,rfl,i,rs⟩
theorem RD.val_inv{V:Hv}{q:HI×HI}(r:RD Y w Hz h u x as)(e:Cg V x=hb q):∃b db,u=.ref b/\as=[b,db]/\ik h V b db q.1 q.2:=by
 revert e;refine r.casesOn (λe=>no e) (λ_ e=>no e) (λ_ _ e=>no e) (λ_ _ e=>no e) (λ_ _ e=>no e) (λ_ _ _ e=>no e) (λ_ _ _ _ e=>by
  obtain⟨kv,h1,h2⟩:=ao e;refine dz (oz h1) λk hk=>?_;rw[hk]at h2;exact no h2) (λ{V' b db y z} i e=>?_) (λ_ _ e=>no e) (λ_ _ _ _ _ e=>no e) (λ_ e=>no e)
 replace e:(if(V':HI)=(V:HI)then hb (y,z)else Hu)=hb q:=e;by_cases hv:(V':HI)=(V:HI)
 ·rw[H5 hv]at e;obtain rfl:=H4 e;obtain rfl:=J7 hv;exact mD b db rfl rfl i
 ·rw[Ir hv]at e;exact no e
def tS(V:Hv)(ws:Hn Ho)(i:Ho):Ho:=match((cD i).bind λk=>ws[k.toNat]?).bind λt=>(uv t).bind λB=>(B[0]?.bind cD).bind λa=>(B[1]?.bind cD).map λb=>(a,b)with
 |some q=>oX V q.1 q.2
 |none=>.none
def ajL(V:Hv)(ws:Hn Ho)(t:Ho):Ho×Ho:=match uv t with
 |some [k,i]=>(k,tS V ws i)
 |_=>(.none,.none)
def w9(V:Hv)(fs:Hn Ho):Ho:=match(fs[4]?.bind uv),(fs[5]?.bind uv)with
 |some hs,hb ws=>.dict (hs.map (ajL V ws))
 |_,_=>.none
def agW(V:Hv)(fs:Hn Ho):Hn (HP×Ho):=(["told","opened","given","standing"]:Hn HP).zip fs++[(("held":HP),w9 V fs)]
def iy(C V:Hv)(y:HP)(x:Ho):Hp Ho:=match gn C V x with
 |some q=>(agW V q.2).lookup y
 |none=>(Cg V x).bind λq=>([("amount",.int q.1),("opening",.int q.2)]:Hn (HP×Ho)).lookup y
theorem ij(C V p:Hv)(f:js)(y:HP):iy C V y (aE C V p f)=(agW V (vA f)).lookup y:=by unfold iy;rw[d0]
theorem adf(C V p:Hv)(f:js):iy C V "told" (aE C V p f)=hb f.told:=(ij ..).trans (by kernel_rfl)
theorem aak(C V p:Hv)(f:js):iy C V "opened" (aE C V p f)=hb (.int f.opened):=(ij ..).trans (by kernel_rfl)
theorem aco(C V p:Hv)(f:js):iy C V "given" (aE C V p f)=hb f.given:=(ij ..).trans (by kernel_rfl)
theorem aaa(C V p:Hv)(f:js):iy C V "standing" (aE C V p f)=hb f.bD:=(ij ..).trans (by kernel_rfl)
theorem acJ(C V p:Hv)(f:js):iy C V "held" (aE C V p f)=hb (w9 V (vA f)):=(ij ..).trans (by kernel_rfl)
theorem abi(C V:Hv)(x y:HI)(z:HP):iy C V z (oX V x y)=([("amount",.int x),("opening",.int y)]:Hn (HP×Ho)).lookup z:=by unfold iy;(refine(show gn C V (oX V x y)=Hu from rfl).symm▸?_;rw[afG]);rfl
theorem abo(C V:Hv)(x y:HI):iy C V "amount" (oX V x y)=hb (.int x):=(abi ..).trans (by kernel_rfl)
theorem aaF(C V:Hv)(x y:HI):iy C V "opening" (oX V x y)=hb (.int y):=(abi ..).trans (by kernel_rfl)
def valOf(V:Hv)(ws:Hn (HI×HI))(i:HG):Ho:=match ws[i]?with
 |some q=>oX V q.1 q.2
 |none=>.none
def sU(V:Hv)(f:js):Ho:=dictOf (f.held.map λq=>(q.1,valOf V f.aC q.2))
theorem ab9(V:Hv)(f:js):w9 V (vA f)=sU V f:=by
 show NS ((f.held.map λq=>Mh [.str q.1,.int q.2]).map (ajL V (f.aC.map λq=>.tuple [.int q.1,.int q.2])))=_;unfold sU dictOf;refine Ii.symm▸Ii.symm▸?_;congr 1;refine J0 λq _=>?_;show(JF q.1,tS V _ (.int q.2))=(JF q.1,valOf V f.aC q.2);congr 1;dsimp only[tS,valOf];obtain e:((cD (.int (q.2:HI))).bind λk=>(f.aC.map λq=>Mh [.int q.1,.int q.2])[k.toNat]?)=(f.aC[q.2]?).map λq=>Mh [.int q.1,.int q.2]:=by show(f.aC.map λq=>Mh [.int q.1,.int q.2])[q.2]? =_;exact Iz
 refine e.symm▸?_;cases f.aC[q.2]? <;>rfl
section
variable(Y w Hz)
inductive am9(h:Iv)(f:js)(m:HP->Hp HE):Hn HE->Hn Hv->Prop
 |mk (v1 v2 v3:HE) (b1 b2 b3:Hn Hv) (g1:m "told"=hb v1) (g2:m "given"=hb v2) (g3:m "standing"=hb v3) (r1:RD Y w Hz h v1 f.told b1) (r2:RD Y w Hz h v2 f.given b2) (r3:RD Y w Hz h v3 f.bD b3):am9 h f m [v1,v2,v3] (b1++(b2++b3))
end
variable{f:js}{vs:Hn HE}{bs:Hn Hv}
theorem bj.get{a dx C Va p hd:Hv}{aJ:Hn (Hv×Hv)}{ks:Hn (HP×HE)}(i:bj Y w h a dx C Va p hd aJ f vs m ks)(r:bH Y w Hz h vs [f.told,f.given,f.bD] bs):
  am9 Y w Hz h f m vs bs:=by
 obtain e:=i.three;clear i ks aJ hd p Va C dx a;have H:=r.yx;clear r;induction H with|mk v1 vs b1 c1 r1 r=>?_
 have H:=r.yx;clear r;induction H with|mk v2 vs b2 c2 r2 r=>?_
 have H:=r.yx;clear r;induction H with|mk v3 vs b3 c3 r3 r=>?_
 refine ew r.nil_inv λo1 o2=>?_;subst o1;subst o2;rw[IA];exact ew (IP e) λe1 e=>ew (IP e) λe2 e=>⟨_,_,_,_,_,_,e1,e2,(IP e).1,r1,r2,r3⟩
variable{Va p:Hv}
theorem aaM(c:wf (aE C Va p f)=Hq):wf f.told=Hq/\wf f.given=Hq/\wf f.bD=Hq:=by have q:=wT (wD c);exact l6 (AG q) (AG (wg (wg q))) (AG (wg (wg (wg q))))
variable{aJ:Hn (Hv×Hv)}
theorem bH.held{V:Hv}{ws:Hn (HI×HI)}(hl:aJ.length=ws.length)(each:∀(i:HG)(b db:Hv)(x y:HI),aJ[i]? =hb (b,db)->ws[i]? =hb (x,y)->ik h V b db x y)(hs:Hn (HP×HG)):(∀q∈hs,q.2<aJ.length)->∃bs,bH Y w Hz h (hs.map λq=>.ref (aJ.getD q.2 (0,0)).1) (hs.map λq=>valOf V ws q.2) bs/\∀c∈bs,c∈aJ.flatMap λq=>[q.1,q.2]:=by
 induction hs with
 |nil=>intro _;exact⟨[],.nil,λ_ q=>nomatch q⟩
 |cons q hs bY=>
  intro U;refine aQ (bY λq hq=>U q (.tail _ hq)) λbs r sub=>?_;have h1:=U q (.head _);obtain e1:=HQ h1;obtain e2:=HQ _;obtain e3:aJ.getD q.2 (0,0)=aJ[q.2]:=by(refine JX.trans ?_;rw[e1]);rfl
  obtain e4:valOf V ws q.2=oX V (ws[q.2]'(hl▸h1)).1 (ws[q.2]'(hl▸h1)).2:=by unfold valOf;exact e2▸rfl
  refine i12 ([aJ[q.2].1,aJ[q.2].2]++bs) ?_ (λc hc=>(HD.mp hc).elim (λhc=>IS.mpr ⟨_,KM h1,hc⟩) (sub c));refine HS.symm▸HS.symm▸e3.symm▸e4.symm▸?_;exact .cons (.val (each q.2 aJ[q.2].1 aJ[q.2].2 _ _ e1 e2)) r
theorem bj.akH{C p hd:Hv}{vs:Hn HE}{m:HP->Hp HE}{ks:Hn (HP×HE)}(i:bj Y w h a dx C Va p hd aJ f vs m ks):
  ∃bs,RD Y w Hz h (.ref hd) (sU Va f) (hd::bs)/\∀c∈hd::bs,c∈bP a dx hd aJ:=by
 refine aQ (bH.held (Hz:=Hz) (Y:=Y) (w:=w) i.len i.each f.held i.bound) λbs r sub=>i12 bs (.dict (aW:=ks) (B:=f.held.map λq=>(q.1,valOf Va f.aC q.2)) i.dict i.mods (by exact Ii.symm▸i.keys) (by(refine i.vals.symm▸?_;refine Ii.symm▸?_);exact r)) (λc hc=>?_);clear i ks m vs p C r;rcases Hw.mp hc with rfl|hc
 ·exact .tail _ (.tail _ (.head _))
 ·exact .tail _ (.tail _ (.tail _ (sub c hc)))
theorem ae5(V:Hv)(ws:Hn (HI×HI))(i:HG):wf (valOf V ws i)=Hq:=by
 unfold valOf;cases ws[i]?with
 |none=>rfl
 |some q=>
  obtain h1:1<=sizeLine:=by decide
  obtain h2:2<=sizeLine:=by decide
  rfl
theorem ahN(c:wf (aE C Va p f)=Hq):wf (sU Va f)=Hq:=by refine ew (dk.mp (AG (wg (wg (wg (wg (wT (wD c)))))))) λhl hk=>?_;rw[Hr]at hl;rw[sU,oQ];refine⟨by rw[Hr];exact hl,λq hq=>?_⟩;refine aQ (HX.mp hq) λx hx o1=>?_;subst o1;refine⟨?_,ae5 _ _ _⟩;have:=(cN _).mp hk _ (HX.mpr ⟨x,hx,rfl⟩);rw[dk]at this;exact(cN _).mp this.2 _ (.head _)
section
variable(Y w Hz)
inductive wO(h:Iv)(C Va:Hv)(y:HP)(z:Ho)(as:Hn Hv):HE->Prop
 |mk (a dx D:Hv) (m:HP->Hp HE) (v:HE) (bs:Hn Hv) (h1:D=C/\y∈aG∨D=Va/\y∈valNames) (h2:oM h a dx D m) (h3:m y=hb v) (h4:RD Y w Hz h v z bs) (h5:∀c∈bs,c∈as) (h6:wf z=Hq):wO h C Va y z as (.ref a)
end
variable{z:Ho}
set_option tactic.hygienic true in
theorem RD.attr{x:Ho}{as:Hn Hv}(r:RD Y w Hz h u x as)(e:iy C Va y x=hb z)(c:wf x=Hq):wO Y w Hz h C Va y z as u:=by
 unfold iy at e;split at e
 ·rename_i q hq;induction r.vK hq with|mk a dx hd p aJ f vs m ks bs i rs=>?_
  clear as x;induction i.get rs with|mk v1 v2 v3 b1 b2 b3 g1 g2 g3 r1 r2 r3=>?_
  refine dz i.opened λt ht=>xg (aaM c) λc1 c2 c3=>?_;obtain R:(y,z)∈([("told",f.told),("opened",.int f.opened),("given",f.given),("standing",f.bD),("held",w9 Va (vA f))]:Hn (HP×Ho)):=cH e;rw[ab9]at R;refine aQ (i.akH (Hz:=Hz)) λbs r4 sub=>?_;exact fm (P:=λq:HP×Ho=>wO Y w Hz h C Va q.1 q.2 (bP a dx hd aJ++(b1++(b2++b3))) (.ref a)) ⟨a,dx,C,m,v1,b1,.inl ⟨rfl,show("told":HP)∈aG by decide⟩,i.obj,g1,r1,λc hc=>Hx _ (HF _ hc),c1⟩
   (fm ⟨a,dx,C,m,_,[],.inl ⟨rfl,show("opened":HP)∈aG by decide⟩,i.obj,ht,.int _ _,λc hc=>(nomatch hc),rfl⟩
   (fm ⟨a,dx,C,m,v2,b2,.inl ⟨rfl,show("given":HP)∈aG by decide⟩,i.obj,g2,r2,λc hc=>Hx _ (Hx _ (HF _ hc)),c2⟩
   (fm ⟨a,dx,C,m,v3,b3,.inl ⟨rfl,show("standing":HP)∈aG by decide⟩,i.obj,g3,r3,λc hc=>Hx _ (Hx _ (Hx _ hc)),c3⟩
   (fm ⟨a,dx,C,m,_,_,.inl ⟨rfl,show("held":HP)∈aG by decide⟩,i.obj,i.held,r4,λc hc=>HF _ (sub c hc),ahN c⟩ wX)))) _ R
 ·obtain⟨q,hq,e⟩:=ao e;obtain⟨b,db,rfl,rfl,m,t,u,i,g1,g2,_⟩:=r.val_inv hq;exact fm (P:=λq:HP×Ho=>wO Y w Hz h C Va q.1 q.2 [b,db] (.ref b)) ⟨b,db,Va,m,_,[],.inr ⟨rfl,show("amount":HP)∈valNames by decide⟩,i,g1,.int _ _,λc hc=>(nomatch hc),rfl⟩ (fm ⟨b,db,Va,m,_,[],.inr ⟨rfl,show("opening":HP)∈valNames by decide⟩,i,g2,.int _ _,λc hc=>(nomatch hc),rfl⟩ wX) _ (cH e)
abbrev lL(e:HR)(y:HP)(pos:J3):Prop:=∀K:Ke,Jf (.Attribute e y pos) K=(do
   let o<-Jf e K
   Pu pos.atName
   let r<-Oa [o] (getAttr o y Hq)
   letTemporaryGo e o r
   pure r)
variable{sc:IH}{mC mV:HP->Hp HE}
theorem Ev.attr{e:HR}{pos:J3}{m:ar->Hp V}(KC:j7 aG U C mC)(KV:j7 valNames U Va mV)(h:Ev Y w U n sc e m)(he:lL e y pos):
  Ev Y w U n sc (.Attribute e y pos) (λL=>(m L).bind λv=>(iy C Va y v.x).map λx=>V.fix x v.fl):=by
 intro A Hz K ae X C' L O s v Q E hs hA I;refine ak λv0 hv R hQ=>?_;induction dI R with|mk z hz=>?_
 refine PyProof.Rows.Attribute_any_ (h hs hA I hv λu ay ah aL=>?_) (he K);obtain⟨as,rd,c,fl⟩:=aL;clear he h pos R hv hA hs v;induction rd.attr hz c with|mk a dx D mm v' bs hD i hg r' e9 c'=>?_
 obtain g:=(I.grow ah).base.grow;obtain fin:∀s',I8 ay s'->s'.heap=ay.heap->Q v' s':=λs' k e=>hQ _ _ (ab ah k) (dK.fixed (by exact e.symm▸r') c' (fl.mono e9));clear m c' e9 hz fl c rd as e ah u hQ v0 I s O C' X ae K L;rcases hD with⟨rfl,m9⟩|⟨rfl,m9⟩
 ·exact ia KC g i m9 hg r'.handed fin
 ·exact ia KV g i m9 hg r'.handed fin
def qW(Y:IB)(w:Ja)(U:Iv)(p:Hv)(ps:Hn Ho):Prop:=∃vs k,U.get? p=hb (cq vs k)/\bH Y w [] U vs ps []/\wf (.list ps)=Hq
def nS(C Va p:Hv)(ps:Hn Ho)(x:Ho):Hp V:=(gn C Va x).bind λq=>if q.1=(p:HI)then hb ⟨.list ps,.s⟩else Hu
theorem jN(C Va p:Hv)(ps:Hn Ho)(f:js):nS C Va p ps (aE C Va p f)=hb ⟨.list ps,.s⟩:=by unfold nS;(rw[d0,HT];exact(H5 rfl))
theorem Ev.kX{e:HR}{pos:J3}{m:ar->Hp V}(KC:j7 aG U C mC)(P:qW Y w U p ps)(h:Ev Y w U n sc e m)(he:lL e (HA "plots") pos):
  Ev Y w U n sc (.Attribute e (HA "plots") pos) (λL=>(m L).bind λv=>nS C Va p ps v.x):=by
 intro A Hz K ae X C' L O s v Q E hs hA I;refine ak λv0 hv=>ak λq hk=>jl λhp R hQ=>?_
 ·have e:=si R;subst e;clear R;refine PyProof.Rows.Attribute_any_ (h hs hA I hv λu ay ah aL=>?_) (he K);obtain⟨as,rd,c,fl⟩:=aL;have gU:=I.grow ah;have g:=gU.base.grow;clear he h pos e fl hv I hA hs;obtain⟨a,dx,hd,p',aJ,f,vs,m',ks,bs,rfl,hx,rfl,rfl,i,rs⟩:=rd.jW hk;clear m rs hx rd hk;obtain rfl:=J7 hp;refine j4 P λus k e1 e2 e3=>ia KC g i.obj (by decide) i.kX rfl λs' k' e'=>hQ _ _ (ab ah k') ⟨[p'],?_,e3,?_⟩
  ·exact e'.symm▸.list (g _ _ e1) (((akc λz hz=>(gU.base.hide z hz).1).2 e2).grow g)
  ·intro c hc hw;rw[HB.mp hc]at hw;have:=(gU.bZ _ hw).1;exact no (this.symm.trans e1)
variable{K:Ke}{o e:HR}{rest:Hn HR}{name:HP}{pos:J3}{Q:HE->HM->Prop}
theorem aaW{fo:PR}{fd:Ri}{r:Hp HE}(KC:j7 nl U C mC)(hf:mC name=hb (.ref jo))(vq:U.get? jo=hb fo)(wy:fo.cls=.type "function")(BV:fo.data=.func fd)
  (hB:Kw (.type "object") name=pure r)(d3:J2 o name K (Jf o K)=Jf o K)
  (pn:((J4 pos (Ie (e::rest) K)).all (λx=> !x.1)&&(Ny pos (Mp [] K)).all (λx=>x.1.isSome)&&decide ((e::rest).length+([]:Hn Ks).length+(if([]:Hn Ks).isEmpty then 0 else 1)<30))=Hq)
  (iI:(apos.endLine==pos.line)=Hq)(he:Ie (e::rest) K=(HH,Jf e K)::Ie rest K)
  (h:wpAny (Iq Y w) A (Jf o K) (λov ay=>∃a dx m,ov=.ref a/\oM ay.heap a dx C m/\m name=Hu/\bA U ay.heap/\
   wpAny (Iq Y w) A (QE (J4 pos (Ie (e::rest) K))) (λvs aN=>bA U aN.heap/\wpAny (Iq Y w) A (call (.ref jo) (.ref a::vs)) Q E aN) E ay) E s):
  wpAny (Iq Y w) A (Jf (.Call (.Attribute o name apos) (e::rest) [] pos) K) Q E s:=by
 rw[arm_eval_Call,d3];refine Ht (Kf h (λov ay eY=>?_) λ_ _ e=>e);refine e35 eY λa dx m o1 i R g hc=>?_;subst o1;refine Ht (M4 ?_);have ao3:methodCallForm ((e::rest).length+([]:Hn Ks).length) (J4 pos (Ie (e::rest) K)) (Ny pos (Mp [] K))=Hq:=pn;obtain aqj:methodCallPos Hq o K apos pos=pure pos:=by unfold methodCallPos;simp[iI]
 unfold methodCall;refine ao3.symm▸?_;obtain⟨hh,gg,d,t,os⟩:=ay;refine dz KC.here λN X=>?_;obtain⟨nm,q,bs,sn,sub,col,dd,k0,k1,k2,k3,k5,hC⟩:=(X.keeps g).obj;exact Ht (KR (method_of hC (X.keeps g).ns KC.ga KC.gh hf (g _ _ vq) wy hB i.inst R (Ht (P5 aqj (PyProof.Rows.callWith_meth (h₀:=U) BV vq hc he)))))
structure uP(Y:IB)(w:Ja)(U:Iv)(n:HG)(C:Hv)(y:HP)(m:Hn Ho->Hp Ho):Prop where
 there:∃mC f fo fd r,j7 aG U C mC/\mC y=hb (.ref f)/\U.get? f=hb fo/\fo.cls=.type "function"/\fo.data=.func fd/\Kw (.type "object") y=pure r/\Fn Y w U n f m
 own:y∉aG
def gX(C Va:Hv)(x:Ho):Ig:=(gn C Va x).isSome
theorem dW(C Va p:Hv)(f:js):gX C Va (aE C Va p f)=Hq:=by unfold gX;rw[d0];rfl
variable{ms:ar->Hp (Hn V)}
theorem Ev.apK{o:HR}{rest:Hn HR}{ap pos:J3}{mo:ar->Hp V}{m:Hn Ho->Hp Ho}(M:uP Y w U k C y m)(ho:Ev Y w U n sc o mo)(yG:rL Y w U n sc (e::rest) ms)(hk:k<=n)
  (d3:∀K:Ke,J2 o y K (Jf o K)=Jf o K)
  (pn:∀K:Ke,((J4 pos (Ie (e::rest) K)).all (λx=> !x.1)&&(Ny pos (Mp [] K)).all (λx=>x.1.isSome)&&decide ((e::rest).length+([]:Hn Ks).length+(if([]:Hn Ks).isEmpty then 0 else 1)<30))=Hq)
  (iI:(ap.endLine==pos.line)=Hq)(he:∀K:Ke,Ie (e::rest) K=(HH,Jf e K)::Ie rest K):
  Ev Y w U n sc (.Call (.Attribute o y ap) (e::rest) [] pos) (λL=>(mo L).bind λv=>(ms L).bind λvs=>if gX C Va v.x=Hq then(m (v.x::vs.map (·.x))).map λz=>⟨z,.d⟩else Hu):=by
 intro A Hz K ae X C' L O s v Q E hs hA I;refine ak λv0 hv=>ak λvs ni R hQ=>?_;split at R
 ·rename_i qu;induction dI R with|mk z hz=>?_
  obtain⟨⟨mC,f,fo,fd,r,KC,h1,h2,h3,h4,h5,h6⟩,uZ⟩:=M;refine aaW (U:=U) KC h1 h2 h3 h4 h5 (d3 K) (pn K) iI (he K) (ho hs hA I hv λu ay ah aL=>?_);obtain⟨as,rd,c,fl⟩:=id aL;obtain gU:=I.grow ah;obtain⟨pf,EL⟩:=IV.mp qu;clear he iI pn d3 ho ap o fl c h5 h4 h3 h2 h1 KC r fd fo mC qu hv I;obtain⟨a,dx,hd,p',aJ,f',us,m',ks,bs,rfl,hx,_,rfl,i,rs⟩:=rd.jW EL;refine i35 a dx m' rfl i.obj ?_ gU.base.grow (yG hs hA gU ni λEA aN aI cY=>?_)
  ·clear yG mo pos rest rs hx EL rd ni hs E;cases e:m' y with
   |none=>rfl
   |some v=>exact IG (i.names _ (by refine e.symm▸?_;nofun)) uZ
  ·exact gQ ((gU.grow aI).base.grow)<|cg.fn (h6.mono hk) hA (gU.grow aI) (.cons (aL.grow (ag aI)) cY) (show((m ((v0::vs).map (·.x))).map λy=>(⟨y,.d⟩:V))=hb ⟨z,.d⟩ by(refine HS.symm▸?_;refine hz.symm▸?_);rfl) λu s' k' r'=>hQ u s' (ab ah (ab aI k')) r'
 ·exact no R
noncomputable def fld(y:HP):Hp (Fin 3):=if y="told"then hb 0 else if y="given"then hb 1 else if y="standing"then hb 2 else Hu
noncomputable def x9:Fin 3->HG
 |0=>0
 |1=>2
 |2=>3
noncomputable def js.put(f:js):Fin 3->Ho->js
 |0,z=>{f with told:=z}
 |1,z=>{f with given:=z}
 |2,z=>{f with bD:=z}
noncomputable abbrev js.three(f:js):Hn Ho:=[f.told,f.given,f.bD]
noncomputable def vH(j:HG)(z:Ho):Ho->Ho
 |.dict [(k,.tuple fs)]=>.dict [(k,.tuple (fs.set j z))]
 |x=>x
theorem AJ{P:Fin 3->Prop}(a:P 0)(b:P 1)(c:P 2)(i:Fin 3):P i:=by
 rcases i with⟨_|_|_|i,hi⟩
 ·exact a
 ·exact b
 ·exact c
 ·exact IG hi (JH.mpr (Jl 3 i))
theorem acD(C Va p:Hv)(f:js)(i:Fin 3)(z:Ho):vH (x9 i) z (aE C Va p f)=aE C Va p (f.put i z):=AJ (P:=λi=>vH (x9 i) z (aE C Va p f)=aE C Va p (f.put i z)) rfl rfl rfl i
def tD(C Va:Hv)(y:HP)(x:Ho):Hp (Ho×(Ho->Ho)):=
 (fld y).bind λi=>(gn C Va x).bind λr=>(r.2[x9 i]?).map λz=>(z,λz'=>vH (x9 i) z' x)
theorem j5:wf (aE C Va p f)=Hq↔wf f.told=Hq/\wf f.given=Hq/\wf f.bD=Hq/\wf (.tuple (f.held.map λq=>.tuple [.str q.1,.int q.2]))=Hq/\wf (.tuple (f.aC.map λq=>.tuple [.int q.1,.int q.2]))=Hq:=by refine⟨λc=>?_,λc=>CP c λa b d e f=>wK rfl (wL rfl (wS a (wS rfl (wS b (wS d (wS e (wS f rfl)))))))⟩;have q:=wT (wD c);have q':=wg (wg q);have q'':=wg (wg q');exact Er (AG q) (AG q') (AG (wg q')) (AG q'') (AG (wg q''))
theorem al8(c:wf (aE C Va p f)=Hq)(i:Fin 3)(hz:wf z=Hq):wf (aE C Va p (f.put i z))=Hq:=by
 rw[j5]at c⊢;rcases i with⟨_|_|_|i,hi⟩
 ·exact gQ hz c.2
 ·exact l6 c.1 hz c.2.2
 ·exact yW c.1 c.2.1 hz c.2.2.2
 ·exact IG ‹_+1+1+1<3› (JH.mpr (Jl 3 _))
variable{ks:Hn (HP×HE)}
theorem bj.put{hd:Hv}(i:bj Y w h a dx C Va p hd aJ f vs m ks)(j:Fin 3)(z:Ho):
  bj Y w h a dx C Va p hd aJ (f.put j z) vs m ks:=by
 rcases j with⟨_|_|_|j,hj⟩
 ·exact⟨i.obj,i.held,i.opened,i.kX,i.three,i.names,i.dict,i.mods,i.keys,i.vals,i.bound,i.len,i.each⟩
 ·exact⟨i.obj,i.held,i.opened,i.kX,i.three,i.names,i.dict,i.mods,i.keys,i.vals,i.bound,i.len,i.each⟩
 ·exact⟨i.obj,i.held,i.opened,i.kX,i.three,i.names,i.dict,i.mods,i.keys,i.vals,i.bound,i.len,i.each⟩
 ·exact IG ‹_+1+1+1<3› (JH.mpr (Jl 3 _))
variable{i:Fin 3}
theorem ae2(h:fld y=hb i):y∈aG/\∀m:HP->Hp HE,[m "told",m "given",m "standing"][i.val]? =hb (m y):=by
 unfold fld at h;split at h
 ·rename_i hy;subst hy;have e:=si h;subst e;clear h;exact⟨by decide,λ_=>rfl⟩
 split at h
 ·rename_i hy;subst hy;have e:=si h;subst e;clear h;exact⟨by decide,λ_=>rfl⟩
 split at h
 ·rename_i hy;subst hy;have e:=si h;subst e;clear h;exact⟨by decide,λ_=>rfl⟩
 ·exact no h
section
variable(Y w Hz)
inductive ajM(h:Iv)(u:HE)(d:Ho)(as:Hn Hv)(C:Hv)(y:HP)(z:Ho)(up g:Ho->Ho):HE->Prop
 |mk (a dx:Hv) (mm:HP->Hp HE) (v':HE) (b':Hn Hv) (h1:oM h a dx C mm) (h2:mm y=hb v') (h3:y∈aG) (h4:jV Y w Hz h u d as v' z b' (λt=>up (g t))):ajM h u d as C y z up g (.ref a)
end
theorem ap4(f:js)(x:Ho):∀i:Fin 3,f.three.set i.val x=(f.put i x).three:=AJ rfl rfl rfl
theorem wf3(c:wf f.told=Hq/\wf f.given=Hq/\wf f.bD=Hq):f.three[i.val]? =hb z->wf z=Hq:=AJ (P:=λi=>f.three[i.val]? =hb z->wf z=Hq) (λe=>si e▸c.1) (λe=>si e▸c.2.1) (λe=>si e▸c.2.2) i
theorem ap2(f:js):∀i:Fin 3,(vA f)[x9 i]? =f.three[i.val]? :=AJ rfl rfl rfl
theorem aoC{g:Ho->Ho}(h:(vA f)[x9 i]? =hb z')(e:(z',λz=>vH (x9 i) z (aE C Va p f))=(z,g)):f.three[i.val]? =hb z/\g=λz=>aE C Va p (f.put i z):=by cases e;exact⟨(ap2 f i).symm.trans h,funext λz'=>acD C Va p f i z'⟩
variable{d:Ho}
theorem jV.attr{v:HE}{x:Ho}{b:Hn Hv}{up g:Ho->Ho}(H:jV Y w Hz h u d as v x b up)(e:tD C Va y x=hb (z,g)):
  ajM Y w Hz h u d as C y z up g v:=by
 obtain⟨i,hi,e⟩:=ao e;obtain⟨r,hr,e⟩:=ao e;induction H.node.vK hr with|mk a dx hd p aJ f vs m ks bs I rs=>?_
 ··refine ew (ae2 hi) λm9 C1=>aQ (H6.mp e) λz' z9 e=>?_;obtain⟨e3,eg⟩:=aoC (C:=C) (Va:=Va) (p:=p) z9 e;clear b x v hr r hi z9;induction rs.hole e3 with|mk v' l' b' m' g1 g3 g4=>?_
   refine my H.split λl mr e' ff=>?_;obtain k9:m y=hb v':=by obtain q:=C1 m;rw[I.three,Iz,g1]at q;exact(H4 q).symm
   refine⟨a,dx,m,v',b',I.obj,k9,m9,g3,(wf3 (aaM H.ya) e3),λx' vm=>?_,λ_ _=>H.top _ (by refine eg.symm▸?_;rfl),H.own,l++(bP a dx hd aJ++l'),m'++mr,?_,λh' x' B1 k r'=>?_⟩
   ·exact eg.symm▸H.Eg _ (al8 H.ya i vm)
   ·refine e'.trans ?_;simp
   ·have qu:=(I.kept λc hc o eo=>k c o eo (.inl (HF _ (Hx _ (HF _ (‹_›)))))).put i x';obtain zN:bH Y w Hz h' vs (f.put i x').three (l'++(B1++m')):=by
     have q:=g4 h' x' B1 (k.mono λc hc=>by
      simp only[HD]at hc⊢;rcases hc with hc|hc
      ·exact .inl (.inr (.inr hc))
      ·exact .inr (.inl hc)) r'
     exact(ap4 f x' i)▸q
    have:=ff h' _ _ (k.mono λc hc=>by
     simp only[HD]at hc⊢;rcases hc with hc|hc
     ·exact .inl (.inl hc)
     ·exact .inr (.inr hc)) (RD.store qu zN)
    refine eg.symm▸?_;simpa using this
theorem Pa.attr{m:ar->Ho->Hp (Ho×(Ho->Ho))}(KC:j7 aG U C mC)(h:Pa Y w U n sc gc e m)(he:lL e y pos):
  Pa Y w U n sc gc (.Attribute e y pos) (λL d=>(m L d).bind λp=>(tD C Va y p.1).map λq=>(q.1,λz=>p.2 (q.2 z))):=by
 intro A Hz K ae X C' L O s ro d z up Q E hs hA I hx;refine ak λz0 hz R hQ=>?_;obtain⟨z0,apo⟩:=z0;refine aQ (H6.mp R) λo1 hp R=>?_;obtain⟨z',g⟩:=o1;cases R;refine PyProof.Rows.Attribute_any_ (h hs hA I hx hz λad as v b ay ah hO nd r H=>?_) (he K);induction H.attr hp with|mk a dx mm v' b' i hv m9 H'=>?_
 refine ia KC (I.grow ah).base.grow i m9 hv H'.node.handed λs' k e'=>?_;obtain g':=ag k;exact hQ ad as v' b' s' (ab ah k) hO nd (r.grow g') (H'.grow g')
theorem abX(C Va p:Hv)(f:js)(a:HI):vH 1 (.int a) (aE C Va p f)=aE C Va p {f with opened:=a}:=rfl
theorem aeB(c:wf (aE C Va p f)=Hq)(a:HI):wf (aE C Va p {f with opened:=a})=Hq:=by rw[j5]at c⊢;exact c
variable{h':Iv}
theorem bj.aeC{hd:Hv}(i:bj Y w h a dx C Va p hd aJ f vs m ks){x:HI}
  (hi:oM h' a dx C (λz=>if z=HA "opened"then hb (.int x t)else m z))(k:∀c∈bP a dx hd aJ,c≠a->c≠dx->∀o,h.get? c=hb o->h'.get? c=hb o)(nd:(bP a dx hd aJ).Nodup):
  bj Y w h' a dx C Va p hd aJ {f with opened:=x} vs (λz=>if z=HA "opened"then hb (.int x t)else m z) ks:=by
 have ne:∀c∈hd::aJ.flatMap (λq=>[q.1,q.2]),c≠a/\c≠dx:=λc hc=>by
  simp only[bP,HZ,Hw,LR]at nd;simp only[Hw]at hc;refine gQ ?_ ?_
  ·rintro rfl;rcases hc with rfl|hc
   ·exact nd.1.2.1 rfl
   ·exact nd.1.2.2 hc
  ·rintro rfl;rcases hc with rfl|hc
   ·exact nd.2.1.1 rfl
   ·exact nd.2.1.2 hc
 have kk:∀c∈hd::aJ.flatMap (λq=>[q.1,q.2]),∀o,h.get? c=hb o->h'.get? c=hb o:=λc hc=>k c (by simp only[bP,Hw]at hc⊢;exact .inr (.inr hc)) (ne c hc).1 (ne c hc).2;refine⟨hi,?_,⟨t,H5 rfl⟩,?_,?_,λz hz=>?_,?_,i.mods,i.keys,i.vals,i.bound,i.len,λj b db y z e1 e2=>?_⟩
 ·exact iF (by decide) i.held
 ·exact iF (by decide) i.kX
 ·rw[Ir (by decide),Ir (by decide),Ir (by decide)];exact i.three
 ·by_cases e:z=HA "opened"
  ·refine e.symm▸?_;decide
  ·rw[Ir e]at hz;exact i.names z hz
 ·exact uB i.dict λo es ep ho r=>Aw o es ep (kk hd (.head _) o ho) r
 ·exact(i.each j b db y z e1 e2).kept λc hc=>kk c (by refine I5 _ (IS.mpr ⟨_,Il e1,?_⟩);simpa using hc)
def kC(C Va:Hv)(x:HP)(m:ar->Hp V):ar->Hp Out:=λL=>(bL L x).bind λd=>(m L).bind λv=>(gn C Va d.2).bind λq=>(q.2[1]?).bind λz=>(cD z).bind λa=>(cD v.x).bind λb=>hb (.next (L.set x (.own (.tree d.1 (vH 1 (.int (a+b)) d.2)))))
variable{x:HP}{m:ar->Hp V}{L:ar}{ro:Hp Hv}{fl:Fl}
theorem ab7{b:HI}(h1:bL L x=hb (ro,aE C Va p f))(h2:m L=hb ⟨.int b,fl⟩):
  kC C Va x m L=hb (.next (L.set x (.own (.tree ro (aE C Va p {f with opened:=f.opened+b}))))):=by
 unfold kC;refine bI h1 ?_;rw[h2,HT,d0,HT];rfl
theorem S1.opened{np tp pos:J3}{m:ar->Hp V}(KC:j7 aG U C mC)(h:Ev Y w U n sc e m)(hv:aA sc x=Hq):
  S1 Y w U n sc (.AugAssign (.Attribute (.Name x np) (HA "opened") tp) .Add e pos) (kC C Va x m):=by
 intro A Hz K ae X C' L O s r Q E hs hA I;refine ak λz0 hd=>ak λv k9=>ak λq hq=>ak λz hz=>ak λa ha=>ak λb aO R hQ=>?_;obtain⟨ro,d⟩:=z0
 ·cases R;obtain rfl:=bJ ha;obtain hx:=bU hd;dsimp only at hx hq;refine OC (I.oy (by exact hs.symm▸hv) hx λad as hO rt nd ct cn=>?_);clear hv pos tp np ha hd;obtain⟨a',dx,uj,p,aJ,f,vs,mm,ks,bs,e1,rfl,rfl,rfl,i,rs⟩:=rt.jW hq
  ·clear rt hq;cases e1;refine dz i.opened λt ht=>ia KC I.base.grow i.obj (by decide) ht rfl λay ah aqp=>h hs hA (I.grow ah).toInF k9 λu aN aI cY=>?_;obtain⟨as2,rv,_,_⟩:=cY;clear h aqp ht k9 hA hs;obtain rfl:a=f.opened:=by obtain q:(vA f)[1]? =hb (.int f.opened):=rfl;rw[q]at hz;cases hz;rfl
   rw[bJ aO]at rv;clear m aO hz;induction rv.dS with|mk t2=>?_
   refine PySem.AutoIntOps.iadd_0 ?_;have kk:=ab ah aI;have g:=ag kk;obtain gN:=I.grow kk;obtain ud:=i.kept λc _ o eo=>g c o eo;obtain apk:=rs.grow g;have ndf:(bP ad dx uj aJ).Nodup:=nd.sublist (MH _ _);have t9:U.get? ad=Hu:=(I.bZ ad (cB hO (.head _))).1;clear rv rs i aI u ah ay t I;refine my kk λh2 tk2 o1 o2=>?_;subst o1;refine qU (s:=_) KC gN.base.grow ud.obj (by decide) ud.names (by decide) t9 λh' tk i' keep=>?_;have out:∀c∈bs,c≠ad/\c≠dx:=λc hc=>by
    rw[H8]at nd;exact⟨λq=>nd.2.2 ad (.head _) c hc q.symm,λq=>nd.2.2 dx (.tail _ (.head _)) c hc q.symm⟩
   have zT:∀c,c=ad∨c=dx->∃o,h2.get? c=hb o/\¬j0 o:=λc hc=>ud.obj.alive c (by rcases hc with rfl|rfl<;>simp);have rs3:bH Y w Hz h' vs [f.told,f.given,f.bD] bs:=cL.2 apk λc o eo q=>by
    refine keep c o ?_ ?_ eo
    ·rintro rfl;rcases q with q|q
     ·exact(out c q).1 rfl
     ·refine aQ (zT c (.inl rfl)) λo' wu nt=>?_;have G8:h2.get? c=hb o:=eo;rw[G8]at wu;have e:=si wu;subst e;clear wu;exact nt q
    ·rintro rfl;rcases q with q|q
     ·exact(out c q).2 rfl
     ·refine aQ (zT c (.inr rfl)) λo' wu nt=>?_;have G8:h2.get? c=hb o:=eo;rw[G8]at wu;have e:=si wu;subst e;clear wu;exact nt q
   have EX:RD Y w Hz h' (.ref ad) (aE C Va p {f with opened:=f.opened+b}) (bP ad dx uj aJ++bs):=.store (ud.aeC i' (λc _ n1 n2 o eo=>keep c o n1 n2 eo) ndf) rs3;have al:=cJ.1 EX;have Ae:∀c o,h2.get? c=hb o->c∉bP ad dx uj aJ++bs->h'.get? c=hb o:=λc o eo q=>keep c o (λe=>q (by rw[e];exact .head _)) (λe=>q (by rw[e];exact .tail _ (.head _))) eo;obtain I':=gN.lY (tk:=tk) hx hO Ae (λc hc=>(al c hc).imp λ_ q=>q.1) (λc hc=>⟨.inl hc,al c hc⟩) nd (aeB ct _) rfl (λa' q=>by
    refine dz (dX q cn) λo1 z1=>?_;obtain z2:bP ad dx uj aJ++bs=ad::(dx::uj::aJ.flatMap (λq=>[q.1,q.2])++bs):=rfl;rw[z2]at z1;rw[<-(IP z1).1];exact EX)
   rw[abX]at hQ;exact hQ _ _ I' ((Step.cM g).trans (iR hO Ae λc hc=>.inl hc))
def FC(Y:IB)(w:Ja)(U:Iv)(n:HG)(f:Hv)(ps:Hn HP)(px:HP)(m:Hn Ho->Hp (Ho×Ho)):Prop:=
 ∀{{A:Jh}} {{Hz:Hn Hv}} {{s:HM}} {{us:Hn HE}} {{B:Hn Ho}} {{pO as:Hn Hv}} {{a:Hv}} {{d z d':Ho}} {{Q:HE->HM->Prop}} {{E:HE->HM->Prop}},
  Room A n->fg Y Hz U s.heap->bH Y w Hz s.heap us B pO->fw B=Hq->ps.length=us.length->pb Y w Hz U s.heap ps px us B a d as->m B=hb (z,d')->
  (∀u eS s',(∃h tk,s'={s with heap:=h,toks:=tk})->(∀b o,s.heap.get? b=hb o->b∉as->s'.heap.get? b=hb o)->(∀b o,s.heap.get? b=hb o->∃o',s'.heap.get? b=hb o')->RD Y w Hz s'.heap (.ref a) d' eS->eS.Nodup->wf d'=Hq->
   (∀c∈eS,c∈as∨s.heap.get? c=Hu)->RD Y w Hz s'.heap u z []->wf z=Hq->Q u s')->wpAny (Iq Y w) A (call (.ref f) us) Q E s
def apR(px:HP)(a:Hv):Out->Hp (Ho×Ho)
 |.next L=>(bL L px).bind λq=>if q.1=hb a then hb (.none,q.2)else Hu
 |.fR z L=>(bL L px).bind λq=>if q.1=hb a then hb (z,q.2)else Hu
 |_=>Hu
def pE(ps:Hn HP)(px:HP)(m:ar->Hp Out)(a:Hv)(B:Hn Ho):Hp (Ho×Ho):=
 if B.length=ps.length then((ps.zip B).lookup px).bind λd=>(m ((nL ps B).set px (.own (.tree (hb a) d)))).bind (apR px a)else Hu
variable{px:HP}
theorem ab3{x y:Ho}(h:((bL L px).bind λq=>if q.1=hb a then hb (z,q.2)else Hu)=hb (x,y)):x=z/\L px=hb (.own (.tree (hb a) y)):=by
 obtain⟨⟨r,d⟩,h1,h2⟩:=ao h;dsimp only at h2;split at h2
 ·rename_i e;clear h;cases h2;have:=bU h1;dsimp only at this;rw[e]at this;exact⟨rfl,this⟩
 ·exact no h2
theorem du.tq{s s':HM}{as:Hn Hv}{K:Ke}{C:Hn Hv}{L:ar}{O:Hn (HP×Hn Hv)}{px:HP}{a:Hv}{d:Ho}(J:du Y w Hz U s as K C L O s')(hx:L px=hb (.own (.tree (hb a) d)))(hv:aA K.scope px=Hq):
  ∃eS,RD Y w Hz s'.heap (.ref a) d eS/\eS.Nodup/\wf d=Hq/\∀c∈eS,c∈as∨s.heap.get? c=Hu:=by
 have fin:∀u,cj Y w Hz s.heap (WW K C O) O s'.heap px u (.own (.tree (hb a) d))->∃eS,RD Y w Hz s'.heap (.ref a) d eS/\eS.Nodup/\wf d=Hq/\∀c∈eS,c∈as∨s.heap.get? c=Hu:=by
  rintro u ⟨sp,e,r⟩;induction r.pz with|mk _ q1 q2 q3 _ q5=>?_
  refine DO sp (by exact(q5 a rfl).symm▸q1) q2 q3 (λc hc=>?_);by_cases q:c∈as
  ·exact .inl q
  ·exact .inr ((J.bZ c (cB e hc)).2 q)
 rcases dZ hv with q|q
 ·exact aQ J.ns λmm yk R=>aQ (R px _ hx q) λu o1 r=>fin u r
 ·exact j4 (J.cell px _ hx q) λc u o1 o2 r=>fin u r
variable{ps:Hn HP}
theorem FC.def{f:Hv}{body:Hn IM}{m:ar->Hp Out}{spec:Hn Ho->Hp (Ho×Ho)}(D:jq U f sc ps body)(D4:px∈ps)(h:St Y w U n sc body m)(R:∀a B r,spec B=hb r->pE ps px m a B=hb r):FC Y w U (n+1) f ps px spec:=by
 intro A Hz s us B pO as a d z d' Q E hA b rd hw a8 T kZ hQ;obtain vp:=R a B _ kZ;obtain⟨fo,fd,args,ho,hd,hp,p6,r9,ng,qb,yq,yh,u5,yf⟩:=D.there;unfold pE at vp;split at vp
 ·rename_i GR;obtain⟨aqa,rG,vp⟩:=ao vp;rw[T.dat]at rG;have e:=si rG;subst e;clear rG;obtain⟨o,jU,hy⟩:=ao vp;obtain xo:args.length=ps.length:=by simpa using HL Km p6
  obtain yg:=xo.trans a8;obtain hJ:(args.map (·.arg)).Nodup:=by exact p6.symm▸D.names
  refine N4 (Le (fd:=fd) (body:=body) (by have:=hA.depth;exact HC (Hs (Ib _ _) (Ib _ _)) this) (b.grow _ _ ho) hd (by exact ng.symm▸D.co) (by exact ng.symm▸D.gen) r9 (yf.keeps b.grow) ?_);refine(iU hp yq yg hJ).symm▸p6.symm▸ng.symm▸yh.symm▸qb.symm▸u5.symm▸?_;refine HV (Kz D.kind (λz hz=>?_) λK he s' x=>?_)
  ·refine(dZ (D.vars _ (Ky hz).1)).imp id λq=>⟨q,gk _ _ _ (.inl q)⟩
  ·have e1:K.scope=sc:=by refine he.symm▸?_;rfl
   have e2:K.globals=I3:=by refine he.symm▸?_;rfl
   have e3:K.builtins=K1:=by refine he.symm▸?_;rfl
   obtain e4:K.cells=LV (K.locals+1) sc.names []:=by refine he.symm▸?_;rfl
   have I:=du.vD (w:=w) b e1 D.kind e2 e3 e4 D.once D.names rd hw a8 T x;refine⟨I.base.nolimit,Ni ?_⟩;obtain pe:jf K:=⟨by exact e1.symm▸D.gen,by exact e1.symm▸D.co,e3,e2⟩;refine h e1 (hA.deeper pe) I jU ?_;obtain hvp:aA K.scope px=Hq:=by exact e1.symm▸D.vars px D4
   clear R h D4 D pe I e4 e3 e2 e1 hJ yg xo jU yf u5 yh yq qb ng r9 p6 hp hd ho args fo x he GR kZ T a8 hw rd b hA pO us A;induction o with
   |next L=>clear spec body f fd;refine ew (ab3 hy) λo1 hx=>?_;subst o1;intro O' jR J T';exact Cm (J.tq hx hvp) λeS r1 r2 r3 r4=>hQ .none eS jR J.same (λc o e q=>J.keep c o e q) J.alive r1 r2 r3 r4 .none rfl
   |fR z' L=>clear spec body f fd;refine ew (ab3 hy) λo1 hx=>?_;subst o1;intro u O' jR J ru cu;exact Cm (J.tq hx hvp) λeS r1 r2 r3 r4=>hQ u eS jR J.same (λc o e q=>J.keep c o e q) J.alive r1 r2 r3 r4 ru cu
   |ret z=>exact no hy
   |brk L=>exact no hy
   |cont L=>exact no hy
 ·exact no vp
theorem S1.fR{e:HR}{pos:J3}(h:Ev Y w U n sc e m):S1 Y w U n sc (.Return (hb e) pos) (λL=>(m L).bind λv=>if flat v.x=Hq then hb (.fR v.x L)else Hu):=by
 intro A Hz K ae X C L O s r Q E hs hA I;refine ak λv k9=>jl λhf R hQ=>?_
 ·have e:=si R;subst e;clear R;refine L3 (h hs hA I.toInF k9 λu ay ah aL=>?_);obtain⟨as,ra,ca,oa⟩:=aL;clear h pos e oa k9 hA hs E A;obtain rfl:=ra.bT hf;exact hQ u O ay (I.grow ah) ra ca
variable{st:IM}
theorem S1.dead:S1 Y w U n sc st (λ_=>Hu):=by intro A Hz K ae X C L O s r Q E hs hA I R hQ;exact no R
structure pD(Y:IB)(w:Ja)(U:Iv)(n:HG)(C:Hv)(y p0 p1:HP)(m:Hn Ho->Hp (Ho×Ho)):Prop where
 there:∃mC f fo fd r,j7 aG U C mC/\mC y=hb (.ref f)/\U.get? f=hb fo/\fo.cls=.type "function"/\fo.data=.func fd/\Kw (.type "object") y=pure r/\FC Y w U n f [p0,p1] p0 m
 own:y∉aG
 ne:p1≠p0
def uq(C Va:Hv)(x:HP)(m1:ar->Hp (Hn V))(m:Hn Ho->Hp (Ho×Ho))(k:ar->Ho->Hp Out):ar->Hp Out:=λL=>(bL L x).bind λd=>(m1 L).bind λvs=>match vs with
 |[v]=>if gX C Va d.2=Hq/\flat v.x=Hq then(m [d.2,v.x]).bind λq=>if dD q.2=Hq/\flat q.1=Hq then k (L.set x (.own (.tree d.1 q.2))) q.1 else Hu else Hu
 |_=>Hu
variable{p0:HP}{k':HG}{m1:ar->Hp (Hn V)}{m:Hn Ho->Hp (Ho×Ho)}{kk:ar->Ho->Hp Out}{ae:HM}{C':Hn Hv}{O:Hn (HP×Hn Hv)}
theorem aaO{y p1:HP}{e:HR}{np ap cp:J3}(M:pD Y w U k' C y p0 p1 m)(h1:rL Y w U n sc [e] m1)(hv:aA sc x=Hq)(hk:k'<=n)
  (d3:∀K:Ke,J2 (.Name x np) y K (Jf (.Name x np) K)=Jf (.Name x np) K)
  (pn:∀K:Ke,((J4 cp (Ie [e] K)).all (λx=> !x.1)&&(Ny cp (Mp [] K)).all (λx=>x.1.isSome)&&decide ([e].length+([]:Hn Ks).length+(if([]:Hn Ks).isEmpty then 0 else 1)<30))=Hq)
  (iI:(ap.endLine==cp.line)=Hq)(he:∀K:Ke,Ie [e] K=(HH,Jf e K)::Ie [] K)
  {A:Jh}{X:Hn Hv}{r:Out}{E:HE->HM->Prop}(hs:K.scope=sc)(hA:ey A n)(I:du Y w Hz U ae X K C' L O s)(R:uq C Va x m1 m kk L=hb r)
  (hQ:∀u z ft O' s',kk ft z=hb r->du Y w Hz U ae X K C' ft O' s'->Step s.heap s'.heap (WW K C' O) (WW K C' O')->RD Y w Hz s'.heap u z []->wf z=Hq->flat z=Hq->Q u s'):
  wpAny (Iq Y w) A (Jf (.Call (.Attribute (.Name x np) y ap) [e] [] cp) K) Q E s:=by
 obtain⟨⟨ro,d⟩,hd,R⟩:=ao R;obtain⟨vs,ni,R⟩:=ao R;split at R
 ·rename_i v;split at R
  ·rename_i hz;obtain⟨⟨z,d'⟩,kS,R⟩:=ao R;split at R
   ·rename_i vo;obtain hx:=bU hd;dsimp only at hx;obtain⟨⟨mC,f,fo,fd,rr,KC,g1,g2,g3,g4,g5,hf⟩,uZ,gq⟩:=M;refine aaW (U:=U) KC g1 g2 g3 g4 g5 (d3 K) (pn K) iI (he K) (I.oy (by exact hs.symm▸hv) hx λad as hO rt nd ct cn=>dz (IV.mp hz.1) λpf EL=>?_);obtain⟨a,dx,uj,p',aJ,f',us,m',ks,bs,e1,vm,_,apt,i,rs⟩:=rt.jW EL
    ··clear he iI pn d3 hv ap np rs apt vm bs g5 g4 g3 g1 KC rr fd mC hd EL;cases e1;refine i35 ad dx m' rfl i.obj ?_ I.base.grow (h1 hs hA I.toInF ni λEA aN aI cY=>?_)
      ·clear hs E h1 cp ni;cases e:m' y with
       |none=>rfl
       |some v=>exact IG (i.names _ (by refine e.symm▸?_;nofun)) uZ
      ·have gN:=I.grow aI;have g2:=ag aI;refine gQ gN.base.grow ?_;clear I hs h1 cp i ks m' us aJ uj dx uZ ni aI;cases cY with
       |@cons u1 _ _ _ r1 r2=>
        clear y;cases r2;obtain⟨Hj,ra,ca,_⟩:=r1;obtain rfl:=ra.bT hz.2;have rt:=rt.grow g2;obtain l1:=HO.mpr gq;obtain H:pb Y w Hz U aN.heap [p0,p1] p0 [.ref ad,u1] [d,v.x] ad d as:=by
         refine⟨by simp,by simp,rt,cn,nd,λc hc=>(gN.bZ c (cB hO hc)).1,λy' u z' q1 q2 q3=>?_⟩;simp only[IT,HK]at q1 q2;rw[HO.mpr q3]at q1 q2;simp only at q1 q2;by_cases y1:y'=p1
         ·clear E l1 gq q3 nd hz;subst y1;simp only[Ih]at q1 q2;have e:=si q1;subst e;clear q1;have e:=si q2;subst e;clear q2;exact i12 ([]) ra (λ_ q=>nomatch q)
         ·rw[HO.mpr y1]at q1;simp at q1
        refine hf (hA.toRoom.mono hk) gN.base (.cons rt (.cons ra .nil)) (by simp[fw,ca,ct]) rfl H kS λu eS s' sm kp al zM p7 BZ fr ru cu=>?_;obtain hn:∀c∈eS,(c∈as∨aN.heap.get? c=Hu)/\∃o,s'.heap.get? c=hb o/\¬j0 o:=λc hc=>⟨fr c hc,cJ.1 zM c hc⟩;obtain ha:∀c∈as,∃o,s'.heap.get? c=hb o:=λc hc=>by
         exact aQ (gN.cO c (cB hO hc)) λo e o1=>al c o e
        clear hA E A hk H l1 ca ra gq hf kS e fr al ct nd hz;refine pQ sm λh' tk o1=>?_;subst o1;obtain I':=gN.lY (tk:=tk) hx hO kp ha hn p7 BZ vo.1 (λa' q=>by
         refine dz (dX q cn) λo1 z1=>dz (dX rt cn) λo1 z2=>?_;rw[z1]at z2;rw[(IP z2).1];exact zM)
        exact hQ u z _ _ _ R I' ((Step.cM g2).trans (iR hO kp λc hc=>(hn c hc).1)) ru cu vo.2
   ·exact no R
  ·exact no R
 ·exact no R
theorem S1.aoB{x y p0 p1:HP}{e:HR}{np ap cp pos:J3}{k':HG}(M:pD Y w U k' C y p0 p1 m)(h1:rL Y w U n sc [e] m1)(hv:aA sc x=Hq)(hk:k'<=n)
  (d3:∀K:Ke,J2 (.Name x np) y K (Jf (.Name x np) K)=Jf (.Name x np) K)
  (pn:∀K:Ke,((J4 cp (Ie [e] K)).all (λx=> !x.1)&&(Ny cp (Mp [] K)).all (λx=>x.1.isSome)&&decide ([e].length+([]:Hn Ks).length+(if([]:Hn Ks).isEmpty then 0 else 1)<30))=Hq)
  (iI:(ap.endLine==cp.line)=Hq)(he:∀K:Ke,Ie [e] K=(HH,Jf e K)::Ie [] K)
  (hi:∀K:Ke,K.scope=sc->KJ K=HH):
  S1 Y w U n sc (.Expr (.Call (.Attribute (.Name x np) y ap) [e] [] cp) pos) (uq C Va x m1 m λL z=>if isNone z=Hq then hb (.next L)else Hu):=by
 intro A Hz K ae X C' L O s r Q E hs hA I R hQ;refine LP (aaO M h1 hv hk d3 pn iI he hs hA I R λu z ft O' s' hr I' t ru _ _=>?_) (hi K hs);split at hr
 ·rename_i hz;have e:=si hr;subst e;clear hr;have hu:u=.none:=by
   clear hi he iI pn d3 hk hv h1 M k' pos cp ap np p1 p0 y e R I hA hs E A L x;cases z with
   |none=>exact ru.none_inv
   |_=>cases hz
  clear hi he iI pn d3 hk hv h1 M k' pos cp ap np p1 p0 y e hz ru R I hA hs E A L x;subst hu;exact hQ O' s' I' t
 ·exact no hr
variable{np cp:J3}
theorem S1.aoM{p1:HP}(M:pD Y w U k' C y p0 p1 m)(h1:rL Y w U n sc [e] m1)(hv:aA sc x=Hq)(hv2:aA sc fb=Hq)(hk:k'<=n)
  (d3:∀K:Ke,J2 (.Name x np) y K (Jf (.Name x np) K)=Jf (.Name x np) K)
  (pn:∀K:Ke,((J4 cp (Ie [e] K)).all (λx=> !x.1)&&(Ny cp (Mp [] K)).all (λx=>x.1.isSome)&&decide ([e].length+([]:Hn Ks).length+(if([]:Hn Ks).isEmpty then 0 else 1)<30))=Hq)
  (iI:(ap.endLine==cp.line)=Hq)(he:∀K:Ke,Ie [e] K=(HH,Jf e K)::Ie [] K)
  (iS:∀K:Ke,K.scope=sc->JU (.Call (.Attribute (.Name x np) y ap) [e] [] cp) (hb (.Name fb nh)) pos.line K=pure HH):
  S1 Y w U n sc (.Assign [.Name fb nh] (.Call (.Attribute (.Name x np) y ap) [e] [] cp) pos) (uq C Va x m1 m λL z=>hb (.next (L.set fb (.val ⟨z,.d⟩)))):=by
 intro A Hz K ae X C' L O s r Q E hs hA I R hQ;refine Kk (aaO M h1 hv hk d3 pn iI he hs hA I R λu z ft O' s' hr I' t ru cu hf=>?_) (iS K hs);have e:=si hr;subst e;clear hr;exact I'.store (v:=.val ⟨z,.d⟩) (by exact hs.symm▸hv2) ⟨.inl rfl,[],ru,cu,da.nil⟩ λjR Ew t'=>hQ O' jR Ew (t.trans t')
noncomputable def Aa(k:HP):Ho->Ig
 |.str x=>decide (x=k)
 |_=>HH
def uz(k:HP)(aW:Hn (Ho×Ho)):Hn (Ho×Ho):=aW.filter λp=> !Aa k p.1
noncomputable def afF:Ho->Ig
 |.int _=>Hq
 |_=>HH
theorem abJ(k:HP):∀ys:Hn (HP×Ho),uz k (ys.map λp=>(.str p.1,p.2))=((ys.filter λp=>decide (p.1≠k)).map λp=>(.str p.1,p.2)):=by
 intro ys;induction ys with
 |nil=>rfl
 |cons p ys ih=>
  unfold uz at ih⊢;by_cases h:p.1=k
  ·((rw[HS];refine(Jm (by simp[Aa,h])).trans ?_;rw[Jm (by simp[h])]);exact ih)
  ·rw[HS];refine(Jy (by simp[Aa,h])).trans ?_;rw[Jy (by simp[h]),HS,ih]
theorem bH.without{k:HP}:∀{ys:Hn (HP×Ho)}{bs:Hn Hv},ks.map (·.1)=ys.map (·.1)->bH Y w Hz h (ks.map (·.2)) (ys.map (·.2)) bs->
  ∃wq,bH Y w Hz h ((PySem.without ks k).map (·.2)) ((ys.filter λp=>decide (p.1≠k)).map (·.2)) wq/\wq.Sublist bs/\(PySem.without ks k).map (·.1)=(ys.filter λp=>decide (p.1≠k)).map (·.1):=by
 induction ks with
 |nil=>
  intro ys bs e r;cases ys with
  |nil=>exact rM ([]) .nil (List.nil_sublist _) rfl
  |cons _ _=>exact nomatch e
 |cons p ks ih=>
  intro ys bs e r;cases ys with
  |nil=>exact nomatch e
  |cons q ys=>
  refine ew (IP e) λe0 e1=>?_;dsimp only at e0;refine j4 r.cons_inv λb1 b2 o1 r1 r2=>?_;subst o1;refine kK (ih e1 r2) λwq g1 g2 g3=>?_;unfold PySem.without at g1 g3⊢;by_cases hk:p.1=k
  ·have h1:(decide (p.1≠k))=HH:=Iw λh=>h hk;have h2:(decide (q.1≠k))=HH:=Iw λh=>h (e0▸hk);rw[Jm (by rw[h1];exact ID),Jm (by rw[h2];exact ID)];exact rM wq g1 (g2.trans (Oq _ _)) g3
  ·have h1:=Ip hk;have h2:(decide (q.1≠k))=Hq:=Ip λh=>hk (e0.trans h);rw[Jy (by rw[h1]),Jy (by rw[h2])];exact rM (_++wq) (.cons r1 g1) ((Me _).append g2) (by rw[HS,HS,g3,e0])
theorem aih{k:HP}(h:wf (.dict aW)=Hq):wf (.dict (uz k aW))=Hq:=by simp only[wf,HU,Ik]at*;exact⟨Hs (KY _ _) h.1,fY.mpr λp hp=>fY.mp h.2 p (KB.mp hp).1⟩
def AX(x:HP)(mp:ar->Ho->Hp (Ho×(Ho->Ho)))(m:ar->Hp V):ar->Hp Out:=λL=>(bL L x).bind λd=>(mp L d.2).bind λq=>(gK q.1).bind λaW=>(m L).bind λk=>(fW k.x).bind λkey=>(atKey key aW).bind λz=>if afF z=Hq then hb (.next (L.set x (.own (.tree d.1 (q.2 (.dict (uz key aW)))))))else Hu
theorem S1.apL{pe e:HR}{ap cp pos:J3}{mp:ar->Ho->Hp (Ho×(Ho->Ho))}{m:ar->Hp V}(hp:Pa Y w U n sc x pe mp)(h:Ev Y w U n sc e m)(he:∀K,Ie [e] K=[(HH,Jf e K)])(hl:(ap.endLine==cp.line)=Hq)
  (d3:∀K:Ke,J2 pe (HA "pop") K (Jf pe K)=Jf pe K)(hi:∀K:Ke,K.scope=sc->KJ K=HH):
  S1 Y w U n sc (.Expr (.Call (.Attribute pe (HA "pop") ap) [e] [] cp) pos) (AX x mp m):=by
 intro A Hz K ae X C L O s r Q E hs hA I;refine ak λd hd AB hQ=>?_;obtain⟨⟨y,up⟩,hy,Ah⟩:=ao AB;obtain⟨aW,AE,Et⟩:=ao Ah;obtain⟨⟨kx,kf⟩,hk,Ex⟩:=ao Et;obtain⟨key,sk,EE⟩:=ao Ex;obtain⟨z,hz,GG⟩:=ao EE;clear AB Ah Et Ex EE;dsimp only at AE sk;refine ew (gG AE) λo1 rN=>?_;subst o1;clear AE;obtain rfl:=dg sk;obtain hx:=bU hd;split at GG
 ·rename_i hint;clear sk hd;cases GG;refine LP (J5 (d3 K) (by rw[he];rfl) hl N5 F.slot_dict_pop F.type_dict_pop (hp hs hA I hx hy λad as v b ay ah hO nd r H=>?_)) (hi K hs);clear hi d3 hl hp pos ap pe hy;induction H.node.nK rN with|mk a ks ys bs b1 b2 b3 b4=>?_
  refine l6 b1.typeIs (λa' ea=>by cases ea;exact b1.mapOf.noDict _ rfl) ?_;rw[he];show wpAny _ _ (Lq cp (.builtin "dict.pop") [.ref a] [(HH,Jf e K)] []) _ _ _;refine M9 rfl (Nx (Ly (h hs hA (I.grow ah).toInF hk λu aN aI cY=>LB ?_)));obtain⟨_,rk,_,_⟩:=cY;obtain H:=rk.ig;clear rk;induction H with|mk t=>?_
  have g:=ag aI;have H:=H.grow g;have r:=r.grow g;have b1:=b1.keep g;have b4:=b4.grow g;have kt:=ab ah aI;refine j4 ((adq (k:=key) b3 b4).1 z hz) λvv ds e1 e2 o1=>?_;obtain a8:ks.length=ys.length:=by simpa using HL Km b3
  obtain n8:ks.length<=sizeLine:=by obtain c:=H.ya;simp only[wf,HU,Ik]at c;have:=c.1;rw[Hr]at this;exact OM a8 this
  have hint':∃i t',vv=.int i t':=by
   clear he h mp cp t a8 g hz hk aW aI u ah b v rN hA hs E A;cases z with
   |int i=>exact dz e2.int_inv λt' e=>CB i t' e
   |_=>cases hint
  refine call_meetsIn PySem.F.slot_dict_pop b1.typeIs PySem.F.entry_dict_pop (PySem.F.args_dict_pop_2 _ _) (meets_dict_pop_there (strKind Y w) a (ly _ _) [] (.inl rfl) rfl) ⟨ks,vv,b1,n8,e1,λh' vp gy=>?_⟩;clear he h mp cp t n8 a8 b1 g hz hk aW e e2 e1 aI u ah b v hint rN hA hs A;refine pQ hint' λi t' o1=>?_;subst o1;have iG:∀c o,aN.heap.get? c=hb o->c≠a->h'.get? c=hb o:=λc o q hc=>(gy.2 c hc).trans q;have uk:=H.nodup nd;have D0:=cJ.1 H.node a (.head _);have kb:=g9 uk iG D0;refine kK ((cL.2 b4 kb).without (k:=key) b3) λwq g1 g2 g3=>?_;obtain zN:RD Y w Hz h' (.ref a) (.dict (uz key (ys.map λp=>(.str p.1,p.2)))) (a::wq):=by rw[abJ];exact RD.dict vp b2 g3 g1
  refine aQ (I.put kt (aN.toks+1) hx hO nd r H iG zN (λc hc=>.inl (g2.subset hc)) ((HZ.mp uk).2.sublist g2) (aih H.ya) rfl) λO' I' T'=>?_;clear m b3 b2 zN kb D0 uk iG hint' b4 b1 hx g3 g2 g1 wq gy vp H nd hO I r;refine my kt λh1 t1 o1 o2=>?_;subst o1;exact hQ O' _ I' T'
 ·exact no GG
def MethAt(U:Iv)(C:Hv)(y:HP)(sc:IH)(ps:Hn HP)(body:Hn IM):Prop:=
 ∃mC f fo fd r,j7 aG U C mC/\mC y=hb (.ref f)/\U.get? f=hb fo/\fo.cls=.type "function"/\fo.data=.func fd/\Kw (.type "object") y=pure r/\jq U f sc ps body
variable{body:Hn IM}{m:ar->Hp Out}
theorem uP.of(D:MethAt U C y sc ps body)(h:St Y w U n sc body m)(spec:Hn Ho->Hp Ho)(R:∀B z,spec B=hb z->BI ps m B=hb z)(uZ:y∉aG):uP Y w U (n+1) C y spec:=by refine DJ D λmC f fo fd r h1 h2 h3 h4 h5 h6 h7=>⟨⟨mC,f,fo,fd,r,h1,h2,h3,h4,h5,h6,?_⟩,uZ⟩;intro A Hz s us B as z Q E hA b rd hw hz hQ;exact Fn.def h7 h hA b rd hw (R B z hz) hQ
theorem pD.of{p1:HP}(D:MethAt U C y sc [p0,p1] body)(h:St Y w U n sc body m)(spec:Hn Ho->Hp (Ho×Ho))(R:∀a B r,spec B=hb r->pE [p0,p1] p0 m a B=hb r)(gq:p1≠p0)(uZ:y∉aG):
  pD Y w U (n+1) C y p0 p1 spec:=by
 exact DJ D λmC f fo fd r h1 h2 h3 h4 h5 h6 h7=>⟨⟨mC,f,fo,fd,r,h1,h2,h3,h4,h5,h6,FC.def h7 (.head _) h R⟩,uZ,gq⟩
open Classical in
def tJ(ps:Hn HP)(px:HP)(m:ar->Hp Out)(B:Hn Ho):Hp (Ho×Ho):=if∀a,pE ps px m a B=pE ps px m 0 B then pE ps px m 0 B else Hu
theorem acS{r:Ho×Ho}(h:tJ ps px m B=hb r)(a:Hv):pE ps px m a B=hb r:=by
 unfold tJ at h;split at h
 ·rename_i hq;exact(hq a).trans h
 ·exact no h
theorem ae0{r:Ho×Ho}(h:∀a,pE ps px m a B=hb r):tJ ps px m B=hb r:=by exact iT (λa=>(h a).trans (h 0).symm) (h 0)
section
noncomputable def sK:Hn Ho->Hp (Hn HI)
 |[]=>hb []
 |.int i::r=>(sK r).map (i::·)
 |_::_=>Hu
theorem acF:∀{ns:Hn HI},sK B=hb ns->B=ns.map .int:=by
 induction B with
 |nil=>intro ns h;(have e:=si h;subst e;clear h);rfl
 |cons x B bY=>
  intro ns h;cases x with
  |int i=>refine aQ (H6.mp h) λr h1 h2=>?_;(refine h2▸(bY h1).symm▸?_);rfl
  |_=>exact no h
theorem aeq(ns:Hn HI):sK (ns.map .int)=hb ns:=by
 induction ns with
 |nil=>exact rfl
 |cons i ns bY=>show(sK (ns.map .int)).map (i::·)=_;refine bY.symm▸?_;rfl
theorem bH.adB:∀{ns:Hn HI}{vs:Hn HE}{as:Hn Hv},bH Y w Hz h vs (ns.map .int) as->PyProof.Rows.IntsAre vs ns
 |[],vs,as,r=>r.nil_inv.1▸.nil
 |i::ns,vs,as,r=>by
  have H:=r.yx;clear r;induction H with|mk u us bs cs a b=>?_
  have H:=a.dS;clear a;induction H with|mk t=>?_
  exact .cons i t b.adB
theorem afY{ns:Hn HI}(x:PyProof.Rows.IntsAre vs ns):bH Y w Hz h vs (ns.map .int) []:=by
 induction x with
 |nil=>exact .nil
 |cons i t _ ih=>exact .cons (as:=[]) (.int i t) ih
theorem aaU{r:α->α->Prop}(ap5:∀a b,r a b->r b a->a=b){l:Hn α}:∀{m:Hn α},l.Perm m->l.Pairwise r->m.Pairwise r->l=m:=by
 induction l with
 |nil=>exactλp _ _=>(List.nil_perm.mp p).symm
 |cons a l ih=>
  intro m p h1 h2;cases m with
  |nil=>exact nomatch p.length_eq
  |cons b m=>
  rw[Mr]at h1 h2;obtain e:a=b:=by
   rcases Hw.mp (p.subset (.head _):a∈b::m)with x|x
   ·exact x
   ·rcases Hw.mp (p.symm.subset (.head _):b∈a::l)with y|y
    ·exact y.symm
    ·exact ap5 a b (h1.1 b y) (h2.1 a x)
  subst e;exact HL _ (ih ((List.perm_cons a).mp p) h1.2 h2.2)
theorem aam{l m:Hn HI}:l.Perm m->l.Pairwise (·<=·)->m.Pairwise (·<=·)->l=m:=aaU λ_ _ h k=>Int.le_antisymm h k
noncomputable def sortI(ns:Hn HI):Hn HI:=ns.mergeSort λa b=>decide (a<=b)
theorem sortI_perm(ns:Hn HI):(sortI ns).Perm ns:=Pb ns _
theorem aai(ns:Hn HI):(sortI ns).Pairwise (·<=·):=by have:=OD (le:=λa b:HI=>decide (a<=b)) (by intro a b c;simp;exactλa a_1=>HY a a_1) (by intro a b;simp;exact QR _ _) ns;exact this.imp λh=>by simpa using h
def sG(v:V):Hp V:=(listOfD v.x).bind λB=>(sK B).bind λns=>if ns.length<64 then hb ⟨.list ((sortI ns).reverse.map .int),.d⟩else Hu
theorem Ev.aeL{kp:J3}{m:ar->Hp V}(hg:bt U "sorted" (.builtin "sorted"))(h:Ev Y w U n sc e m)(hx:aY sc "sorted"=Hq)(he:∀K:Ke,Ie [e] K=[(HH,Jf e K)]):
  Ev Y w U n sc (.Call (.Name (HA "sorted") np) [e] [⟨hb (HA "reverse"),.Constant (.bool Hq) k bp,kp⟩] pos) (λL=>(m L).bind sG):=by
 intro A Hz K ae X C L O s v Q E hs hA I;refine ak λa ha=>ak λB h1=>ak λns h2=>jl λEB R hQ=>?_
 ·have e:=si R;subst e;clear R;refine Ht (dh I (by exact hs.symm▸hx) hg (PyProof.Rows.callWith_kw (e:=e) (rest:=[]) ?_ (by rw[he];rfl) (by rw[he];rfl)));rw[he];refine Ly (h hs hA I ha λu ay ah aL=>LB (PyProof.Rows.kws_cons (Qb (PyProof.Rows.kws_nil ?_))));obtain⟨as,ra,ca,oa⟩:=aL;rw[cT h1]at ra ca;obtain rfl:=acF h2;obtain H:=ra.listI;clear ra;induction H with|mk d us mm cs a1 a2=>?_
  obtain hl:us.length=ns.length:=by have:=a2.length;simpa using this
  refine PyProof.Rows.sorted_ints_rev (b:=Hq) ⟨_,a1,rfl,_,rfl⟩ a2.adB (Rp hl EB) λout FK b1 b2 b3=>?_;have b3':FK.reverse.Pairwise (·<=·):=by rw[List.pairwise_reverse];exact b3
  obtain rfl:FK=(sortI ns).reverse:=by(refine((aam (((List.reverse_perm FK).trans b2).trans (sortI_perm ns).symm) b3' (aai ns)))▸?_;rw[List.reverse_reverse])
  refine dz (PyProof.Rows.sortedAll_at ay.heap us out) λee hee=>?_;obtain kk:I8 ay {ay with heap:=PyProof.Rows.sortedAll ay.heap us out}:=⟨_,ay.toks,rfl,λb o q=>PyProof.Rows.sortedAll_old q⟩;refine hQ _ _ (ab ah kk) ⟨[ay.heap.objs.size+1],.list (vs:=out.toList) (n:=ee) (by simpa using hee) (afY b1),?_,?_⟩
  ·rw[aV];refine⟨Hs ?_ (by decide:64<=sizeLine),(cN _).mpr λx hx=>?_⟩
   ·have:=(sortI_perm ns).length_eq;simp;exact this▸IK EB
   ·refine aQ (HX.mp hx) λi o1 o2=>?_;subst o2;rfl
  ·intro c hc;exact(HB.mp hc).symm▸(I.grow ah).fresh (aR _ (J1 _))
def qP(y:HP)(k:Hn Ho):Ig:=k.any λt=>decide (((uv t).bind λB=>B[0]?.bind fW)=hb y)
noncomputable def apM:Ho->Hp (Hn (Ho×Ho))
 |.dict aW=>hb aW
 |_=>Hu
def rx(C:Hv)(x:Ho):Hp (Hn Ho×Hn (Ho×Ho)):=(AN x).bind λkv=>(listOfD kv.1).bind λks=>(apM kv.2).bind λfs=>if(ks[0]?.bind cD)=hb (C:HI)then hb (ks.drop 1,fs)else Hu
theorem eU(C:Hv)(rs:Hn (HP×Hv))(fs:Hn (HP×Ho)):rx C (d9 C rs fs)=hb (rs.map (λq=>.tuple [.str q.1,.int q.2]),fs.map λp=>(.str p.1,p.2)):=by show(if hb (C:HI)=hb (C:HI)then hb (rs.map (λq=>Mh [.str q.1,.int q.2]),fs.map λp=>((.str p.1,p.2):Ho×Ho))else Hu)=_;exact(H5 rfl)
def y9(C:Hv)(y:HP)(z d:Ho):Hp Ho:=(rx C d).bind λq=>if qP y q.1=HH/\dw y q.2=HH/\q.1.length+q.2.length<=18 then hb (.dict [(.list (.int C::q.1),.dict (q.2++[(.str y,z)]))])else Hu
section
variable(Y w Hz)
inductive ajI(h:Iv)(C:Hv)(u:HE)(x:Ho)(q:Hn Ho×Hn (Ho×Ho))(as:Hn Hv):Prop
 |mk (a dx:Hv) (rs:Hn (HP×Hv)) (gs:Hn (HP×Ho)) (vs:Hn HE) (m:HP->Hp HE) (bs:Hn Hv) (h1:u=.ref a) (h2:x=d9 C rs gs) (h3:as=a::dx::bs) (h4:q=(rs.map (λq=>.tuple [.str q.1,.int q.2]),gs.map λp=>(.str p.1,p.2)))
   (i:oM h a dx C m) (h5:∀q∈rs,m q.1=hb (.ref q.2)) (h6:gs.map (λp=>m p.1)=vs.map hb) (h7:Within m (rs.map (·.1)++gs.map (·.1))) (r:bH Y w Hz h vs (gs.map (·.2)) bs):ajI h C u x q as
end
theorem RD.ke{q:Hn Ho×Hn (Ho×Ho)}(r:RD Y w Hz h u gc as)(e:rx C gc=hb q):
  ajI Y w Hz h C u gc q as:=by
 revert e;refine r.casesOn (λe=>no e) (λ_ e=>no e) (λ_ _ e=>no e) (λ_ _ e=>no e) (λ_ _ e=>no e) (λ_ _ _ e=>no e) (λ_ _ _ _ e=>by
  obtain⟨kv,h1,h2⟩:=ao e;refine dz (oz h1) λk hk=>?_;rw[hk]at h2;exact no h2) (λ_ e=>no e) (λ_ _ e=>no e) (λ{a dx C' rs gs vs m bs} i q' e' n r e=>?_) (λ_ e=>no e)
 replace e:(if hb (C':HI)=hb (C:HI)then hb (rs.map (λq=>Mh [.str q.1,.int q.2]),gs.map λp=>((.str p.1,p.2):Ho×Ho))else Hu)=hb q:=e;by_cases hv:hb (C':HI)=hb (C:HI)
 ·rw[H5 hv]at e;obtain rfl:=H4 e;obtain rfl:=J7 (H4 hv);exact⟨a,dx,rs,gs,vs,m,bs,rfl,rfl,rfl,rfl,i,q',e',n,r⟩
 ·rw[Ir hv]at e;exact no e
variable{rs:Hn (HP×Hv)}{gs:Hn (HP×Ho)}
theorem qn{BS:Hn (HP×Hv)}(h:d9 C rs gs=d9 C BS gs'):rs=BS/\gs=gs':=by
 obtain e:=HL (rx C) h;rw[eU,eU]at e;injection e with e;injection e with e1 e2;refine⟨(Mt λx y q=>?_).mp e1,(Mt λx y q=>?_).mp e2⟩
 ·injection q with q;injection q with q1 q2;injection q1 with q1;injection q2 with q2 _;injection q2 with q2;exact MN q1 (J7 q2)
 ·injection q with q1 q2;injection q1 with q1;exact MN q1 q2
theorem acB:qP y (rs.map λq=>.tuple [.str q.1,.int q.2])=HH->∀q∈rs,q.1≠y:=by
 induction rs with
 |nil=>intro _ q hq;exact nomatch hq
 |cons r rs bY=>
  intro h q hq;rw[HS,qP,Qq,Jn]at h;rcases Hw.mp hq with rfl|hq
  ·exactλe=>Ji h.1 (HL hb e)
  ·exact bY h.2 q hq
theorem acL:dw y (gs.map λp=>(.str p.1,p.2))=HH->∀q∈gs,q.1≠y:=by
 induction gs with
 |nil=>intro _ q hq;exact nomatch hq
 |cons r gs bY=>
  intro h q hq;replace h:=Jn.mp (show(decide (r.1=y)||dw y (gs.map λp=>(.str p.1,p.2)))=HH from h);rcases Hw.mp hq with rfl|hq
  ·simpa using h.1
  ·exact bY h.2 q hq
section
variable{X:Hn Hv}
theorem du.adW{nl:Hn HP}{C:Hv}{mC:HP->Hp HE}{x y:HP}{np:J3}{ro:Hp Hv}{d d':Ho}{u:HE}{t:HM}{Q:Nq->HM->Prop}{bs:Hn Hv}(KC:j7 nl U C mC)(hy:y∈nl)(I:du Y w Hz U ae X K C' L O s)(kt:I8 s t)(hv:aA K.scope x=Hq)
  (hx:L x=hb (.own (.tree ro d)))(t9:∀b∈bs,s.heap.get? b=Hu)(hbn:bs.Nodup)(pZ:wf d'=Hq)(vo:dD d'=Hq)(a8:∀a as,RD Y w Hz s.heap (.ref a) d as->∃dx m ns iu,as=a::dx::iu/\oM s.heap a dx C m/\Within m ns/\ns.length<=20/\
   ∀h',oM h' a dx C (λz=>if z=y then hb u else m z)->(∀c o,c≠a->c≠dx->t.heap.get? c=hb o->h'.get? c=hb o)->(a::dx::iu).Nodup->(∀b∈bs,b≠a/\b≠dx)->RD Y w Hz h' (.ref a) d' (a::dx::(iu++bs)))
  (hQ:∀O' s',du Y w Hz U ae X K C' (L.set x (.own (.tree ro d'))) O' s'->Step s.heap s'.heap (WW K C' O) (WW K C' O')->Q () s'):
  wpAny (Iq Y w) A (Jf (.Name x np) K) (λov aN=>wpAny (Iq Y w) A (setAttr ov y u) Q E aN) E t:=by
 obtain It:=I.grow kt;obtain gt:=ag kt;refine It.oy hv hx λad as hO rt nd ct cn=>?_;have GV:RD Y w Hz s.heap (.ref ad) d as:=by
  have fin:∀u',cj Y w Hz ae.heap (WW K C' O) O s.heap x u' (.own (.tree ro d))->∃a',u'=.ref a'/\RD Y w Hz s.heap (.ref a') d as:=by
   rintro u' ⟨sp,e,r⟩;rw[hO]at e;have e:=si e;subst e;clear e;clear np ct;induction r.pz with|mk _ q1 q2 q3 q4 q5=>?_
   exact i12 _ rfl q1
  have key:∃a',RD Y w Hz s.heap (.ref a') d as:=by
   rcases dZ hv with q|q
   ·exact aQ I.ns λmm yk R=>aQ (R x _ hx q) λu' o1 r=>aQ (fin u' r) λa' o1 r=>u9 a' r
   ·exact j4 (I.cell x _ hx q) λc u' o1 o2 r=>aQ (fin u' r) λa' o1 r=>u9 a' r
  refine dz key λa' r=>dz (dX r cn) λo1 z1=>dz (dX rt cn) λo1 z2=>?_;rw[z1]at z2;exact((IP z2).1)▸r
 clear hv np ct rt;refine F9 (a8 ad as GV) λdx m ns iu o1 i hw hl aqg=>?_;subst o1;obtain ud:=i.kept (λo e=>gt _ _ e) (λo e=>gt _ _ e);obtain Dp:=(I.bZ ad (cB hO (.head _))).1;obtain yA:=cJ.1 GV;have Dj:∀b∈bs,b∉ad::dx::iu:=λb aO q=>by
  exact aQ (yA b q) λo e o1=>no ((t9 b aO).symm.trans e)
 clear a8 yA GV i;refine my kt λh2 tk2 o1 o2=>?_;subst o1;refine qU (s:=_) KC It.base.grow ud hy hw hl Dp λh' tk i' keep=>?_;have EX:=aqg h' i' keep nd λb aO=>⟨λq=>Dj b aO (q▸.head _),λq=>Dj b aO (q▸.tail _ (.head _))⟩;obtain al:=cJ.1 EX;have Ae:∀c o,s.heap.get? c=hb o->c∉ad::dx::iu->h'.get? c=hb o:=λc o eo q=>keep c o (λe=>q (by rw[e];exact .head _)) (λe=>q (by rw[e];exact .tail _ (.head _))) (gt c o eo);have apn:∀c,c∈ad::dx::(iu++bs)->c∈ad::dx::iu∨s.heap.get? c=Hu:=λc hc=>by
  rcases HD.mp (show c∈(ad::dx::iu)++bs from hc)with q|q
  ·exact .inl q
  ·exact .inr (t9 c q)
 obtain p7:(ad::dx::(iu++bs)).Nodup:=by show((ad::dx::iu)++bs).Nodup;rw[H8];exact l6 nd hbn (λa ha b aO e=>Dj b aO (e▸ha))
 obtain I':=I.lY (tk:=tk) hx hO Ae (λc hc=>(al c (by
  show c∈(ad::dx::iu)++bs;exact HF _ hc)).imp λ_ q=>q.1) (λc hc=>⟨apn c hc,al c hc⟩) p7 pZ vo (λa' q=>by
   exact dz (dX q cn) λo1 z1=>((IP z1).1)▸EX)
 exact hQ _ _ I' (iR hO Ae λc hc=>apn c hc)
end
def zm(C:Hv)(x:HP)(y:HP)(m:ar->Hp Ho):ar->Hp Out:=λL=>(bL L x).bind λd=>(m L).bind λz=>(y9 C y z d.2).map λd'=>.next (L.set x (.own (.tree d.1 d')))
theorem afb(h:y9 C y z d=hb d'):∃q,rx C d=hb q/\qP y q.1=HH/\dw y q.2=HH/\q.1.length+q.2.length<=18/\d'=.dict [(.list (.int C::q.1),.dict (q.2++[(.str y,z)]))]:=by
 obtain⟨q,h1,h2⟩:=ao h;split at h2
 ·rename_i hc;exact i15 q h1 hc.1 hc.2.1 hc.2.2 ((H4 h2).symm)
 ·exact no h2
theorem aga:wf (d9 C rs gs)=Hq↔((rs.length+1<=sizeLine/\fw (rs.map λq=>.tuple [.str q.1,.int q.2])=Hq)/\gs.length<=sizeLine/\x4 (gs.map λp=>(.str p.1,p.2))=Hq):=by
 obtain h1:1<=sizeLine:=by decide
 simp[d9,wf,x4,fw,h1]
theorem ami(cd:wf (d9 C rs gs)=Hq)(cy:wf (.str y)=Hq)(cz:wf z=Hq)(hl:rs.length+gs.length<=18):wf (d9 C rs (gs++[(y,z)]))=Hq:=by
 rw[aga]at cd⊢;refine l6 cd.1 (Hs (by simp;exact Nat.le_of_add_left_le hl) (by decide:19<=sizeLine)) ?_;rw[HJ,fY];intro p hp;rcases HD.mp hp with hp|hp
 ·exact fY.mp cd.2.2 p hp
 ·exact(HB.mp hp).symm▸gQ cy cz
theorem S1.setAttr{nl:Hn HP}{mC:HP->Hp HE}{e:HR}{np tp pos:J3}{m:ar->Hp Ho}(KC:j7 nl U C mC)(h:lT Y w U n sc e m)(hy:y∈nl)(EW:wf (.str y)=Hq)(hv:aA sc x=Hq)
  (iS:∀K:Ke,JU e (hb (.Attribute (.Name x np) y tp)) pos.line K=pure HH):
  S1 Y w U n sc (.Assign [.Attribute (.Name x np) y tp] e pos) (zm C x y m):=by
 intro A Hz K ae X C' L O s r Q E hs hA I;refine ak λz0 hd=>ak λz hz R hQ=>?_;obtain⟨ro,d⟩:=z0;induction dI R with|mk d' kS=>?_
 obtain hx:=bU hd;dsimp only at hx kS;refine Oh (h hs hA I.toInF hz λu bs ay ah ru nd cz fr=>?_) (iS K);clear iS h pos tp hz hd hA;refine e15 (afb kS) λq hq g1 g2 g3 o1=>?_;subst o1;have zN:∃a as,RD Y w Hz s.heap (.ref a) d as/\wf d=Hq:=by
  have fin:∀u',cj Y w Hz ae.heap (WW K C' O) O s.heap x u' (.own (.tree ro d))->∃a as,RD Y w Hz s.heap (.ref a) d as/\wf d=Hq:=by
   rintro u' ⟨sp,e,r⟩;clear m np kS E A;induction r.pz with|mk _ q1 q2 q3 q4 q5=>?_
   exact Ca _ _ q1 q3
  rcases dZ (show aA K.scope x=Hq by exact hs.symm▸hv)with q|q
  ·exact aQ I.ns λmm yk R=>aQ (R x _ hx q) λu' o1 r=>fin u' r
  ·exact j4 (I.cell x _ hx q) λc u' o1 o2 r=>fin u' r
 refine my zN λo1 o2 rt0 cd=>?_;clear m kS zN R r;obtain⟨_,_,rs,gs,_,_,_,_,rfl,_,rfl,_⟩:=rt0.ke hq;rw[show NS [(.list (.int C::(rs.map λq=>.tuple [.str q.1,.int q.2])),.dict ((gs.map λp=>(.str p.1,p.2))++[(.str y,z)]))]=d9 C rs (gs++[(y,z)]) by unfold d9;rw[HJ];rfl]at hQ;obtain g1':=acB g1;obtain g2':=acL g2;simp only[Hr]at g3;refine I.adW (d':=d9 C rs (gs++[(y,z)])) KC hy ah (by exact hs.symm▸hv) hx fr nd (ami cd EW cz g3) rfl (λa as rt=>?_) λO' s' I' t=>hQ O' s' I' t;obtain⟨a',dx,BS,gs',vs,mm,iu,e0,ex,rfl,_,i,q,e,nn,rr⟩:=rt.ke (eU C rs gs);cases e0;refine ew (qn ex) λo1 o2=>?_;subst o1;subst o2;refine i45 dx mm _ iu rfl i nn (by simp;exact K3 g3) (λh' i' keep p7 gq=>?_);have apb:∀c∈iu,c≠a/\c≠dx:=λc hc=>by
  simp only[HZ,Hw,LR]at p7;exact gQ (λq=>p7.1.2 (q▸hc)) (λq=>p7.2.1 (q▸hc))
 have kp:∀{wq:Hn Hv},(∀c∈wq,c≠a/\c≠dx)->jb ay.heap h' wq:=λ{wq} aO c o eo qq=>by
  obtain zT:∀c,c=a∨c=dx->∃o,ay.heap.get? c=hb o/\¬j0 o:=λc hc=>(i.kept (λo e=>ag ah _ _ e) (λo e=>ag ah _ _ e)).alive c (by rcases hc with rfl|rfl<;>simp);refine keep c o ?_ ?_ eo
  ·intro hc;rcases qq with qq|qq
   ·exact(aO c qq).1 hc
   ·refine aQ (zT c (.inl hc)) λo' wu nt=>?_;rw[eo]at wu;have e:=si wu;subst e;clear wu;exact nt qq
  ·intro hc;rcases qq with qq|qq
   ·exact(aO c qq).2 hc
   ·refine aQ (zT c (.inr hc)) λo' wu nt=>?_;rw[eo]at wu;have e:=si wu;subst e;clear wu;exact nt qq
 have:=RD.inst (Y:=Y) (w:=w) (Hz:=Hz) (rs:=rs) (fs:=gs++[(y,z)]) (vs:=vs++[u]) i' (λq' vn=>by exact iF (g1' q' vn)<|q q' vn) (by
  refine HJ.trans ?_;rw[HJ];congr 1
  ·exact e▸J0 λp hp=>(Ir (g2' p hp))
  ·simp) (λz' z9=>by
  by_cases ez:z'=y
  ·clear hv EW hy KC np mC nl kp apb g2' g1' hx rr i ex gq p7 keep i' rt a cd rt0 e g3 g2 g1 hq fr cz nd ru ah ay hQ I hs E Q O L C' X ae K A;subst ez;simp
  ·rw[Ir ez]at z9;have:=nn z' z9;simp only[HJ,HD]at this⊢;rcases this with q|q
   ·exact .inl q
   ·exact .inr (.inl q)) (as:=iu++(bs++[])) (by
  exact HJ.symm▸(cL.2 (rr.grow (ag ah)) (kp apb)).append (.cons (cL.1 ru (kp gq)) .nil))
 rw[IA]at this;exact this
variable{us:Hn HE}
theorem Room.under(h:Room A (n+1)):Room (A.under (.builtin "type.__call__" ⟨.ref C::us,[]⟩)) n:=by
 refine dz h.frames λl hl=>⟨h.handled,?_,?_,⟨l,?_⟩⟩
 ·have:=h.depth;exact rm1 this
 ·have:=h.units;obtain hc:Code.cUnits (.builtin "type.__call__" ⟨.ref C::us,[]⟩)<=8:=by exact IE rfl
  exact anJ this hc
 ·clear h;cases A;cases hl;rfl
theorem abE{A:Jh}{E:HE->HM->Prop}{nl:Hn HP}{fI:Hv}{oI:PR}{us:Hn HE}{Q:HE->HM->Prop}(KC:j7 nl U C mC)(hi:mC "__init__"=hb (.ref fI))(vq:U.get? fI=hb oI)(wy:oI.cls=.type "function")(g:bA U s.heap)
  (hq:∀h' x dx,bA s.heap h'->s.heap.get? x=Hu->s.heap.get? dx=Hu->oM h' x dx C (λ_=>Hu)->
   wpAny (Iq Y w) (A.under (.builtin "type.__call__" ⟨.ref C::us,[]⟩)) (call (.ref fI) (.ref x::us)) (λr s'=>r=.none/\Q (.ref x) s') E {s with heap:=h'}):
  wpAny (Iq Y w) A (call (.ref C) us) Q E s:=by
 refine dz KC.here λN X=>?_;obtain⟨hh,gg,d,t,os⟩:=s;obtain⟨nm,q,bs,sn,sub,col,dd,k0,k1,k2,k3,k5,hC⟩:=(X.keeps g).obj;refine wpAny_call_obj_init PySem.F.objNew hC (X.keeps g).ns hi (g _ _ vq) wy λh' x dx Mk=>hq h' x dx Mk.keeps Mk.newX Mk.newD (Cm Mk.inst λox hx hcx aqe yF=>?_);obtain uj:=Mk.dict ox hx;rcases yF with⟨Eb,_⟩|⟨d',kS,gq,yk⟩
 ·exact no (Eb.symm.trans uj)
 ·clear hq g wy vq hi KC Q us oI fI nl E A hC k5 k3 k2 k1 k0 dd col sub sn bs q nm os t d gg Mk X N;obtain rfl:=H4 (kS.symm.trans uj);exact⟨ox,hx,hcx,aqe,uj,gq,yk⟩
theorem alM:∀{us:Hn HE}{B:Hn Ho}{as:Hn Hv},bH Y w Hz h us B as->(ps.zip us).lookup y=hb u->(ps.zip B).lookup y=hb gc->∃bs,RD Y w Hz h u gc bs/\∀c∈bs,c∈as:=by
 induction ps with
 |nil=>exactλ_ e _=>no e
 |cons p ps ih=>
  intro us B as r e1 e2;cases us with
  |nil=>exact no e1
  |cons v us=>cases B with
  |nil=>exact no e2
  |cons z B=>
  refine j4 r.cons_inv λbs cs o1 r1 r2=>?_;subst o1;rw[IT,HK]at e1 e2;by_cases hy:y=p
  ·subst hy;rw[Ih]at e1 e2;have e:=si e1;subst e;clear e1;have e:=si e2;subst e;clear e2;exact i12 bs r1 (λc hc=>HF _ hc)
  ·rw[HO.mpr hy]at e1 e2;exact aQ (ih r2 e1 e2) λds q1 q2=>i12 ds q1 (λc hc=>Hx _ (q2 c hc))
structure s4(Y:IB)(w:Ja)(U:Iv)(n:HG)(C:Hv)(ps:Hn HP)(m:Hn Ho->Hp Ho):Prop where
 there:∃nl mC fI oI,j7 nl U C mC/\mC "__init__"=hb (.ref fI)/\U.get? fI=hb oI/\oI.cls=.type "function"/\DB Y w U n fI ("self"::ps) "self" m
theorem afR(C:Hv):wf (d9 C [] [])=Hq:=by
 obtain h1:1<=sizeLine:=by decide
 rfl
theorem aez{A:Jh}{E:HE->HM->Prop}{k:HG}{C:Hv}{m:Hn Ho->Hp Ho}{us:Hn HE}{B:Hn Ho}{as:Hn Hv}{Q:HE->HM->Prop}{ps:Hn HP}(M:s4 Y w U k C ps m)(hA:Room A (k+1))(b:fg Y Hz U s.heap)(r:bH Y w Hz s.heap us B as)(hw:fw B=Hq)
  (R:m (d9 C [] []::B)=hb d)(DW:ps.length=B.length)
  (hQ:∀a eS s',I8 s s'->RD Y w Hz s'.heap (.ref a) d eS->eS.Nodup->wf d=Hq->(∀c∈eS,s.heap.get? c=Hu)->Q (.ref a) s'):wpAny (Iq Y w) A (call (.ref C) us) Q E s:=by
 refine F9 M.there λnl mC fI oI KC hi vq wy hf=>abE KC hi vq wy b.grow λh' x dx g hx yF i=>?_;obtain r':=r.grow g;obtain b':=b.trans g;have nd:[x,dx].Nodup:=by obtain⟨_,_,_,_,_,gq,_⟩:=i;simp[K9 gq]
 have jj:RD Y w Hz h' (.ref x) (d9 C [] []) [x,dx]:=RD.inst (rs:=[]) (fs:=[]) (vs:=[]) i (λ_ q=>nomatch q) rfl (λy hy=>IG rfl hy) .nil;have new:∀c∈[x,dx],s.heap.get? c=Hu:=λc hc=>by
  exact Cn c hc hx yF
 obtain ao5:∀c∈[x,dx],U.get? c=Hu:=λc hc=>by
  clear M E i yF hx wy vq hi KC oI mC nl;cases e:U.get? c with
  |none=>rfl
  |some o=>have:=b.grow _ _ e;exact no ((new c hc).symm.trans this)
 refine hf (A:=A.under _) (s:={s with heap:=h'}) (us:=.ref x::us) (B:=d9 C [] []::B) (a:=x) (d:=d9 C [] []) (as:=[x,dx]) (Room.under hA) b' (.cons jj r') (by assumption) (by simp[DW,r.length]) ?_ R λeS s' sm kp al rd p7 BZ fr=>?_
 ·refine⟨by rfl,by rfl,jj,rfl,nd,ao5,λy u z e1 e2 hy=>?_⟩;simp only[IT,HK]at e1 e2;rw[HO.mpr hy]at e1 e2;exact aQ (alM r e1 e2) λbs q1 q2=>i12 bs (q1.grow g) (λc hc hq=>dz (q1.alive c hc) λo e=>no ((new c hq).symm.trans e))
 ·clear DW R hw r b hA M E A ao5 jj nd b' r' al i yF hx hf wy vq hi KC oI fI mC nl;refine pQ sm λqv tk o1=>?_;subst o1;refine gQ rfl (hQ x eS _ ⟨qv,tk,rfl,λc o e=>kp c o (g c o e) λq=>?_⟩ rd p7 BZ λc hc=>?_)
  ·exact no ((new c q).symm.trans e)
  ·rcases fr c hc with q|q
   ·exact new c q
   ·clear hQ ps Q as B us m C k new fr BZ p7 rd kp sm hc dx x;cases e:s.heap.get? c with
    |none=>rfl
    |some o=>obtain q:h'.get? c=Hu:=q;exact no (q.symm.trans (g c o e))
theorem Ev.ofT{m:ar->Hp Ho}(h:lT Y w U n sc e m):Ev Y w U n sc e (λL=>(m L).map λd=>⟨d,.d⟩):=by
 intro A Hz K ae X C L O s v Q E hs hA I R hQ;induction dI R with|mk d hd=>?_
 exact h hs hA I hd λu as s' k r _ c fr=>hQ u s' k ⟨as,r,c,λa ha=>I.fresh (fr a ha)⟩
theorem du.ahq{Q:Nq->HM->Prop}{X:Hn Hv}(I:du Y w Hz U ae X K Bs L O s)(ah:I8 s ay)(hv:aA K.scope x=Hq)(rd:RD Y w Hz ay.heap (.ref a) d as)(nd:as.Nodup)(c:wf d=Hq)(hn:dD d=Hq)(fr:∀b∈as,s.heap.get? b=Hu)
  (hQ:∀s',du Y w Hz U ae X K Bs (L.set x (.own (.tree Hu d))) ((x,as)::O) s'->Step s.heap s'.heap (WW K Bs O) (WW K Bs ((x,as)::O))->Step ay.heap s'.heap (WW K Bs ((x,as)::O)) (WW K Bs ((x,as)::O))->Q () s'):wpAny (Iq Y w) A (Pn K x (.ref a)) Q E ay:=by
 refine(I.abG ah x fr (cJ.1 rd) nd).store (v:=.own (.tree Hu d)) hv ⟨as,by(refine HK.trans ?_;rw[Ih]),.tree rd nd c hn (λ_ q=>nomatch q)⟩ λs' I' t=>hQ s' (by rw[<-nT];exact I') (Step.trans ⟨λb o e _=>ag ah b o e,λb aO=>?_⟩ t) t;simp only[WW,IF,Hw,HD]at aO⊢;rcases aO with h|h|h|h
 ·exact .inl (.inl h)
 ·exact .inl (.inr (.inl h))
 ·exact .inr (fr b h)
 ·exact .inl (.inr (.inr h))
theorem lT.new{m:Hn Ho->Hp Ho}(M:s4 Y w U k C ps m)(hg:bt U cls (.ref C))(yG:rL Y w U n sc (e::rest) ms)(hk:k+1<=n)(hx:aY sc cls=Hq)
  (he:∀K:Ke,Ie (e::rest) K=(HH,Jf e K)::Ie rest K)(amN:∀K:Ke,(J4 pos (Ie rest K)).any (·.1)=HH):
  lT Y w U n sc (.Call (.Name cls np) (e::rest) [] pos) (λL=>(ms L).bind λvs=>if vs.length=ps.length then m (d9 C [] []::vs.map (·.x))else Hu):=by
 intro A Hz K ae X C' L O s d Q E hs hA I;refine ak λvs ni R hQ=>?_;split at R
 ·rename_i hl;refine F9 (id M.there) λnl mC fI oI KC hi vq wy hf=>dz KC.here λN X=>Ht (dh I (by exact hs.symm▸hx) hg (PyProof.Rows.callWith_cls X (yG hs hA I ni λus ay ah aL=>⟨(I.grow ah).base.grow,?_⟩) (he K) (amN K)));refine kK aL.yw λas rd hw o1=>aez M (hA.toRoom.mono hk) (I.grow ah).base rd hw R (by rw[Hr,hl]) λa eS s' k' zM p7 BZ fr=>hQ _ eS s' (ab ah k') zM p7 BZ λc hc=>?_;cases e:s.heap.get? c with
  |none=>rfl
  |some o=>have:=ag ah _ _ e;exact no ((fr c hc).symm.trans this)
 ·exact no R
theorem afD(rd:RD Y w Hz h u d as)(hn:dD d=Hq):∃a,u=.ref a:=by
 cases d with
 |list B=>exact e42 rd.fM λa _ _ _ e _=>⟨a,e⟩
 |dict ps=>exact my rd.head.1 λa _ e _=>⟨a,e⟩
 |_=>cases hn
theorem S1.apG{x:HP}{e:HR}{p pos:J3}{m:ar->Hp Ho}(h:lT Y w U n sc e m)(hv:aA sc x=Hq)(iS:∀K:Ke,K.scope=sc->JU e (hb (.Name x p)) pos.line K=pure HH):
  S1 Y w U n sc (.Assign [.Name x p] e pos) (λL=>(m L).bind λd=>if dD d=Hq then hb (.next (L.set x (.own (.tree Hu d))))else Hu):=by
 intro A Hz K ae X C' L O s r Q E hs hA I;refine ak λd hd=>jl λhn R hQ=>?_
 ·have e:=si R;subst e;clear R;refine Kk (h hs hA I.toInF hd λu as ay ah rd nd c fr=>?_) (iS K hs);refine dz (afD rd hn) λa o1=>?_;subst o1;exact I.ahq ah (by exact hs.symm▸hv) rd nd c hn fr λs' I' t _=>hQ _ s' I' t
variable{rest:Hn IM}
theorem acW{E:HE->HM->Prop}{fI:Hv}{mC:HP->Hp HE}{p1 p2 p3 p4:J3}{bs:Hn Hv}
  (KC:j7 aG U C mC)(D:jq U fI sc ["self","plots"] (.Assign [.Attribute (.Name (HA "self") p1) (HA "plots") p2] (.Name (HA "plots") p3) p4::rest))(wB:sc.names.lookup (HA "plots")=hb .local)(h:St Y w U k sc rest m)
  (R:∀L,L "self"=hb (.own (.tree (hb a) (d9 C [(HA "plots",p)] [])))->∃ft,m L=hb (.next ft)/\ft "self"=hb (.own (.tree (hb a) d')))
  (hA:Room A (k+1))(b:fg Y Hz U s.heap)(i:oM s.heap a dx C λ_=>Hu)(GW:U.get? a=Hu)(rO:U.get? dx=Hu)(rp:RD Y w Hz s.heap (.ref p) nZ bs)(cp:wf nZ=Hq)(yD:∀c∈bs,c≠a/\c≠dx)
  (hQ:∀eS s',(∃h tk,s'={s with heap:=h,toks:=tk})->(∀c o,s.heap.get? c=hb o->c∉[a,dx]->s'.heap.get? c=hb o)->RD Y w Hz s'.heap (.ref a) d' eS->eS.Nodup->wf d'=Hq->(∀c∈eS,c∈[a,dx]∨s.heap.get? c=Hu)->Q .none s'):
  wpAny (Iq Y w) A (call (.ref fI) [.ref a,.ref p]) Q E s:=by
 obtain⟨fo,fd,args,ho,hd,hp,p6,r9,ng,qb,yq,yh,u5,yf⟩:=D.there;have nd:[a,dx].Nodup:=by obtain⟨_,_,_,_,_,gq,_⟩:=i;simp[K9 gq]
 have jj:RD Y w Hz s.heap (.ref a) (d9 C [] []) [a,dx]:=RD.inst (rs:=[]) (fs:=[]) (vs:=[]) i (λ_ q=>nomatch q) rfl (λnZ hy=>IG rfl hy) .nil;obtain T:pb Y w Hz U s.heap ["self","plots"] "self" [.ref a,.ref p] [d9 C [] [],nZ] a (d9 C [] []) [a,dx]:=by
  refine⟨by rfl,by rfl,jj,rfl,nd,λc hc=>?_,λz u x e1 e2 hy=>?_⟩
  ·exact Cn c hc GW rO
  ·simp only[IT,HK]at e1 e2;rw[HO.mpr hy]at e1 e2;by_cases hz:z="plots"
   ·clear rO GW i E nd hy;subst hz;simp only[Ih]at e1 e2;have e:=si e1;subst e;clear e1;have e:=si e2;subst e;clear e2;refine i12 bs rp (λc hc hq=>?_);simp only[Hw,Ia,Kv]at hq;rcases hq with hq|hq
    ·exact(yD c hc).1 hq
    ·exact(yD c hc).2 hq
   ·rw[HO.mpr hz]at e1;exact no e1
 obtain yg:args.length=[NT a,.ref p].length:=by simpa using HL Km p6
 obtain hJ:(args.map (·.arg)).Nodup:=by exact p6.symm▸D.names
 refine N4 (Le (fd:=fd) (body:=_::rest) (by have:=hA.depth;exact HC (Hs (Ib _ _) (Ib _ _)) this) (b.grow _ _ ho) hd (by exact ng.symm▸D.co) (by exact ng.symm▸D.gen) r9 (yf.keeps b.grow) ?_);refine(iU hp yq yg hJ).symm▸p6.symm▸ng.symm▸yh.symm▸qb.symm▸u5.symm▸?_;refine HV (Kz D.kind (λz hz=>?_) λK he s' x=>?_)
 ·refine(dZ (D.vars _ (Ky hz).1)).imp id λq=>⟨q,gk _ _ _ (.inl q)⟩
 ·have e1:K.scope=sc:=by refine he.symm▸?_;rfl
  have e2:K.globals=I3:=by refine he.symm▸?_;rfl
  have e3:K.builtins=K1:=by refine he.symm▸?_;rfl
  have e4:K.cells=LV (K.locals+1) sc.names []:=by refine he.symm▸?_;rfl
  have I:=du.vD (w:=w) b e1 D.kind e2 e3 e4 D.once D.names (.cons jj (.cons rp .nil)) (by simp[fw,afR,cp]) rfl T x;refine gQ I.base.nolimit (Ni ?_);have pe:jf K:=⟨by exact e1.symm▸D.gen,by exact e1.symm▸D.co,e3,e2⟩;have GH:K.kindOf (HA "plots")=hb .local:=by unfold KG;exact e1.symm▸wB
  obtain u0:Oc K.kindOf ((["self","plots"]:Hn HP).zip [.ref a,.ref p]) (λ_=>Hu) (HA "plots")=hb (.ref p):=(lD (c:=λ_=>Hu) D.names (show((["self","plots"]:Hn HP).zip [NT a,.ref p]).lookup (HA "plots")=hb (.ref p)from by kernel_rfl)).1 GH;refine M8 (Oh (MJ (Lo I.kind GH x.toInCall.ns u0 ?_) (by decide)) rfl);refine I.adW (d':=d9 C [(HA "plots",p)] []) (bs:=[]) KC (by decide) (aD _) (by exact e1.symm▸D.vars _ (.head _)) (by rw[eW];exact H5 rfl) (λ_ q=>nomatch q) I9 ?_ rfl (λa' as rt=>?_) λO' aN gN Dd=>?_
  ·exact wK (k:=.list _) (wL rfl (wS rfl (wS (wL rfl (wS (show wf (.str (HA "plots"))=Hq by decide +kernel) rfl)) rfl))) rfl
  ·clear yD cp rp rO GW i b wB KC bs mC E u0 GH I e4 e3 hJ yg T jj nd yf u5 yh yq qb ng r9 p6 hp hd ho args fo he e2 x;obtain⟨a'',dx',rs,gs,vs,mm,iu,e0,ex,rfl,_,i',q,e,nn,rr⟩:=rt.ke (eU C [] []);clear fd rt;cases e0;refine ew (qn ex) λo1 o2=>?_;subst o1;subst o2;clear ex;refine ew rr.nil_inv λo1 o2=>?_;subst o1;subst o2;exact i45 dx' mm ([]) ([]) rfl i' nn (by decide) (λh' i'' keep p7 gq=>RD.inst (rs:=[(HA "plots",p)]) (fs:=[]) (vs:=[]) i'' (λq' vn=>by exact(HB.mp vn).symm▸H5 rfl) rfl (λz hz=>by
    by_cases ez:z=HA "plots"
    ·rw[ez];exact .head _
    ·rw[Ir ez]at hz;exact IG (nn z hz) Ia) .nil)
  ·refine aQ (R (((nL ["self","plots"] [d9 C [] [],nZ]).set "self" (.own (.tree (hb a) (d9 C [] [])))).set "self" (.own (.tree (hb a) (d9 C [(HA "plots",p)] [])))) (by rw[eW];exact H5 rfl)) λft q1 q2=>h e1 (hA.deeper pe) gN q1 ?_;intro aqy dN J apq;refine Cm (J.tq q2 (by exact e1.symm▸D.vars _ (.head _))) λeS r1 r2 r3 r4=>?_;exact hQ eS dN J.same (λc o e q=>J.keep c o e q) r1 r2 r3 r4
noncomputable def Dw:js:=⟨.list [],0,.list [],.dict [],[],[]⟩
def newD(C p:Hv):Ho:=d9 C [(HA "plots",p)] [(HA "told",.list []),(HA "opened",.int 0),(HA "given",.list []),(HA "standing",.dict []),(HA "held",.dict [])]
theorem RD.air{V:Hv}(r:RD Y w Hz h (.ref a) (newD C p) as)(nd:as.Nodup):∃eS,RD Y w Hz h (.ref a) (aE C V p Dw) eS/\eS.Nodup/\∀c∈eS,c∈as:=by
 obtain⟨a',dx,rs,gs,vs,m,bs,e0,ex,rfl,_,i,q,e,nn,rr⟩:=r.ke (eU C _ _);clear r;cases e0;refine ew (qn ex) λo1 o2=>?_;subst o1;subst o2;obtain H:=rr.yx;clear rr;induction H with|mk v1 vs b1 c1 r1 EC=>?_
 have H:=EC.yx;clear EC;induction H with|mk v2 vs b2 c2 r2 EN=>?_
 have H:=EN.yx;clear EN;induction H with|mk v3 vs b3 c3 r3 rr3=>?_
 have H:=rr3.yx;clear rr3;induction H with|mk v4 vs b4 c4 r4 rr4=>?_
 have H:=rr4.yx;clear rr4;induction H with|mk v5 vs b5 c5 r5 rr5=>?_
 clear c4 c3 c2 c1 bs;refine ew rr5.nil_inv λo1 o2=>?_;subst o1;subst o2;refine ew (IP e) λ(m1:m (HA "told")=hb v1) e=>ew (IP e) λ(m2:m (HA "opened")=hb v2) e=>ew (IP e) λ(m3:m (HA "given")=hb v3) e=>ew (IP e) λ(m4:m (HA "standing")=hb v4) e=>?_;obtain m5:=(IP e).1;clear rr5 vs;induction r2.dS with|mk t2=>?_
 clear v2 vs;obtain rfl:=r2.bT rfl;clear r2 vs;refine e47 (r5.ahe rfl) λhd ks B b5' o1 o2 ex q1 q2 q3 q4=>?_;subst o1;subst o2;obtain s6:B=[]:=by induction B with|nil=>rfl|cons x B=>cases ex
 clear r5 vs ex;subst s6;obtain hks:ks=[]:=by induction ks with|nil=>rfl|cons x B=>cases q3
 clear vs q3 ex;subst hks;cases q4;obtain st:bj Y w h a dx C V p hd [] Dw [v1,v3,v4] m []:=by
  refine⟨i,m5,⟨t2,m2⟩,q _ (.head _),?_,?_,q1,q2,rfl,rfl,λ_ q=>(nomatch q),rfl,λj b db x y e=>no e⟩
  ·refine m1.symm▸m3.symm▸m4.symm▸?_;rfl
  ·intro z hz;have:=nn z hz;simp only[HS,MX,Lj,KX,Hw,Ia,Kv]at this;clear V nn i hz e q q2 q1 m5 m4 m3 m2 m1;rcases this with rfl|rfl|rfl|rfl|rfl|rfl<;>decide
 refine rM _ (RD.store st (.cons r1 (.cons r3 (.cons r4 .nil)))) ?_ ?_
 ·simp only[bP,PL,KX,IA]at nd⊢;refine Nw ?_ nd;refine .cons _ (.cons _ ?_);rw[<-I6,<-I6,<-I6];exact List.perm_append_comm
 ·intro c hc;replace hc:c∈a::dx::hd::(b1++(b3++(b4++[]))):=hc;rw[IA]at hc;show c∈a::dx::(b1++(b3++(b4++[hd])));rcases Hw.mp hc with h|hc
  ·exact h▸.head _
  rcases Hw.mp hc with h|hc
  ·exact h▸.tail _ (.head _)
  refine .tail _ (.tail _ ?_);rcases Hw.mp hc with h|hc
  ·exact h▸Hx _ (Hx _ (Hx _ (.head _)))
  rcases HD.mp hc with h|hc
  ·exact HF _ h
  refine Hx _ ?_;rcases HD.mp hc with h|hc
  ·exact HF _ h
  exact Hx _ (HF _ hc)
noncomputable def pB(W:Hn Hv)(h:Iv):Iv:=⟨h.objs.mapIdx λi o=>if i∈W then{o with data:=.freed}else o,h.life⟩
theorem jX(W:Hn Hv)(h:Iv)(b:Hv):(pB W h).get? b=if b∈W then Hu else h.get? b:=by
 unfold Heap.get? pB;refine Array.getElem?_mapIdx.symm▸?_;cases e:h.objs[b]?with
 |none=>simp
 |some o=>
  by_cases hw:b∈W
  ·simp[hw]
  ·simp[hw]
theorem aeu{W:Hn Hv}:bA (pB W h) h:=λb o e=>by
 rw[jX]at e;split at e
 ·exact no e
 ·exact e
theorem adh:(∀{v x as},RD Y w Hz h v x as->(∀b o,h.get? b=hb o->(b∈as∨(j0 o/\b∉Hz))->h'.get? b=hb o)->RD Y w [] h' v x as)/\∀{vs B as},bH Y w Hz h vs B as->(∀b o,h.get? b=hb o->(b∈as∨(j0 o/\b∉Hz))->h'.get? b=hb o)->bH Y w [] h' vs B as:=
 RD.both (λ_=>.none) (λb _=>.bool b) (λi t _=>.int i t) (λi t _=>.str i t) (λa _ r k=>.list (k _ _ a (.inl (.head _))) (r λb o e q=>k b o e (q.imp (.tail _) id))) (λa z _ r k=>.tuple (k _ _ a (.inr ⟨⟨_,_,rfl⟩,z⟩)) (λq=>nomatch q) (r k))
  (λp g e _ r k=>.dict (by exact uB p λo es ep ho p=>Aw o es ep (k _ _ ho (.inl (.head _))) p) g e (r λb o e q=>k b o e (q.imp (.tail _) id)))
  (λi k=>.val (i.kept λc hc o e=>k c o e (.inl hc))) (λi _ r k=>.store (i.kept λc hc o e=>k c o e (.inl (HF _ hc))) (r λb o e q=>k b o e (q.imp (Hx _) id)))
  (λi p e n _ r k=>.inst (i.kept (λo eo=>k _ o eo (.inl (.head _))) (λo eo=>k _ o eo (.inl (.tail _ (.head _))))) p e n (r λb o e q=>k b o e (q.imp (λq=>.tail _ (.tail _ q)) id))) (λi k=>.num (i.kept λo e _ _=>k _ o e (.inl (.head _)))) (λ_=>.nil)
  (λ_ _ a r k=>.cons (a λb o e q=>k b o e (q.imp (HF _) id)) (r λb o e q=>k b o e (q.imp (Hx _) id)))
variable{aO:Iv}
theorem fg.back(aH:fg Y [] U U)(g:bA U aO)(b:fg Y Hz aO h):fg Y Hz U h:=by
 refine⟨λz hz=>⟨?_,(b.hide z hz).2⟩,aH.lim,aH.seer,aH.tree,aH.mods,g.trans b.grow⟩;cases e:U.get? z with
 |none=>rfl
 |some o=>have:=g _ _ e;exact no (((b.hide z hz).1).symm.trans this)
theorem fg.up(aH:fg Y [] U U)(g:bA U aO):fg Y [] aO aO:=by exact dz aH.mods λo ho=>⟨λ_ q=>(nomatch q),aH.lim.keeps g,aH.seer.keeps g,aH.tree,⟨o,g _ _ ho⟩,bA.refl _⟩
theorem bt.up(g:bA U aO)(h:bt U x v):bt aO x v:=by
 rcases h with⟨mg,R,hv⟩|⟨mg,mb,R,h0,qx,hv⟩
 ·exact .inl ⟨mg,R.keeps g,hv⟩
 ·exact .inr ⟨mg,mb,R.keeps g,h0,qx.keeps g,hv⟩
theorem BQ.up(g:bA U aO)(fq:BQ U):BQ aO:=⟨fq.len.up g,fq.isinstance.up g,fq.range.up g,fq.int.up g,fq.bool.up g,fq.str.up g,fq.list.up g,fq.tuple.up g⟩
theorem j7.up(g:bA U aO)(aU:j7 ns U C mC):j7 ns aO C mC:=by exact dz aU.here λN X=>⟨⟨N,X.keeps g⟩,aU.ga,aU.gh,aU.sa,aU.attrs,aU.obj⟩
theorem jq.up(g:bA U aO)(D:jq U jo sc ps body):jq aO jo sc ps body:=by obtain⟨fo,fd,args,h1,h2,h3,h4,h5,h6,h7,h8,h9,h10,h11⟩:=D.there;exact⟨⟨fo,fd,args,g _ _ h1,h2,h3,h4,h5,h6,h7,h8,h9,h10,h11.keeps g⟩,D.kind,D.gen,D.co,D.once,D.names,D.vars⟩
theorem MethAt.up(g:bA U aO)(D:MethAt U C y sc ps body):MethAt aO C y sc ps body:=by exact DJ D λmC f fo fd r h1 h2 h3 h4 h5 h6 h7=>Fe mC f fo fd r (h1.up g) h2 (g _ _ h3) h4 h5 h6 (h7.up g)
section
variable{X C:Hn Hv}
theorem du.back(aH:fg Y [] U U)(g:bA U aO)(I:du Y w Hz aO ae X K C L O s):du Y w Hz U ae X K C L O s:=by
 refine⟨⟨I.same,aH.back g I.base,I.keep,I.alive,I.cO,λa ha=>⟨?_,(I.bZ a ha).2⟩,I.b9,I.kind,I.glob,I.jA,I.rU,I.ns,I.cell⟩,I.fc,I.l9,I.il⟩;cases e:U.get? a with
 |none=>rfl
 |some o=>have:=g _ _ e;exact no (((I.bZ a ha).1).symm.trans this)
theorem Ends.up(aH:fg Y [] U U)(g:bA U aO){r:Out}{Q:Flow->HM->Prop}(h:Ends Y w Hz U ae X K C O s r Q):Ends Y w Hz aO ae X K C O s r Q:=by
 induction r with
 |next L=>exactλuX jR I t=>h uX jR (I.back aH g) t
 |brk L=>exactλuX jR I t=>h uX jR (I.back aH g) t
 |cont L=>exactλuX jR I t=>h uX jR (I.back aH g) t
 |ret x=>exactλu as O' L s' I r c f=>h u as O' L s' (I.back aH g) r c f
 |fR x L=>exactλu O' s' I r c=>h u O' s' (I.back aH g) r c
theorem du.rebase(I:du Y w Hz U ae X K C L O s):du Y w Hz (pB (WW K C O++Hz) s.heap) ae X K C L O s/\bA U (pB (WW K C O++Hz) s.heap):=by
 have g:bA U (pB (WW K C O++Hz) s.heap):=λb o e=>by
  rw[jX,Ir]
  ·exact I.base.grow b o e
  ·intro q;rcases HD.mp q with q|q
   ·exact no (((I.bZ b q).1).symm.trans e)
   ·exact no (((I.base.hide b q).1).symm.trans e)
 refine⟨⟨⟨I.same,?_,I.keep,I.alive,I.cO,λa ha=>⟨?_,(I.bZ a ha).2⟩,I.b9,I.kind,I.glob,I.jA,I.rU,I.ns,I.cell⟩,I.fc,I.l9,I.il⟩,g⟩
 ·refine dz I.base.mods λo ho=>⟨λz hz=>⟨?_,(I.base.hide z hz).2⟩,I.base.lim.keeps g,I.base.seer.keeps g,I.base.tree,⟨o,g _ _ ho⟩,aeu⟩;rw[jX];exact(H5 (Hx _ hz))
 ·rw[jX];exact(H5 (HF _ ha))
end
def an4(Y:IB)(w:Ja)(U:Iv)(n:HG)(sc:IH)(rest:Hn IM)(C Va:Hv)(x:HP)(z:Ho)(ps:Hn Ho)(L:ar):Prop:=
 ∀(aO:Iv)(p:Hv),bA U aO->fg Y [] aO aO->qW Y w aO p ps->∃m',St Y w aO n sc rest m'/\run m' (L.set x (.own (.tree Hu (aE C Va p Dw))))=hb (.ret z)
open Classical in
def Bg(Y:IB)(w:Ja)(U:Iv)(n:HG)(sc:IH)(rest:Hn IM)(C Va:Hv)(x:HP)(z:Ho)(m:ar->Hp V):ar->Hp Out:=λL=>(m L).bind λv=>(listOfD v.x).bind λps=>if v.fl≠.t/\b7 ps=Hq/\an4 Y w U n sc rest C Va x z ps L then hb (.ret z)else Hu
variable{m:ar->Hp V}
theorem agi{ps:Hn Ho}(h1:m L=hb ⟨.list ps,fl⟩)(h2:fl≠.t)(h3:b7 ps=Hq)(h4:an4 Y w U n sc rest C Va x z ps L):run (Bg Y w U n sc rest C Va x z m) L=hb (.ret z):=by refine bI h1 ?_;(exact(H5 ⟨h2,h3,h4⟩))
structure abe(Y:IB)(w:Ja)(U:Iv)(k:HG)(C:Hv):Prop where
 there:∃mC fI oI CI p1 p2 p3 p4 s3 mI,j7 aG U C mC/\mC "__init__"=hb (.ref fI)/\U.get? fI=hb oI/\oI.cls=.type "function"/\
  jq U fI CI ["self","plots"] (.Assign [.Attribute (.Name (HA "self") p1) (HA "plots") p2] (.Name (HA "plots") p3) p4::s3)/\CI.names.lookup (HA "plots")=hb .local/\St Y w U k CI s3 mI/\
  ∀(a p:Hv)(L:ar),L "self"=hb (.own (.tree (hb a) (d9 C [(HA "plots",p)] [])))->∃ft,mI L=hb (.next ft)/\ft "self"=hb (.own (.tree (hb a) (newD C p)))
theorem St.af4{np cp pos:J3}(z:Ho)(aH:fg Y [] U U)(M:abe Y w U k C)(hg:bt U "Store" (.ref C))(h:Ev Y w U n sc e m)(hk:k+2<=n)(hv:aA sc x=Hq)(hx:aY sc "Store"=Hq)
  (he:∀K:Ke,Ie [e] K=(HH,Jf e K)::Ie [] K)(iS:∀K:Ke,K.scope=sc->JU (.Call (.Name (HA "Store") np) [e] [] cp) (hb (.Name x nh)) pos.line K=pure HH):
  St Y w U n sc (.Assign [.Name x nh] (.Call (.Name (HA "Store") np) [e] [] cp) pos::rest) (Bg Y w U n sc rest C Va x z m):=by
 intro A Hz K ae X C' L O s r Q E hs hA I;refine ak λv k9=>ak λps xo R hQ=>?_;split at R
 ·rename_i hc;refine xg hc λym Eu hG=>?_;cases R;obtain⟨mC,fI,oI,CI,p1,p2,p3,p4,s3,mI,KC,hi,vq,wy,D,wB,FH,FW⟩:=M.there;refine dz KC.here λN XC=>M8 (Kk ?_ (iS K hs));refine Ht (dh I.toInF (by exact hs.symm▸hx) hg (PyProof.Rows.callWith_cls XC ?_ (he K) rfl));refine(he K).symm▸Ly (h hs hA I.toInF k9 λu ay ah aL=>LB ⟨(I.grow ah).base.grow,?_⟩);obtain⟨as,rd,cw,fo⟩:=aL;rw[cT xo]at rd cw;clear iS he hx hg M pos cp np XC N xo k9;induction rd.listI with|mk nh us kk bs a1 a2=>?_
  obtain hfW:∀c∈nh::bs,c∉WW K C' O:=by
   clear as u E;cases hf:v.fl with
   |d=>rw[hf]at fo;exactλc hc=>(fo c hc).2
   |s=>rw[hf]at fo;exact fo
   |t=>exact IG hf ym
  clear fo as u ym;obtain rfl:=a2.bT Eu;have gU:=I.grow ah;refine abE KC hi vq wy gU.base.grow λh' a dx g ha yF i=>?_;obtain nb:∀c,ay.heap.get? c=Hu->U.get? c=Hu:=λc hc=>by
   clear wy vq hi oI Eu E;cases e:U.get? c with
   |none=>rfl
   |some o=>have:=gU.base.grow _ _ e;exact no (hc.symm.trans this)
  refine acW (A:=A.under _) (s:={ay with heap:=h'}) KC D wB FH (FW a nh) (Room.under (hA.toRoom.mono hk)) (gU.base.trans g) i (nb a ha) (nb dx yF) (rd.grow g) cw (λc hc=>?_) λeS aN sm kp xu xA zO xk=>?_
  ·exact dz (rd.alive c hc) λo eo=>gQ (λq=>(by rw[q,ha]at eo;exact no eo)) (λq=>(by rw[q,yF]at eo;exact no eo))
  ·refine gQ rfl<|kK (xu.air (V:=Va) xA) λu6 Ao aoS ue=>?_;have new:∀c∈[a,dx],ay.heap.get? c=Hu:=λc hc=>by
    exact Cn c hc ha yF
   have Al:∀c∈u6,ay.heap.get? c=Hu:=λc hc=>by
    rcases xk c (ue c hc)with q|q
    ·exact new c q
    ·clear hk nb FW FH wB D wy vq hi KC mI s3 p4 p3 p2 p1 CI oI fI mC ue xk zO xA xu eS i yF ha Eu E;cases e:ay.heap.get? c with
     |none=>rfl
     |some o=>have q:=q;exact no (q.symm.trans (g c o e))
   have aI:I8 ay aN:=by clear hk nb FW FH wB D wy vq hi KC mI s3 p4 p3 p2 p1 CI oI fI mC ue xk zO xA xu eS i yF ha Eu E;refine pQ sm λqv tk o1=>?_;subst o1;exact Ca qv tk rfl (λc o e=>kp c o (g c o e) λq=>no ((new c q).symm.trans e))
   obtain fr:∀c∈u6,s.heap.get? c=Hu:=λc hc=>by
    clear hk new nb FW FH wB D wy vq hi KC mI s3 p4 p3 p2 p1 CI oI fI mC ue xk zO xA xu kp sm eS i yF ha g dx h' Eu E;cases e:s.heap.get? c with
    |none=>rfl
    |some o=>have:=ag ah _ _ e;exact no ((Al c hc).symm.trans this)
   obtain wfS:wf (aE C Va nh Dw)=Hq:=by rw[j5];exact Er (by decide) (by decide) (by decide) (by decide) (by decide)
   refine I.ahq (ab ah aI) (by exact hs.symm▸hv) Ao aoS wfS rfl fr λdN qa apq C9=>ew qa.rebase λJ gJ=>?_;have Ey:∀c,c∈WW K C' ((x,u6)::O)->c∈u6∨c∈WW K C' O:=λc hq=>by
    simp only[WW,IF,Hw,HD]at hq⊢;rcases hq with h|h|h|h
    ·exact .inr (.inl h)
    ·exact .inr (.inr (.inl h))
    ·exact .inl h
    ·exact .inr (.inr (.inr h))
   obtain pW:nh∉WW K C' ((x,u6)::O):=λq=>by
    refine dz (rd.alive nh (.head _)) λo eo=>?_;rcases Ey nh q with h|h
    ·exact no ((Al nh h).symm.trans eo)
    ·exact hfW nh (.head _) h
   obtain pH:nh∉Hz:=λq=>by
    obtain⟨_,o,eo,t⟩:=gU.base.hide nh q;rw[a1]at eo;have e:=si eo;subst e;clear eo;exact bw _ _ t
   have up:∀c o,ay.heap.get? c=hb o->c∉WW K C' ((x,u6)::O)->c∉Hz->(pB (WW K C' ((x,u6)::O)++Hz) dN.heap).get? c=hb o:=λc o e h1 h2=>by
    rw[jX];refine iF (λq=>(HD.mp q).elim h1 h2) ?_;exact C9.keep c o (ag aI c o e) h1
   have hL:qW Y w (pB (WW K C' ((x,u6)::O)++Hz) dN.heap) nh ps:=by
    refine mD us kk (up nh _ a1 pW pH) (adh.2 a2 λc o e q=>?_) cw;rcases q with q|⟨q1,q2⟩
    ·exact nomatch q
    ·refine up c o e (λhq=>?_) q2;rcases Ey c hq with h|h
     ·exact no ((Al c h).symm.trans e)
     ·refine aQ (gU.cO c h) λo' e' nt=>?_;rw[e]at e';have e:=si e';subst e;clear e';exact nt q1
   exact aQ (hG _ nh gJ (aH.up gJ) hL) λm' ap6 qx=>ap6 hs hA J (show m' _=_ from qx) (Ends.up aH gJ (Ends.trans apq hQ))
 ·exact no R
noncomputable def mx:Hp (HG×Pk)->HE
 |none=>.none
 |some (a,t)=>.int a t
noncomputable def q9(p:Hp (HG×Pk)):Hp HI:=p.map λq=>(q.1:HI)
noncomputable def pA(p:Hp (HG×Pk))(n:HG):HG:=min ((p.map (·.1)).getD 0) n
noncomputable def uh(p:Hp (HG×Pk))(n:HG):HG:=min ((p.map (·.1)).getD n) n
theorem acE(a b:Hp (HG×Pk))(n:HG):Nt (q9 a) (q9 b) 1 ((n:HG):HI)=(((pA a n:HG):HI),((uh b n:HG):HI)):=by
 unfold Nt;cases a with
 |none=>
  cases b with
  |none=>simp[q9,pA,uh]
  |some b=>have h2:¬((b.1:HI)<0):=Kq.mpr (H3 _);simp only[q9,Lr,PF,show¬((1:HI)<0) by decide,h2,K8,pA,uh,LW,MF];refine(show min (b.1:HI) (n:HI)=((min b.1 n:HG):HI) by exact th _ _).symm▸?_;rfl
 |some a=>
  have h1:¬((a.1:HI)<0):=Kq.mpr (H3 _);cases b with
  |none=>simp only[q9,Lr,PF,show¬((1:HI)<0) by decide,h1,K8,pA,uh,LW,MF];refine(show min (a.1:HI) (n:HI)=((min a.1 n:HG):HI) by exact th _ _).symm▸?_;simp
  |some b=>have h2:¬((b.1:HI)<0):=Kq.mpr (H3 _);simp only[q9,Lr,show¬((1:HI)<0) by decide,h1,h2,K8,pA,uh,LW];(refine(show min (a.1:HI) (n:HI)=((min a.1 n:HG):HI) by exact th _ _).symm▸?_;exact(show min (b.1:HI) (n:HI)=((min b.1 n:HG):HI) by exact th _ _).symm▸rfl)
theorem aae{Q:Hp HI->HM->Prop}{p:Hp (HG×Pk)}(h:Q (q9 p) s):wpAny (Iq Y w) A (QT (mx p)) Q E s:=by
 cases p with
 |none=>exact PyProof.Rows.slicePart_none h
 |some p=>exact PyProof.Rows.slicePart_int h
theorem aaj{a b:Hp (HG×Pk)}(ht:PyProof.Rows.IsTup s.heap t vs.toArray)(hs:s.heap.IsSliceOf sl (mx a) (mx b) .none)
  (h0:pA a vs.length=0->uh b vs.length=vs.length->Q (.ref t) s)
  (h:Q (.ref s.heap.objs.size) {s with heap:=s.heap.push {cls:=.type "tuple",data:=.seq ((vs.take (uh b vs.length)).drop (pA a vs.length)).toArray}})
  (n8:vs.length<=sizeLine):wpAny (Iq Y w) A (L2 (.ref t) (.ref sl)) Q E s:=by
 obtain xx:sizeOk (.seq ((vs.take (uh b vs.length)).drop (pA a vs.length)).toArray):=by show((vs.take (uh b vs.length)).drop (pA a vs.length)).toArray.size<=sizeLine;refine Jd.symm▸Li.symm▸J9.symm▸?_;exact Hs (M1 _ _) (Hs (I7 _ _) n8)
 refine kK (id hs) λos Bq GO De=>?_;obtain FT:s.TypeIs (.ref sl) "slice":=⟨os,Bq,GO⟩;unfold L2
 try with_reducible refine KR ?_
 first|refine Ht (HV ?_)|skip
 refine Ht (Od ht.typeIs (by decide) (Ht (JV (name:=HA "__getitem__") ht.typeIs PyProof.Rows.slot_tuple_getitem
  (KU PyProof.Rows.slot_tuple_getitem ht.typeIs PyProof.Rows.entry_tuple_getitem ?_ (PyProof.Rows.args_tuple_getitem _ _)))))
 show wpAny _ _ (QU (.ref t)>>=_) _ _ s;refine Ht (PyProof.Rows.tupleItemsOf_ ht (Ht (L7 FT (wI (by decide) ?_))));obtain aqh:∀{Q:HI×HI×HG->HM->Prop},Q (((pA a vs.length:HG):HI),1,uh b vs.length-pA a vs.length) s->wpAny (Iq Y w) A.in1 (QV (.ref sl) (pure ((vs.toArray.size:HG):HI))) Q E s:=by intro Q h;refine Ht (Ht (Jx Bq De (x:=mx a) rfl (Ht (Jx Bq De (x:=mx b) rfl (Ht (Jx Bq De (x:=.none) rfl (HV (Ht (PyProof.Rows.slicePart_none (wN (by decide)<|Ht (aae (Ht (aae (Ht (HV ((acE a b _).symm▸?_))))))))))))))));show wpAny _ _ (pure (((pA a vs.length:HG):HI),(1:HI),L6 ((pA a vs.length:HG):HI) ((uh b vs.length:HG):HI) 1)) _ _ s;exact(acH _ _).symm▸HV h
 refine Ht (aqh ?_);by_cases hw:(((pA a vs.length:HG):HI)==0&&(1:HI)==1&&(uh b vs.length-pA a vs.length)==vs.toArray.size)=Hq
 ·refine wI hw ?_;simp only[HU,KA,Jd]at hw;obtain hl:=J7 hw.1.1;obtain hh:=(HL (_-·) (Int.ofNat_eq_zero.mp hw.1.1)).symm.trans hw.2
  first
   |exact HV ⟨_,rfl,HV (h0 hl hh)⟩
   |exact Ht (HV (HV ⟨_,rfl,HV (h0 hl hh)⟩))
   |(refine Ht ?_
     exact Ht (L7 ht.typeIs (HV (wI (by decide) (Ht (Nj (HV ⟨_,rfl,HV (h0 hl hh)⟩)))))))
 ·obtain aoU:((H0 (uh b vs.length-pA a vs.length)).filterMap λ(k:HG)=>vs.toArray[(((pA a vs.length:HG):HI)+(k:HI)*1).toNat]?).toArray=((vs.take (uh b vs.length)).drop (pA a vs.length)).toArray:=by
   obtain e:(λ(k:HG)=>vs.toArray[(((pA a vs.length:HG):HI)+(k:HI)*1).toNat]?)=(λi=>vs[i]?)∘λk=>pA a vs.length+k:=by funext k;have:(((pA a vs.length:HG):HI)+(k:HI)*1).toNat=pA a vs.length+k:=(Ma _ _ _).symm;refine this.symm▸?_;simp
   exact e.symm▸Pq▸(iZ vs (pA a vs.length) (uh b vs.length) (by exact I7 _ _)).symm▸rfl
  refine wN hw ?_;rw[aoU]
  first
   |exact Ht (m:=K4 _) (KL (HV ⟨_,rfl,HV h⟩) xx)
   |exact Ht (m:=K4 _) (KL (Ht (HV (HV ⟨_,rfl,HV h⟩))) xx)
   |exact Ht (Ht (m:=K4 _) (KL (HV (HV ⟨_,rfl,HV h⟩)) xx))
   |exact Ht (Ht (m:=K4 _) (KL (HV ⟨_,rfl,HV h⟩) xx))
noncomputable def tc(lo hi:Hp HI)(a:V):Hp V:=match a.x with
 |.tuple B=>if 0<=lo.getD 0/\0<=hi.getD 0 then hb (V.fix (.tuple ((B.take (min (hi.getD B.length).toNat B.length)).drop (min (lo.getD 0).toNat B.length))) a.fl)else Hu
 |_=>Hu
theorem abr{lo hi:Hp HI}(h:tc lo hi sY=hb fb):∃B,sY.x=.tuple B/\0<=lo.getD 0/\0<=hi.getD 0/\fb=V.fix (.tuple ((B.take (min (hi.getD B.length).toNat B.length)).drop (min (lo.getD 0).toNat B.length))) sY.fl:=by
 obtain⟨ax,af⟩:=sY;cases ax with
 |tuple B=>
  change(if 0<=lo.getD 0/\0<=hi.getD 0 then hb (V.fix (.tuple ((B.take (min (hi.getD B.length).toNat B.length)).drop (min (lo.getD 0).toNat B.length))) af)else Hu)=hb fb at h;split at h
  ·rename_i hc;exact DO B rfl hc.1 hc.2 ((H4 h).symm)
  ·exact no h
 |_=>exact no h
theorem abU{p:Hp (HI×Pk)}{l:Hp HI}(h:p.map (·.1)=l)(h0:0<=l.getD 0):∃q:Hp (HG×Pk),KH p=mx q/\q.map (·.1)=l.map (·.toNat):=by
 subst h;cases p with
 |none=>exact i12 Hu rfl rfl
 |some p=>
  obtain⟨i,hi⟩:=MT (show 0<=p.1 from h0);refine i12 (hb (i,p.2)) ?_ ?_
  ·exact Kx (HL _ hi) _
  ·simp[hi]
theorem Ev.alL{lo hi:Hp HR}{pos:J3}{m:ar->Hp V}{ml mh:ar->Hp (Hp HI)}(h:Ev Y w U n sc e m)(hl:Pt Y w U n sc lo ml)(hh:Pt Y w U n sc hi mh)
  (gy:∀o j,∃jw,Lp (.Slice lo hi Hu nh) HH o j=Nh jw (L2 o j)):
  Ev Y w U n sc (.Subscript e (.Slice lo hi Hu nh) pos) (λL=>do let a<-m L;let l<-ml L;let u<-mh L;tc l u a):=by
 intro A Hz K ae X C L O s v Q E hs hA I;refine ak λa ha=>ak λl zX=>ak λu DS R hQ=>Cm (abr R) λB e1 hi1 hij o1=>?_;subst o1;refine PyProof.Rows.Subscript_ (h hs hA I ha λAd ay ah aL=>PW (hl hs hA (I.grow ah) zX λyr aN aI uU=>hh hs hA ((I.grow ah).grow aI) DS λyl dN dO wt=>Pt.no hs hA (((I.grow ah).grow aI).grow dO) rfl λAb jP yo Bv=>aQ (abU uU hi1) λq2 z2 y2=>aQ (abU wt hij) λq3 z3 y3=>?_));clear pos hij hi1 hA hs;cases Ab with
 |some Ab=>cases Bv
 |none=>
 refine z2.symm▸z3.symm▸?_;have kk:=ab ah (ab aI (ab dO (ab yo (bE jP {cls:=.type "slice",data:=.fields #[mx q2,mx q3,.none]}))));obtain kk':=ab aI (ab dO (ab yo (bE jP {cls:=.type "slice",data:=.fields #[mx q2,mx q3,.none]})));refine dz (gy Ad (.ref jP.heap.objs.size)) λjw e=>?_;obtain⟨as,ra,ca,oa⟩:=aL.grow (ag kk');clear ah aI dO yo kk' uU wt Bv zX DS ha R aL hl hh h gy;rw[e1]at ra ca;clear mh ml m z3 z2 dN yl aN yr ay e1;induction ra.tupI with|mk ad vs kd a1 az a2=>?_
 have FU:=a2.length;have l1:pA q2 vs.length=min (l.getD 0).toNat B.length:=by unfold pA;refine y2.symm▸FU.symm▸?_;clear y2 Ad E A;cases l<;>rfl
 have l2:uh q3 vs.length=min (u.getD B.length).toNat B.length:=by unfold uh;refine y3.symm▸FU.symm▸?_;clear y3 y2 Ad E A;cases u<;>rfl
 refine PyProof.Rows.tail_any (T:="tuple") ⟨_,a1,rfl⟩ PyProof.Rows.slot_tuple_getitem.lookup (aaj (vs:=vs) (a:=q2) (b:=q3) ⟨_,a1,rfl,_,rfl⟩ ⟨_,H7 _ rfl,rfl,rfl⟩ (λh1 h2=>?_) ?_ (by exact FU.symm▸(dk.mp ca).1)) e
 ·rw[l1]at h1;rw[l2,FU]at h2;refine hQ _ _ kk ?_;refine h1.symm▸h2.symm▸JD.symm▸Oi.symm▸?_;exact dK.fixed ra ca oa
 ·refine aQ (a2.slice (pA q2 vs.length) (uh q3 vs.length)) λbs q hq=>?_;rw[l1,l2]at q⊢;exact hQ _ _ (ab kk (bE _ _)) ((I.grow kk).aoy q (aft ca) (oa.mono hq))
def xT(Y:IB)(w:Ja)(U:Iv)(n:HG)(sc:IH)(op:L1)(es:Hn HR)(m:ar->Hp V):Prop:=
 ∀{{A:Jh}} {{Hz:Hn Hv}} {{K:Ke}} {{ae:HM}} {{X C:Hn Hv}} {{L:ar}} {{O:Hn (HP×Hn Hv)}} {{s:HM}} {{v:V}} {{pos:J3}} {{Q:HE->HM->Prop}} {{E:HE->HM->Prop}},
  K.scope=sc->ey A n->InF Y w Hz U ae X K C L O s->m L=hb v->(∀u s',I8 s s'->dK Y w Hz ae.heap (WW K C O) s'.heap u v->Q u s')->wpAny (Iq Y w) A (boolOp pos op (Rq es K)) Q E s
theorem xT.one(h:Ev Y w U n sc e m):xT Y w U n sc op [e] m:=by intro A Hz K ae X C L O s v pos Q E hs hA I R hQ;exact h hs hA I R hQ
variable{es:Hn HR}
set_option backward.match.sparseCases true in
theorem xT.and{e':HR}{m':ar->Hp V}(h:Ev Y w U n sc e m)(h':xT Y w U n sc .And (e'::es) m'):xT Y w U n sc .And (e::e'::es) (λL=>do let a<-m L;let b<-gY a.x;if b then m' L else hb a):=by
 intro A Hz K ae X C L O s v pos Q E hs hA I;refine ak λa ha=>ak λb aO R hQ=>?_;show wpAny _ A (do
  let v<-Jf e K
  Pu pos
  let t<-Oa [v] (Qk v)
  match BoolOp.And,t with
  |.And,HH|.Or,Hq=>pure v
  |_,_=>boolOp pos .And (Rq (e'::es) K)) Q E s
 refine Ht (h hs hA I ha λu ay ah aL=>Ht (M4 (Ht (KR (nD aO aL λaN aI=>?_)))));clear h aO ha;cases b with
 |true=>exact h' hs hA ((I.grow ah).grow aI) R λu s' k r=>hQ u s' (ab ah (ab aI k)) r
 |false=>(have e:=si R;subst e;clear R);exact HV (hQ u aN (ab ah aI) (aL.grow (ag aI)))
set_option backward.match.sparseCases true in
theorem xT.or{e':HR}{m':ar->Hp V}(h:Ev Y w U n sc e m)(h':xT Y w U n sc .Or (e'::es) m'):xT Y w U n sc .Or (e::e'::es) (λL=>do let a<-m L;let b<-gY a.x;if b then hb a else m' L):=by
 intro A Hz K ae X C L O s v pos Q E hs hA I;refine ak λa ha=>ak λb aO R hQ=>?_;show wpAny _ A (do
  let v<-Jf e K
  Pu pos
  let t<-Oa [v] (Qk v)
  match BoolOp.Or,t with
  |.And,HH|.Or,Hq=>pure v
  |_,_=>boolOp pos .Or (Rq (e'::es) K)) Q E s
 refine Ht (h hs hA I ha λu ay ah aL=>Ht (M4 (Ht (KR (nD aO aL λaN aI=>?_)))));clear h aO ha;cases b with
 |false=>exact h' hs hA ((I.grow ah).grow aI) R λu s' k r=>hQ u s' (ab ah (ab aI k)) r
 |true=>(have e:=si R;subst e;clear R);exact HV (hQ u aN (ab ah aI) (aL.grow (ag aI)))
theorem Ev.bool(h:xT Y w U n sc op es m):Ev Y w U n sc (.BoolOp op es pos) m:=by intro A Hz K ae X C L O s v Q E hs hA I R hQ;exact h hs hA I R hQ
noncomputable def kg(B:Hn Ho):Hn Ho:=B.zipIdx.map λp=>.tuple [.int p.2,p.1]
theorem aa5{i:HG}(h:(kg B)[i]? =hb gc):∃y,B[i]? =hb y/\gc=.tuple [.int i,y]:=by
 unfold kg at h;rw[Iz,OZ]at h;cases e:B[i]?with
 |none=>rw[e]at h;exact no h
 |some y=>rw[e]at h;simp at h;exact i12 y rfl h.symm
theorem aaZ(B:Hn Ho):(kg B).length=B.length:=by simp[kg]
theorem Stream.enum(hh:A.handled=Hu){e8:Hn HR}{k:HG}{pos:J3}(Hl:C5≠it)(hle:l≠C5)(Hi:l≠it)(B:Hn Ho)(F:Hn Hv):
  Stream Y w Hz A (.Tuple e8 k pos) C5 (l::F) [C5,it] [] (kg B) (λi h=>(∃old,IsEnum h C5 it i old)/\h.IsListIter it l i/\RD Y w Hz h (.ref l) (.list B) (l::F))where
 frame:=λi h h' W st off hF hw=>by
  refine xg st λo1 mH rl=>?_;obtain⟨old,he⟩:=o1;refine l6 ⟨old,off _ _ he (.inl (hw C5 (.head _)))⟩ ?_ (rl.off off hF);exact aQ mH λo ho r=>i12 o (off _ _ ho (.inl (hw it (.tail _ (.head _))))) r
 pV:=λ_ _ _ _ q=>nomatch q
 sub:=λ_ q=>nomatch q
 cQ:=λi h st b aO _=>by
  refine xg st λo1 o2 rl=>?_;obtain⟨old,he⟩:=o1;obtain⟨o,ho,hc,hd⟩:=o2;clear Hi hle pos k e8;rcases Hw.mp aO with rfl|aO
  ·exact zh _ _ _ he rfl rfl
  ·exact(HB.mp aO).symm▸zh o _ _ ho hd hc
 alive:=λi h st=>st.2.2.alive
 turn:=λi x s Q E hx st yA hQ=>by
  refine xg st λo1 mH rl=>?_;obtain⟨old,he⟩:=o1;clear Hi hle;refine aQ (aa5 hx) λy hy o1=>?_;subst o1;refine Ct rl.fM λo1 o2 o3 o4 q1 q2 a1 a2=>?_;cases q1;cases q2
  ·skip;refine j4 (a2.get hy) λv cs e1 e2 e3=>wpAny_pyNext_enum_item he mH ⟨_,a1,rfl,_,rfl⟩ (by simpa using e1) Hl λh' ho wz hT n8 hk=>wpAny_letOwnedTupleGo_enum ho λqv ER gy=>?_;have kp:∀b o,b∉[C5,it]->s.heap.get? b=hb o->qv.get? b=hb o:=λb o aO q=>by
    simp only[Hw,Ia,Kv,LR]at aO;exact(gy.2 b aO.1).trans (hk b o aO.1 aO.2 q)
   have aU:=fO.of (Hz:=Hz) (Zs:=[]) (wr:=[C5,it]) (λb aO _=>by
    clear pos k e8 hk n8 e1 hy;rcases Hw.mp aO with rfl|aO
    ·exact zh _ _ _ he rfl rfl
    ·exact(HB.mp aO).symm▸kK mH λo ho hc hd=>zh o _ _ ho hd hc) (λ_ q=>nomatch q) kp
   have hTe:=KT (II he);have GJ:s.heap.objs.size∉Hz:=λq=>by
    exact dz (yA _ q) λo eo=>IG (II eo) (JW _)
   obtain r2:bH Y w Hz qv [v] [y] (cs++[]):=.cons (e2.cQ aU) .nil;obtain r1:bH Y w Hz qv [.int i s.toks,v] [.int i,y] (cs++[]):=.cons (as:=[]) (.int _ _) r2;obtain rT:RD Y w Hz qv (.ref s.heap.objs.size) (.tuple [.int i,y]) (cs++[]):=.tuple (n:=0) ((gy.2 _ hTe).trans hT) GJ r1;refine hQ _ (cs++[]) qv (s.toks+1) rT (λa ha=>?_) ⟨⟨v,by simpa using ER⟩,?_,(RD.list a1 a2).cQ aU⟩ kp
   ·rw[IA]at ha;exact .tail _ (e3 a ha)
   ·exact wz.at λo q=>(gy.2 it (K9 Hl)).trans q
 done:=λs Q E st hQ=>by
  refine xg st λo1 mH rl=>?_;obtain⟨old,he⟩:=o1;refine Ct rl.fM λo1 o2 o3 o4 q1 q2 a1 a2=>?_;clear Hi hle Hl pos k e8 rl;cases q1;cases q2
  ·skip;rw[aaZ]at he mH;refine wpAny_pyNext_enum_end hh he mH ⟨_,a1,rfl,_,rfl⟩ (by simp[a2.length]) λh' hx=>hQ h' s.toks λb o aO q=>hx b o (λe'=>aO (by simp[e'])) q
 self:=λi s Q E st hQ=>by
  refine ew st λo1 o2=>?_;obtain⟨old,he⟩:=o1;exact QI he hQ
theorem aeP(h:fw B=Hq):fw (kg B)=Hq:=by rw[cN]at*;intro x hx;refine dz (Nf hx) λi hi=>?_;clear hx;refine aQ (aa5 hi) λy hy o1=>?_;subst o1;rw[dk];refine⟨(by decide:2<=sizeLine),?_⟩;simp[fw,wf,h y (Il hy)]
theorem It.enum{e8:Hn HR}(hg:bt U "enumerate" (.type "enumerate"))(h:Ev Y w U n sc e m)(hx:aY sc "enumerate"=Hq)(he:∀K,Ie [e] K=[(HH,Jf e K)]):
  It Y w U n sc (.Tuple e8 k aph) (.Call (.Name (HA "enumerate") np) [e] [] pos) (λL=>(m L).bind λv=>(listOfD v.x).map λB=>(kg B,v.fl)):=by
 refine⟨λ_ _=>rfl,?_⟩;intro A Hz K ae X C L O s v Q E hs hA I;refine ak λa ha R hQ=>?_;induction dI R with|mk B s6=>?_
 show wpAny _ _ (Jf (.Name (HA "enumerate") np) K>>=λf=>Lq pos f [] (J4 pos (Ie [e] K)) []) _ _ s;refine Ht (dh I (by exact hs.symm▸hx) hg (dY (U:=U) (.inr (.inl ⟨_,rfl⟩)) (by rw[he];rfl) (Kt (h hs hA I ha λu ay ah aL=>LM ⟨(I.grow ah).base.grow,?_⟩) (he K))));obtain⟨as,ra,ca,oa⟩:=aL;rw[cT s6]at ra ca;induction ra.listI with|mk l vs kk bs a1 a2=>?_
 rw[aV]at ca;obtain kl:=II a1;refine call_enumerate_list ⟨_,a1,rfl,_,rfl⟩ λh' g1 g2 g3 g4=>QI g1 ?_;have fresh:∀d,s.heap.get? (ay.heap.objs.size+d)=Hu:=λd=>by
  cases e:s.heap.get? (ay.heap.objs.size+d)with
  |none=>rfl
  |some o=>exact IG (II (ag ah _ _ e)) (JH.mpr (Ib _ _))
 refine hQ _ _ _ [] _ _ (ab ah ⟨h',ay.toks,rfl,g4⟩) (Stream.enum hA.handled (l:=l) (by simp) (Jq (LQ kl)) (Jq kl) B bs) ⟨⟨.none,g1⟩,g2,(RD.list a1 a2).grow g4⟩ oa (aeP ca.2) (by rw[aaZ];exact ca.1) λb aO=>?_;rcases Hw.mp aO with rfl|aO
 ·exact fresh 1
 ·exact(HB.mp aO).symm▸fresh 0
noncomputable def rj(B ys:Hn Ho):Hn Ho:=(B.zip ys).map λp=>.tuple [p.1,p.2]
theorem abI{i:HG}(h:(rj B ys)[i]? =hb gc):∃y z,B[i]? =hb y/\ys[i]? =hb z/\gc=.tuple [y,z]:=by unfold rj at h;rw[Iz]at h;obtain⟨⟨y,z⟩,h1⟩:=dI h;rw[List.getElem?_zip_eq_some]at h1;exact mD y z h1.1 h1.2 rfl
theorem abT(B ys:Hn Ho):(rj B ys).length=min B.length ys.length:=by simp[rj]
theorem abZ(hT:Lv h T sY yC):∃o,h.get? T=hb o/\j0 o:=⟨_,hT,[sY,yC],0,rfl⟩
theorem agm(h:fw B=Hq)(h':fw ys=Hq):fw (rj B ys)=Hq:=by rw[cN]at*;intro x hx;refine dz (Nf hx) λi hi=>?_;clear hx;refine j4 (abI hi) λy z hy hz o1=>?_;subst o1;rw[dk];refine⟨(by decide:2<=sizeLine),?_⟩;simp[fw,h y (Il hy),h' z (Il hz)]
theorem aav{C Va:Hv}(h:aE C Va p f=aE C Va p' f'):p=p'/\f=f':=by
 obtain e:=HL (gn C Va) h;rw[d0,d0]at e;have e:=H4 e;obtain e1:(p:HI)=p':=HL ND e;obtain e2:vA f=vA f':=HL NF e;obtain⟨a1,a2,a3,a4,a5,a6⟩:=f;obtain⟨b1,b2,b3,b4,b5,b6⟩:=f';unfold vA at e2;injection e2 with h1 e2;injection e2 with h2 e2;injection e2 with h3 e2;injection e2 with h4 e2;injection e2 with h5 e2;injection e2 with h6 e2;injection h2 with h2;injection h5 with h5;injection h6 with h6;obtain g5:=(Mt (λx y q=>by
  obtain⟨x1,x2⟩:=x;obtain⟨y1,y2⟩:=y;injection q with q;injection q with q1 q;injection q with q2 q;injection q1 with q1;injection q2 with q2;exact MN q1 (J7 q2))).mp h5
 obtain g6:=(Mt (λx y q=>by
  obtain⟨x1,x2⟩:=x;obtain⟨y1,y2⟩:=y;injection q with q;injection q with q1 q;injection q with q2 q;injection q1 with q1;injection q2 with q2;exact MN q1 q2)).mp h6
 clear h5 h6 h e e2;dsimp only at h1 h2 h3 h4 g5 g6;clear Va C e;subst h1 h2 h3 h4 g5 g6;exact⟨J7 e1,rfl⟩
open Classical in
def kF(C Va:Hv)(d:Ho):Hp (Hv×js):=if h:∃q:Hv×js,d=aE C Va q.1 q.2 then hb (OS h)else Hu
theorem kL{q:Hv×js}(h:kF C Va d=hb q):d=aE C Va q.1 q.2:=by
 unfold kF at h;split at h
 ·rename_i e;exact(H4 h)▸LJ e
 ·exact no h
theorem jG(C Va p:Hv)(f:js):kF C Va (aE C Va p f)=hb (p,f):=by obtain e:∃q:Hv×js,aE C Va p f=aE C Va q.1 q.2:=⟨(p,f),rfl⟩;unfold kF;exact(dif_pos e).trans<|ew (aav (LJ e)) λh1 h2=>HL hb (MN h1.symm h2.symm)
noncomputable def j9(l:Hn (HP×HG))(k:HP)(j:HG):Hn (HP×HG):=if l.any (λp=>decide (p.1=k))then l.map (λp=>if p.1=k then(p.1,j)else p)else l++[(k,j)]
noncomputable def je(l:Hn (HP×HG))(k:HP):Hp HG:=(l.find? λp=>decide (p.1=k)).map (·.2)
variable{φ:HG->HE}
theorem abH:∀{ks:Hn (HP×HE)}{l:Hn (HP×HG)},ks.map (·.1)=l.map (·.1)->ks.map (·.2)=l.map (λq=>φ q.2)->ks=l.map λq=>(q.1,φ q.2):=by
 intro ks;induction ks with
 |nil=>
  intro l h _;cases l with
  |nil=>rfl
  |cons=>exact nomatch h
 |cons a ks ih=>
  intro l h h';cases l with
  |nil=>exact nomatch h
  |cons b l=>injection h with h1 h2;injection h' with h3 h4;(refine HS.symm▸(ih h2 h4)▸?_);congr 1;exact MN h1 h3
theorem acT(l:Hn (HP×HG))(k:HP)(j:HG):ML (l.map λq=>(q.1,φ q.2)) k (φ j)=(j9 l k j).map λq=>(q.1,φ q.2):=by
 dsimp only[ML,j9];obtain e:(l.map λq=>(q.1,φ q.2)).any (λkv=>decide (kv.1=k))=l.any λp=>decide (p.1=k):=by refine List.any_map.trans ?_;rfl
 refine e.symm▸?_;split
 ·refine Ii.trans<|Ii.symm▸?_;refine J0 λq _=>?_;show(if q.1=k then(q.1,φ j)else(q.1,φ q.2))=((if q.1=k then(q.1,j)else q).1,φ (if q.1=k then(q.1,j)else q).2);split<;>rfl
 ·refine HJ.symm▸?_;rfl
theorem abR(l:Hn (HP×HG))(k:HP):K2 (l.map λq=>(q.1,φ q.2)) k=(je l k).map φ:=by dsimp only[K2,je];refine List.find?_map.symm▸?_;show((l.find? λp=>decide (p.1=k)).map _).map _=_;cases(l.find? λp=>decide (p.1=k))<;>rfl
variable{l:Hn (HP×HG)}{k:HP}{j:HG}
theorem aaS(h:je l k=hb j):∃q∈l,q.2=j:=by exact aQ (H6.mp h) λq h1 h2=>i12 q (List.mem_of_find?_eq_some h1) h2
theorem agX{q:HP×HG}(h:q∈j9 l k j):q∈l∨q.2=j:=by
 unfold j9 at h;split at h
 ·refine aQ (HX.mp h) λp hp o1=>?_;subst o1;split
  ·exact .inr rfl
  ·exact .inl hp
 ·rcases HD.mp h with h|h
  ·exact .inl h
  ·exact(HB.mp h).symm▸.inr rfl
variable{m:HP->Hp HE}{b db:Hv}{more:Hn (Hv×Hv)}
theorem bj.aiT{hd:Hv}(i:bj Y w h a dx C Va p hd aJ f vs m ks){mw:Hn (HI×HI)}
  (hj:(aJ++more)[j]? =hb (b,db))(kS:h'.DictOf (strKind Y w) hd (ML ks k (.ref b)))(hk:∀c∈bP a dx hd aJ,c≠hd->∀o,h.get? c=hb o->h'.get? c=hb o)(nd:(bP a dx hd aJ).Nodup)
  (a8:more.length=mw.length)(EZ:∀(i:HG)(b db:Hv)(x y:HI),more[i]? =hb (b,db)->mw[i]? =hb (x,y)->ik h' Va b db x y):
  bj Y w h' a dx C Va p hd (aJ++more) {f with held:=j9 f.held k j,aC:=f.aC++mw} vs m (ML ks k (.ref b)):=by
 simp only[bP,HZ,Hw,LR]at nd;obtain aoZ:∀q∈f.held,(PySem.Value.ref (aJ.getD q.2 (0,0)).1)=.ref ((aJ++more).getD q.2 (0,0)).1:=λq hq=>by
  refine JX.symm▸?_;refine JX.symm▸?_;exact(MC (i.bound q hq)).symm▸rfl
 obtain ek:=abH (φ:=λr=>.ref ((aJ++more).getD r (0,0)).1) i.keys (i.vals.trans (J0 aoZ));obtain es:ML ks k (.ref b)=(j9 f.held k j).map λq=>(q.1,PySem.Value.ref ((aJ++more).getD q.2 (0,0)).1):=by refine ek.symm▸Eq.trans ?_ (acT (φ:=λr=>.ref ((aJ++more).getD r (0,0)).1) f.held k j);show _=ML _ k (PySem.Value.ref ((aJ++more).getD j (0,0)).1);exact(show(aJ++more).getD j (0,0)=(b,db) by(refine JX.trans ?_;rw[hj]);rfl)▸rfl
 refine⟨i.obj.kept (hk a (.head _) nd.1.2.1) (hk dx (.tail _ (.head _)) nd.2.1.1),i.held,i.opened,i.kX,i.three,i.names,kS,i.mods,?_,?_,λq hq=>?_,?_,λr b' D6 x y e1 e2=>?_⟩
 ·refine es.symm▸Ii.symm▸?_;rfl
 ·refine es.symm▸Ii.symm▸?_;rfl
 ·rcases agX hq with q'|q'
  ·have:=i.bound q q';exact HN.symm▸Nat.lt_add_right _ this
  ·exact q'.symm▸((H2.mp hj).1)
 ·show(aJ++more).length=(f.aC++mw).length;exact HN.symm▸HN.symm▸i.len.symm▸a8.symm▸rfl
 ·by_cases hr:r<aJ.length
  ·rw[MC hr]at e1;rw[MC (by rw[<-i.len];exact hr)]at e2;refine(i.each r b' D6 x y e1 e2).kept λc hc=>?_;have R:c∈aJ.flatMap λq=>[q.1,q.2]:=IS.mpr ⟨_,Il e1,by simpa using hc⟩;exact hk c (by simp only[bP,Hw];exact .inr (.inr (.inr R))) (λq=>nd.2.2.1 (q▸R))
  ·rw[Ld (JQ hr)]at e1;rw[Ld (by rw[<-i.len];exact JQ hr),<-i.len]at e2;exact EZ _ _ _ _ _ e1 e2
theorem acz{c:Hv}:∀{i j:HG}{q r:Hv×Hv},(aJ.flatMap λq=>[q.1,q.2]).Nodup->aJ[i]? =hb q->aJ[j]? =hb r->i≠j->c∈[q.1,q.2]->c∉[r.1,r.2]:=by
 induction aJ with
 |nil=>intro _ _ _ _ _ h _ _ _;exact no h
 |cons z aJ bY=>
  intro i j q r nd hi hj hn hc;rw[IF,H8]at nd;cases i with
  |zero=>
   induction j with
   |zero=>exact IG rfl hn
   |succ j=>rw[LF]at hi;(have e:=si hi;subst e;clear hi);rw[MO]at hj;exactλh=>nd.2.2 c hc c (IS.mpr ⟨r,Il hj,h⟩) rfl
  |succ i=>
   rw[MO]at hi;induction j with
   |zero=>rw[LF]at hj;(have e:=si hj;subst e;clear hj);exactλh=>nd.2.2 c h c (IS.mpr ⟨q,Il hi,hc⟩) rfl
   |succ j=>rw[MO]at hj;exact bY nd.2.1 hi hj (λe=>hn (HL _ e)) hc
theorem bj.ad7{hd:Hv}(i:bj Y w h a dx C Va p hd aJ f vs m ks){x' y:HI}
  (hj:aJ[j]? =hb (b,db))(hv:ik h' Va b db x' y)(hk:∀c∈bP a dx hd aJ,c≠b->c≠db->∀o,h.get? c=hb o->h'.get? c=hb o)(nd:(bP a dx hd aJ).Nodup):
  bj Y w h' a dx C Va p hd aJ {f with aC:=f.aC.set j (x',y)} vs m ks:=by
 simp only[bP,HZ,Hw,LR]at nd;have m9:∀c,c=b∨c=db->c∈aJ.flatMap λq=>[q.1,q.2]:=λc hc=>IS.mpr ⟨_,Il hj,by simpa using hc⟩;have ka:∀c,c∈bP a dx hd aJ->c∉(aJ.flatMap λq=>[q.1,q.2])->∀o,h.get? c=hb o->h'.get? c=hb o:=λc hc hn=>hk c hc (λe=>hn (m9 c (.inl e))) (λe=>hn (m9 c (.inr e)));refine⟨i.obj.kept (ka a (.head _) nd.1.2.2) (ka dx (.tail _ (.head _)) nd.2.1.2),i.held,i.opened,i.kX,i.three,i.names,?_,i.mods,i.keys,i.vals,i.bound,?_,λr b' D6 x y' e1 e2=>?_⟩
 ·exact uB i.dict λo es ep ho q=>Aw o es ep (ka hd (.tail _ (.tail _ (.head _))) nd.2.2.1 o ho) q
 ·exact N6.symm▸i.len
 ·obtain e2:(f.aC.set j (x',y))[r]? =hb (x,y'):=e2;rw[NH]at e2;by_cases e:j=r
  ·subst e;rw[H5 rfl]at e2;split at e2
   ·rw[hj]at e1;cases e1;cases e2;exact hv
   ·exact no e2
  ·rw[Ir e]at e2;refine(i.each r b' D6 x y' e1 e2).kept λc hc=>?_;have R:c∈aJ.flatMap λq=>[q.1,q.2]:=IS.mpr ⟨_,Il e1,by simpa using hc⟩;obtain GF:=acz nd.2.2.2 e1 hj (K9 e) (c:=c) hc;simp only[Hw,Ia,Kv,LR]at GF;exact hk c (by simp only[bP,Hw];exact .inr (.inr (.inr R))) GF.1 GF.2
section
variable{ad hd:Hv}(Y w Hz)in
inductive yU(h:Iv)(C Va p:Hv)(f:js)(o:Hp (Hn Hv)):Prop
 |mk (ad dx hd:Hv) (aJ:Hn (Hv×Hv)) (vs:Hn HE) (m:HP->Hp HE) (ks:Hn (HP×HE)) (bs:Hn Hv) (h1:o=hb (bP ad dx hd aJ++bs)) (h2:bj Y w h ad dx C Va p hd aJ f vs m ks) (h3:bH Y w Hz h vs [f.told,f.given,f.bD] bs) (h4:(bP ad dx hd aJ++bs).Nodup) (h5:wf (aE C Va p f)=Hq):yU h C Va p f o
variable{X:Hn Hv}
theorem du.oj(I:du Y w Hz U ae X K C' L O s)(hv:aA K.scope x=Hq)(hx:L x=hb (.own (.tree ro (aE C Va p f)))):
  yU Y w Hz s.heap C Va p f (O.lookup x):=by
 have fin:∀u,cj Y w Hz ae.heap (WW K C' O) O s.heap x u (.own (.tree ro (aE C Va p f)))->yU Y w Hz s.heap C Va p f (O.lookup x):=by
  rintro u ⟨sp,e,r⟩;induction r.pz with|mk _ q1 q2 q3 _ _=>?_
  obtain⟨a,dx,hd,p',aJ,f',vs,m,ks,bs,_,h2,_,rfl,i,rs⟩:=q1.jW (d0 C Va p f);refine ew (aav h2) λo1 o2=>?_;subst o1;subst o2;exact⟨a,dx,hd,aJ,vs,m,ks,bs,e,i,rs,q2,q3⟩
 rcases dZ hv with q|q
 ·exact aQ I.ns λmm o1 R=>aQ (R x _ hx q) λu o1 r=>fin u r
 ·exact j4 (I.cell x _ hx q) λc u o1 o2 r=>fin u r
theorem du.tC{np tp:J3}(I:du Y w Hz U ae X K C' L O s)(KC:j7 aG U C mC)(hv:aA K.scope x=Hq)(hx:L x=hb (.own (.tree ro (aE C Va p f))))(hO:O.lookup x=hb (bP ad dx hd aJ++bs))(i:bj Y w s.heap ad dx C Va p hd aJ f vs m ks)
  (hQ:∀s',I8 s s'->s'.heap=s.heap->Q (.ref hd) s'):wpAny (Iq Y w) A (Jf (.Attribute (.Name x np) (HA "held") tp) K) Q E s:=by
 refine PyProof.Rows.Attribute_any_ (I.oy hv hx λad' eS Hm rt _ _ cn=>?_) (by with_unfolding_all rfl);rw[hO]at Hm;have e:=si Hm;subst e;clear Hm;obtain⟨_,z⟩:=dX rt cn;clear hO hx hv tp np cn rt;obtain rfl:ad=ad':=(IP z).1;exact ia KC I.base.grow i.obj (by decide) i.held rfl hQ
theorem du.ady{tp:J3}{mi:ar->Hp V}{kf:Fl}(I:du Y w Hz U ae X K C' L O s)(KC:j7 aG U C mC)(hv:aA K.scope x=Hq)(hx:L x=hb (.own (.tree ro (aE C Va p f))))(hO:O.lookup x=hb (bP ad dx hd aJ++bs))(i:bj Y w s.heap ad dx C Va p hd aJ f vs m ks)
  (hi:Ev Y w U n sc ix mi)(hs:K.scope=sc)(hA:ey A n)(hk:mi L=hb ⟨.str k,kf⟩)(hj:je f.held k=hb j)(e9:∀o j,∃jw,Lp ix HH o j=Nh jw (L2 o j))
  (hQ:∀s',I8 s s'->Q (.ref (aJ.getD j (0,0)).1) s'):wpAny (Iq Y w) A (Jf (.Subscript (.Attribute (.Name x np) (HA "held") tp) ix sp) K) Q E s:=by
 refine PyProof.Rows.Subscript_ (I.tC KC hv hx hO i λay ah _=>hi hs hA (I.grow ah).toInF hk λu' aN aI cY=>?_);obtain⟨cs,rk,_,_⟩:=cY;obtain H:=rk.ig;clear rk;induction H with|mk t=>?_
 obtain kk:=ab ah aI;obtain ud:=i.kept (h':=aN.heap) λc _ o eo=>ag kk c o eo;have hva:K2 ks k=hb (.ref (aJ.getD j (0,0)).1):=by exact(abH (φ:=λr=>.ref (aJ.getD r (0,0)).1) i.keys i.vals).symm▸(abR (φ:=λr=>.ref (aJ.getD r (0,0)).1) f.held k).trans (by refine hj.symm▸?_;rfl)
 exact dz (e9 (.ref hd) (.str k t)) λjw e=>PyProof.Rows.tail_any ud.dict.typeIs Ob.lookup (Om (ly _ _) ud.dict.mapOf hva (hQ _ (ab kk (aK aN _)))) e
end
theorem agj:wf (.tuple (l.map λq=>.tuple [.str q.1,.int q.2]))=Hq↔l.length<=sizeLine/\∀q∈l,wf (.str q.1)=Hq:=by
 obtain h2:2<=sizeLine:=by decide
 obtain key:∀l:Hn (HP×HG),fw (l.map λq=>.tuple [.str q.1,.int q.2])=Hq↔∀q∈l,wf (.str q.1)=Hq:=by
  intro l;induction l with
  |nil=>decide
  |cons q l ih=>(refine HS.symm▸?_;rw[fw,HU,ih,OX]);refine and_congr_left λ_=>?_;simp[wf,fw,h2]
 rw[wf,HU,Ik,Hr,key]
theorem lV{l:Hn (HI×HI)}:wf (.tuple (l.map λq=>.tuple [.int q.1,.int q.2]))=Hq↔l.length<=sizeLine:=by
 obtain h2:2<=sizeLine:=by decide
 simp only[wf,HU,Ik,Hr];refine⟨λh=>h.1,λh=>⟨h,?_⟩⟩;clear h;induction l with
 |nil=>rfl
 |cons q l ih=>rw[HS,fw,ih];exact MG _
theorem af9:(j9 l k j).length<=l.length+1:=by unfold j9;split<;>simp
theorem ahS(h:wf (.tuple (l.map λq=>.tuple [.str q.1,.int q.2]))=Hq)(hk:wf (.str k)=Hq)(hl:l.length+1<=sizeLine):wf (.tuple ((j9 l k j).map λq=>.tuple [.str q.1,.int q.2]))=Hq:=by
 rw[agj]at h⊢;refine⟨Hs af9 hl,λq hq=>?_⟩;unfold j9 at hq;split at hq
 ·refine aQ (HX.mp hq) λp hp o1=>?_;subst o1;split<;>exact h.2 p hp
 ·rcases HD.mp hq with hq|hq
  ·exact h.2 q hq
  ·exact(HB.mp hq).symm▸hk
section
variable{X:Hn Hv}{t:HM}{ad hd:Hv}
theorem du.ab0{Q:Nq->HM->Prop}{f':js}{more:Hn (Hv×Hv)}{h':Iv}{tk:HG}{m':HP->Hp HE}{FF:Hn (HP×HE)}(I:du Y w Hz U ae X K C' L O s)(kt:I8 s t)(hx:L x=hb (.own (.tree ro (aE C Va p f))))(hO:O.lookup x=hb (bP ad dx hd aJ++bs))(nd:(bP ad dx hd aJ++bs).Nodup)
  (i:bj Y w s.heap ad dx C Va p hd aJ f vs m ks)(rs:bH Y w Hz s.heap vs [f.told,f.given,f.bD] bs)(i':bj Y w h' ad dx C Va p hd (aJ++more) f' vs m' FF)(h3:[f'.told,f'.given,f'.bD]=[f.told,f.given,f.bD])
  (iG:∀c o,t.heap.get? c=hb o->c∉bP ad dx hd aJ->h'.get? c=hb o)(hG:∀c∈more.flatMap (λq=>[q.1,q.2]),s.heap.get? c=Hu)(DR:(more.flatMap λq=>[q.1,q.2]).Nodup)(hw:wf (aE C Va p f')=Hq)
  (hQ:∀O' s',du Y w Hz U ae X K C' (L.set x (.own (.tree ro (aE C Va p f')))) O' s'->Step s.heap s'.heap (WW K C' O) (WW K C' O')->Q () s'):Q () {t with heap:=h',toks:=tk}:=by
 obtain g:=ag kt;obtain p7:=H8.mp nd;have BS:bH Y w Hz h' vs [f'.told,f'.given,f'.bD] bs:=by
  refine h3.symm▸cL.2 (rs.grow g) λc o eo q=>iG c o eo λhc=>?_;rcases q with q|q
  ·exact p7.2.2 c hc c q rfl
  ·refine aQ (i.alive c hc) λo' jU nt=>?_;rw[g c o' jU]at eo;have e:=si eo;subst e;clear eo;exact nt q
 have zM:RD Y w Hz h' (.ref ad) (aE C Va p f') (bP ad dx hd (aJ++more)++bs):=.store i' BS;obtain al:=cJ.1 zM;have ee:bP ad dx hd (aJ++more)++bs=bP ad dx hd aJ++(more.flatMap (λq=>[q.1,q.2])++bs):=by simp[bP]
 have m9:∀c∈bP ad dx hd (aJ++more)++bs,c∈bP ad dx hd aJ++bs∨s.heap.get? c=Hu:=λc hc=>by
  rw[ee]at hc;rcases HD.mp hc with hc|hc
  ·exact .inl (HF _ hc)
  ·rcases HD.mp hc with hc|hc
   ·exact .inr (hG c hc)
   ·exact .inl (Hx _ hc)
 have Ae:∀c o,s.heap.get? c=hb o->c∉bP ad dx hd aJ++bs->h'.get? c=hb o:=λc o eo q=>iG c o (g c o eo) λe=>q (HF _ e);obtain EP:(bP ad dx hd (aJ++more)++bs).Nodup:=by rw[ee,List.Perm.nodup_iff (List.perm_append_comm_assoc ..),H8];refine l6 DR nd (λa ha b U q=>?_);clear DR iG h3 i' rs i nd FF m' BS p7 g;subst q;exact aQ (I.cO a (cB hO U)) λo ho o1=>no ((hG a ha).symm.trans ho)
 have I':=I.lY (tk:=tk) hx hO Ae (λc hc=>(al c (by
  refine ee.symm▸?_;rcases HD.mp hc with hc|hc
  ·exact HF _ hc
  ·exact Hx _ (Hx _ hc))).imp λ_ q=>q.1) (λc hc=>⟨m9 c hc,al c hc⟩) EP hw rfl (λa' q=>by
  refine dz (dX q rfl) λo1 z1=>?_;clear hw DR hG iG h3 i' rs i nd hx I FF m' tk EP ee al BS p7 g q;obtain rfl:=(IP z1).1;exact zM)
 clear hw DR hG iG h3 i' rs i nd hx I FF m' EP ee al zM BS p7 g;refine my kt λh1 t1 o1 o2=>?_;subst o1;exact hQ _ _ I' (iR hO Ae m9)
theorem du.adH{Q:Nq->HM->Prop}{mw:Hn (HI×HI)}(I:du Y w Hz U ae X K C' L O s)(kt:I8 s t)(hx:L x=hb (.own (.tree ro (aE C Va p f))))(hO:O.lookup x=hb (bP ad dx hd aJ++bs))(nd:(bP ad dx hd aJ++bs).Nodup)
  (i:bj Y w s.heap ad dx C Va p hd aJ f vs m ks)(rs:bH Y w Hz s.heap vs [f.told,f.given,f.bD] bs)(hj:(aJ++more)[j]? =hb (b,db))(hG:∀c∈more.flatMap (λq=>[q.1,q.2]),s.heap.get? c=Hu)(DR:(more.flatMap λq=>[q.1,q.2]).Nodup)(hml:more.length=mw.length)
  (EZ:∀(i:HG)(b db:Hv)(x y:HI),more[i]? =hb (b,db)->mw[i]? =hb (x,y)->ik t.heap Va b db x y)(ct:wf (aE C Va p f)=Hq)(hk:wf (.str k)=Hq)(n8:f.held.length+1<=sizeLine)(GN:(f.aC++mw).length<=sizeLine)
  (hQ:∀O' s',du Y w Hz U ae X K C' (L.set x (.own (.tree ro (aE C Va p {f with held:=j9 f.held k j,aC:=f.aC++mw})))) O' s'->Step s.heap s'.heap (WW K C' O) (WW K C' O')->Q () s'):wpAny (Iq Y w) A (OG (.ref hd) (.str k tk) (.ref b)) Q E t:=by
 have it:=i.kept (h':=t.heap) λc _ o eo=>(ag kt) c o eo;obtain a8:ks.length=f.held.length:=by simpa using HL Km i.keys
 refine NP (knd:=strKind Y w) (ly _ _) it.dict (λh' qx gy=>?_) (by exact a8.symm▸NQ n8);have iG:∀c o,t.heap.get? c=hb o->c≠hd->h'.get? c=hb o:=λc o q hc=>(gy.2 c hc).trans q;have apa:hd∈bP ad dx hd aJ:=.tail _ (.tail _ (.head _));obtain i':=it.aiT hj qx (λc _ hc o q=>iG c o q hc) (nd.sublist (MH _ _)) hml (λr b' D6 x' y' e1 e2=>(EZ r b' D6 x' y' e1 e2).kept λc hc o q=>iG c o q λe=>by
  have hn:=hG c (IS.mpr ⟨_,Il e1,by simpa using hc⟩);refine aQ (i.alive hd apa) λo' jU o1=>?_;rw[e,jU]at hn;cases hn)
 refine I.ab0 kt hx hO nd i rs i' rfl (λc o q hc=>iG c o q λe=>hc (e▸apa)) hG DR ?_ hQ;rw[j5]at ct⊢;exact Er ct.1 ct.2.1 ct.2.2.1 (ahS ct.2.2.2.1 hk n8) (lV.mpr GN)
end
def gW(C Va:Hv)(x:HP)(mi mj:ar->Hp V):ar->Hp Out:=λL=>(bL L x).bind λd=>(kF C Va d.2).bind λq=>(mj L).bind λvj=>(fW vj.x).bind λkj=>(je q.2.held kj).bind λj=>(mi L).bind λvi=>(fW vi.x).bind λki=>
 if q.2.held.length+1<=sizeLine then hb (.next (L.set x (.own (.tree d.1 (aE C Va q.1 {q.2 with held:=j9 q.2.held ki j})))))else Hu
variable{ei:HR}{n1 t1:J3}{mi:ar->Hp V}
theorem S1.afa{t2 p1 p2:J3}{mj:ar->Hp V}(KC:j7 aG U C mC)(hi:Ev Y w U n sc ei mi)(hj:Ev Y w U n sc ej mj)(hv:aA sc x=Hq)
  (e9:∀o j,∃jw,Lp ej HH o j=Nh jw (L2 o j))
  (iS:∀K:Ke,JU (.Subscript (.Attribute (.Name x n2) (HA "held") t2) ej p2) (hb (.Subscript (.Attribute (.Name x n1) (HA "held") t1) ei p1)) pos.line K=pure HH):
  S1 Y w U n sc (.Assign [.Subscript (.Attribute (.Name x n1) (HA "held") t1) ei p1] (.Subscript (.Attribute (.Name x n2) (HA "held") t2) ej p2) pos) (gW C Va x mi mj):=by
 intro A Hz K ae X C' L O s r Q E hs hA I;refine ak λz0 hd=>ak λz1 hq=>ak λz2 FO=>ak λkj hkj=>ak λj hl=>ak λz5 DY=>ak λki DT=>jl λn8 R hQ=>?_;obtain⟨ro,d⟩:=z0;obtain⟨p,f⟩:=z1;obtain⟨vj,fj⟩:=z2;obtain⟨vi,fi⟩:=z5
 ·have e:=si R;subst e;clear R;obtain H:=kL hq;clear hq;subst H;obtain H:=dg hkj;clear hkj;subst H;obtain rfl:=dg DT;have hx:=bU hd;dsimp only at hx hl n8 hQ;have k9:aA K.scope x=Hq:=by exact hs.symm▸hv
  obtain⟨ad,dx,uj,aJ,vs,mm,ks,bs,hO,i,rs,nd,ct⟩:=I.oj k9 hx;refine Kr (I.ady KC k9 hx hO i hj hs hA FO hl e9 λay ah=>(I.grow ah).tC KC k9 hx hO (i.kept λc _ o eo=>ag ah c o eo) λaN aI _=>hi hs hA ((I.grow ah).grow aI).toInF DY λku dN dO pd=>?_) (iS K);obtain⟨cs,rk,ck,_⟩:=pd;obtain H:=rk.ig;clear rk;induction H with|mk t=>?_
  refine aQ (aaS hl) λq GY Hb=>?_;have Hg:j<aJ.length:=by exact Hb▸i.bound q GY
  obtain BX:=HQ Hg;refine(show(aJ.getD j (0,0)).1=(aJ[j]).1 by rw[JX,BX];rfl).symm▸?_;refine I.adH (more:=[]) (mw:=[]) (db:=(aJ[j]).2) (ab ah (ab aI dO)) hx hO nd i rs (by rw[IA];exact BX) (λ_ q=>nomatch q) I9 rfl (λ_ _ _ _ _ q=>no q) ct ck n8 (by rw[IA];exact lV.mp (j5.mp ct).2.2.2.2) λO' s' I' T'=>?_;rw[IA]at I';exact hQ O' s' I' T'
variable{ki:HP}{fi:Fl}
theorem aaJ{mj:ar->Hp V}{fj:Fl}(h1:bL L x=hb (ro,aE C Va p f))(h2:mj L=hb ⟨.str kj,fj⟩)(h3:je f.held kj=hb j)(h4:mi L=hb ⟨.str ki,fi⟩)(h5:f.held.length+1<=sizeLine):
  gW C Va x mi mj L=hb (.next (L.set x (.own (.tree ro (aE C Va p {f with held:=j9 f.held ki j}))))):=by
 unfold gW;refine bI h1 ?_;rw[jG,HT,h2,HT];show((je f.held kj).bind λj=>(mi L).bind λvi=>(fW vi.x).bind λki=>_)=_;refine bI h3<|bI h4 ?_;exact H5 h5
def oZ(Va:Hv)(q:HI×HI):Ho:=d9 Va [] [(HA "amount",.int q.1),(HA "opening",.int q.2)]
variable{q:HI×HI}
theorem afm{q':HI×HI}(h:oZ Va q=oZ Va q'):q=q':=by obtain e:=HL (rx Va) h;unfold oZ at e;rw[eU,eU]at e;obtain e:=HL NF (H4 e);injection e with e1 e;injection e with e2 e;obtain e1:=HL NF e1;obtain e2:=HL NF e2;injection e1 with e1;injection e2 with e2;exact MN e1 e2
open Classical in
def uo(Va:Hv)(d:Ho):Hp (HI×HI):=if h:∃q:HI×HI,d=oZ Va q then hb (OS h)else Hu
theorem acv(h:uo Va d=hb q):d=oZ Va q:=by
 unfold uo at h;split at h
 ·rename_i e;exact(H4 h)▸LJ e
 ·exact no h
theorem aeD(Va:Hv)(q:HI×HI):uo Va (oZ Va q)=hb q:=by obtain e:∃q':HI×HI,oZ Va q=oZ Va q':=⟨q,rfl⟩;unfold uo;exact(dif_pos e).trans<|HL hb (afm (LJ e)).symm
theorem RD.anb(r:RD Y w Hz h u (oZ Va q) as):∃b db,u=.ref b/\as=[b,db]/\ik h Va b db q.1 q.2:=by
 obtain⟨a',dx,rs,gs,vs,m,bs,rfl,ex,rfl,_,i,_,e,nn,rr⟩:=r.ke (eU Va _ _);clear r;obtain⟨rfl,rfl⟩:=qn ex;obtain H:=rr.yx;clear rr;induction H with|mk v1 vs b1 c1 r1 EC=>?_
 obtain H:=EC.yx;clear EC;induction H with|mk v2 vs b2 c2 r2 EN=>?_
 clear c1 ex bs;obtain⟨rfl,rfl⟩:=EN.nil_inv;simp only[HS,MX,O0,and_true]at e;clear EN vs;induction r1.dS with|mk t1=>?_
 clear v1 vs;induction r2.dS with|mk t2=>?_
 clear v2;obtain rfl:=r1.bT rfl;clear r1;obtain rfl:=r2.bT rfl;refine⟨a',dx,rfl,rfl,m,t1,t2,i,e.1,e.2,λz hz=>?_⟩;have:=nn z hz;simp only[HS,MX,KX,Hw,Ia,Kv]at this;clear r2 nn e i dx a' hz;rcases this with rfl|rfl<;>decide
def i0(C Va:Hv)(x:HP)(mi:ar->Hp V)(mt:ar->Hp Ho):ar->Hp Out:=λL=>(bL L x).bind λd=>(kF C Va d.2).bind λq=>(mt L).bind λz=>(uo Va z).bind λv=>(mi L).bind λvi=>(fW vi.x).bind λki=>
 if q.2.held.length+1<=sizeLine/\q.2.aC.length+1<=sizeLine then hb (.next (L.set x (.own (.tree d.1 (aE C Va q.1 {q.2 with held:=j9 q.2.held ki q.2.aC.length,aC:=q.2.aC++[v]})))))else Hu
theorem S1.ahZ{C Va:Hv}{mC:HP->Hp HE}{x:HP}{ei e:HR}{n1 t1 p1 pos:J3}{mi:ar->Hp V}{mt:ar->Hp Ho}(KC:j7 aG U C mC)(hi:Ev Y w U n sc ei mi)(ht:lT Y w U n sc e mt)(hv:aA sc x=Hq)
  (iS:∀K:Ke,JU e (hb (.Subscript (.Attribute (.Name x n1) (HA "held") t1) ei p1)) pos.line K=pure HH):
  S1 Y w U n sc (.Assign [.Subscript (.Attribute (.Name x n1) (HA "held") t1) ei p1] e pos) (i0 C Va x mi mt):=by
 intro A Hz K ae X C' L O s r Q E hs hA I;refine ak λz0 hd=>ak λz1 hq=>ak λz hz=>ak λv hvz=>ak λz4 DY=>ak λki DT=>jl λn8 R hQ=>?_;obtain⟨ro,d⟩:=z0;obtain⟨p,f⟩:=z1;obtain⟨vi,fi⟩:=z4
 ·have e:=si R;subst e;clear R;obtain H:=kL hq;clear hq;subst H;obtain H:=acv hvz;clear hvz;subst H;obtain rfl:=dg DT;have hx:=bU hd;dsimp only at hx n8 hQ;have k9:aA K.scope x=Hq:=by exact hs.symm▸hv
  obtain⟨ad,dx,uj,aJ,vs,mm,ks,bs,hO,i,rs,nd,ct⟩:=I.oj k9 hx;refine Kr (ht hs hA I.toInF hz λu as ay ah rv ndv wfv fr=>(I.grow ah).tC KC k9 hx hO (i.kept λc _ o eo=>ag ah c o eo) λaN aI _=>hi hs hA ((I.grow ah).grow aI).toInF DY λku dN dO pd=>?_) (iS K);obtain⟨cs,rk,ck,_⟩:=pd;obtain H:=rk.ig;clear rk;induction H with|mk t=>?_
  clear iS hv ht hi KC pos p1 t1 n1 ei mC k9 ku wfv DT DY hz hd hA hs;refine j4 rv.anb λb db o1 o2 va=>?_;subst o1;subst o2;obtain va':=va.kept (h':=dN.heap) λc _ o eo=>ag (ab aI dO) c o eo;refine I.adH (more:=[(b,db)]) (mw:=[v]) (j:=f.aC.length) (ab ah (ab aI dO)) hx hO nd i rs (by rw[<-i.len,Ld (Io _),OT];rfl) (λc hc=>fr c (by simpa using hc)) (by simpa using ndv) rfl (λr b' D6 x' y' e1 e2=>?_) ct ck n8.1 (by exact HN.symm▸n8.2) λO' s' I' T'=>hQ O' s' I' T';clear mt mi t hx ck ct nd rs i hO bs ks mm vs aJ uj dx ad va dO aI fr ndv rv ah hQ n8 I E Q s L X Hz A;induction r with
  |zero=>cases e1;(have e:=si e2;subst e;clear e2);exact va'
  |succ r=>exact no e1
theorem abq{mt:ar->Hp Ho}{v:HI×HI}(h1:bL L x=hb (ro,aE C Va p f))(h2:mt L=hb (oZ Va v))(h4:mi L=hb ⟨.str ki,fi⟩)(h5:f.held.length+1<=sizeLine)(h6:f.aC.length+1<=sizeLine):
  i0 C Va x mi mt L=hb (.next (L.set x (.own (.tree ro (aE C Va p {f with held:=j9 f.held ki f.aC.length,aC:=f.aC++[v]}))))):=by
 unfold i0;refine bI h1 ?_;rw[jG,HT,h2,HT,aeD,HT,h4,HT];exact H5 ⟨h5,h6⟩
def iY(C Va:Hv)(x:HP)(mi m:ar->Hp V):ar->Hp Out:=λL=>(bL L x).bind λd=>(kF C Va d.2).bind λq=>(mi L).bind λvi=>(fW vi.x).bind λki=>(je q.2.held ki).bind λj=>(q.2.aC[j]?).bind λv=>(m L).bind λu=>(cD u.x).bind λb=>
 hb (.next (L.set x (.own (.tree d.1 (aE C Va q.1 {q.2 with aC:=q.2.aC.set j (v.1+b,v.2)})))))
variable{m:ar->Hp V}
theorem S1.aiV{p1 tp:J3}(KC:j7 aG U C mC)(KV:j7 valNames U Va mV)(hi:Ev Y w U n sc ei mi)(h:Ev Y w U n sc e m)(hv:aA sc x=Hq)
  (e9:∀o j,∃jw,Lp ei HH o j=Nh jw (L2 o j)):
  S1 Y w U n sc (.AugAssign (.Attribute (.Subscript (.Attribute (.Name x n1) (HA "held") t1) ei p1) (HA "amount") tp) .Add e pos) (iY C Va x mi m):=by
 intro A Hz K ae X C' L O s r Q E hs hA I;refine ak λz0 hd=>ak λz1 hq=>ak λz2 DY=>ak λki DT=>ak λj hl=>ak λv FO=>ak λu hu=>ak λb G5 R hQ=>?_;obtain⟨ro,d⟩:=z0;obtain⟨p,f⟩:=z1;obtain⟨vi,fi⟩:=z2;have e:=si R;subst e;clear R;obtain H:=kL hq;clear hq;subst H;obtain rfl:=dg DT;have hx:=bU hd;dsimp only at hx hl hQ FO;have k9:aA K.scope x=Hq:=by exact hs.symm▸hv
 obtain⟨ad,dx,uj,aJ,vs,mm,ks,bs,hO,i,rs,nd,ct⟩:=I.oj k9 hx;refine aQ (aaS hl) λq GY Hb=>?_;have Hg:j<aJ.length:=by exact Hb▸i.bound q GY
 obtain BX:=HQ Hg;refine OC (I.ady KC k9 hx hO i hi hs hA DY hl e9 λay ah=>?_);refine(show(aJ.getD j (0,0)).1=(aJ[j]).1 by rw[JX,BX];rfl).symm▸?_;generalize aJ[j]=bb at BX;obtain⟨ba,bd⟩:=bb;obtain⟨mb,ta,tb,ib,a1,a2,a3⟩:=(i.each j ba bd v.1 v.2 BX FO).kept (h':=ay.heap) λc _ o eo=>ag ah c o eo;refine ia KV (I.grow ah).base.grow ib (by decide) a1 rfl λaN aI uU=>h hs hA ((I.grow ah).grow aI).toInF hu λu' dN dO pd=>?_;obtain⟨as2,rv,_,_⟩:=pd;rw[bJ G5]at rv;obtain H:=rv.dS;clear rv;induction H with|mk t2=>?_
 refine PySem.AutoIntOps.iadd_0 ?_;have kk:=ab ah (ab aI dO);obtain apr:=ib.kept (h':=dN.heap) (λo eo=>ag (ab aI dO) _ o eo) (λo eo=>ag (ab aI dO) _ o eo);have C6:ba∈bP ad dx uj aJ/\bd∈bP ad dx uj aJ:=by
  obtain R:∀c,c=ba∨c=bd->c∈bP ad dx uj aJ:=λc hc=>by
   simp only[bP,Hw];exact .inr (.inr (.inr (IS.mpr ⟨_,Il BX,by simpa using hc⟩)))
  exact gQ (R _ (.inl rfl)) (R _ (.inr rfl))
 refine qU KV (I.grow kk).base.grow apr (by decide) a3 (by decide) ((I.bZ ba (cB hO (HF _ C6.1))).1) λh' tk i' keep=>?_;obtain ap8:=i.kept (h':=dN.heap) λc _ o eo=>(ag kk) c o eo;obtain FP:ik h' Va ba bd (v.1+b) v.2:=⟨_,_,tb,i',H5 rfl,(Ir (by decide)).trans a2,λz hz=>by
  by_cases e:z=HA "amount"
  ·rw[e];decide
  ·exact a3 z (λq=>hz ((Ir e).trans q))⟩
 refine I.ab0 (more:=[]) (f':={f with aC:=f.aC.set j (v.1+b,v.2)}) (tk:=tk) (Q:=λ_=>Q .next) (ab kk (aK dN (dN.toks+1))) hx hO nd i rs (by rw[IA];exact(ap8.ad7 BX FP (λc _ n1 n2 o eo=>keep c o n1 n2 eo) (nd.sublist (MH _ _)))) rfl (λc o q hc=>keep c o (λe=>hc (e▸C6.1)) (λe=>hc (e▸C6.2)) q) (λ_ q=>nomatch q) I9 ?_ λO' s' I' T'=>hQ O' s' I' T';rw[j5]at ct⊢;exact Er ct.1 ct.2.1 ct.2.2.1 ct.2.2.2.1 (lV.mpr (by exact N6.symm▸lV.mp ct.2.2.2.2))
theorem abm{fu:Fl}{v:HI×HI}{b:HI}(h1:bL L x=hb (ro,aE C Va p f))(h2:mi L=hb ⟨.str ki,fi⟩)(h3:je f.held ki=hb j)(h4:f.aC[j]? =hb v)(h5:m L=hb ⟨.int b,fu⟩):
  iY C Va x mi m L=hb (.next (L.set x (.own (.tree ro (aE C Va p {f with aC:=f.aC.set j (v.1+b,v.2)}))))):=by
 unfold iY;refine bI h1 ?_;rw[jG,HT,h2,HT];show((je f.held ki).bind λj=>(f.aC[j]?).bind λv=>(m L).bind λu=>(cD u.x).bind λb=>_)=_;refine bI h3<|bI h4 ?_;rw[h5];rfl
structure jJ(Y:IB)(w:Ja)(h₀:Iv)(r:Hv)(T:I2)(k:HG)(P:HG->HE->Prop):Prop where
 ty:∀s:HM,bA h₀ s.heap->s.TypeIs (.ref r) T
 other:(LZ T==.type "list")=HH/\(LZ T==.type "tuple")=HH
 hint:∀(A:Jh)(E:HE->HM->Prop)(s:HM)(Q:Ig->HM->Prop),bA h₀ s.heap->Q HH s->wpAny (Iq Y w) A (Q7 (.ref r)) Q E s
 iter:∀(A:Jh)(s:HM),A.handled=Hu->bA h₀ s.heap->∃(o:PR)(fp:Hn Hv)(St:HG->Iv->Prop),(∀(E Q:HE->HM->Prop),Q (.ref s.heap.objs.size) {s with heap:=s.heap.push o}->wpAny (Iq Y w) A (Qn (.ref r)) Q E s)/\
  Walks Y w A s.heap.objs.size fp [s.heap.objs.size] k P St/\St 0 (s.heap.push o)/\∀b∈fp,b=s.heap.objs.size∨∃o,h₀.get? b=hb o
section
variable{r S:Hv}{T:I2}{k:HG}{P:HG->HE->Prop}
theorem jJ.extend{aH:Result->HM->Prop}(D:jJ Y w h₀ r T k P)(hh:A.handled=Hu)(g:bA h₀ s.heap)(hr:∃o,h₀.get? r=hb o)(akw:h₀.get? S=Hu)(c:HG)(hS:s.heap.get? S=hb {cls:=.type "list",data:=.seq #[] c})(hk:k<=sizeLine)(res:HE)
  (hR:∀h' tk acc c',(∀b o,b≠S->s.heap.get? b=hb o->h'.get? b=hb o)->h'.get? S=hb {cls:=.type "list",dict:=Hu,data:=.seq acc c',slots:=#[]}->ItemsOf P acc k->aH (.ok (.ret res)) {s with heap:=h',toks:=tk}):
  wpAny (Iq Y w) A.in1 (Q8 (.ref S) (.ref r) res)
   (λfin s'=>match fin with|.done f=>aH (.ok f) s'|.again c'=>c'.quiet=Hq/\Pz (Iq Y w) A c' aH s') (λe s'=>aH (.error e) s') s:=by
 refine Au (D.iter A.in1 s hh g) λo fp St it W st hfp=>?_;have new:S∉fp:=λq=>by
  rcases hfp S q with q|⟨o,q⟩
  ·exact IG (II hS) (by exact q.symm▸JW _)
  ·exact no (akw.symm.trans q)
 obtain apart:(Mi (.ref S) (.ref r))=HH:=by
  refine dz hr λo q=>?_;have:S≠r:=λe=>by rw[<-e,akw]at q;exact no q
  simp[Mi,this]
 have loop:∀(h:Iv)(c₁ tk:HG),St 0 h->(∀b o,b≠S->s.heap.get? b=hb o->h.get? b=hb o)->h.get? S=hb {cls:=.type "list",data:=.seq #[] c₁}->
   Pz (Iq Y w) A (.builtin "list.extend.loop" ⟨[.ref S,.ref s.heap.objs.size,res],[]⟩) aH {s with heap:=h,toks:=tk}:=λh c₁ tk q1 q2 q3=>
  codeAny_extend_loopS W.toS hk S new res k 0 _ #[] c₁ rfl (JS _) q1 q3 (ItemsOf.nil _) λs' acc c' m q4 q5=>by
   rw[Moved.eq_with m];refine hR _ _ acc c' (λb o U e=>m.heap b o (λq=>?_) (q2 b o U e)) q4 q5;rcases Hw.mp q with q|q
   ·exact U q
   ·exact IG (II e) (by exact(HB.mp q).symm▸JW _)
 refine Ht (L7 (D.ty s g) ?_);simp only[apart,D.other.1,D.other.2,Bool.or_false,Ko,K8];obtain G1:=HW o hS;refine Ht (it _ _ (Ht (KR (D.hint _ _ _ _ (bA.trans g (bA.push _ _)) (My (λ_=>Ht (Nj (Ht ?_))) (λ_=>HV ⟨plainId_quiet PySem.F.plain_extend_loop _,loop _ c _ st (λb o' _ e=>HW _ e) G1⟩))))));refine Ht (Nm G1 rfl ?_);obtain hS2:=Jb (JB (·.push MR)) G1 rfl;refine Nm (hz:=by seq_fits) hS2 rfl ?_;obtain off:∀b o',b≠S->(s.heap.push o).get? b=hb o'->(((s.heap.push o).update S (JB (·.push MR))).update S (JB (·.pop))).get? b=hb o':=λb o' U e=>
  (M0 _ _ (K9 U)).trans ((M0 _ _ (K9 U)).trans e)
 exact HV ⟨plainId_quiet PySem.F.plain_extend_loop _,loop _ _ _ (W.frame 0 _ _ st λb U o' e=>off b o' (λq=>new (q▸U)) e) (λb o' U e=>off b o' U (HW _ e)) (Jb (JB (·.pop)) hS2 rfl)⟩
theorem jJ.call(D:jJ Y w s.heap r T k P)(hh:A.handled=Hu)(hr:∃o,s.heap.get? r=hb o)(hk:k<=sizeLine)
  (hQ:∀h' tk acc c',bA s.heap h'->h'.get? s.heap.objs.size=hb {cls:=.type "list",dict:=Hu,data:=.seq acc c',slots:=#[]}->ItemsOf P acc k->Q (.ref s.heap.objs.size) {s with heap:=h',toks:=tk}):
  wpAny (Iq Y w) A (call (.type "list") [.ref r]) Q E s:=by
 refine callType_codes (Q₁:=λobj ay=>obj=.ref s.heap.objs.size/\ay={s with heap:=s.heap.push {cls:=.type "list",data:=.seq #[]}}) PySem.F.called_list (PySem.F.typeCall_list_1 _) PySem.F.entry_list_init
  (code_list_new _ ⟨rfl,rfl⟩) λobj ay eY=>?_
 obtain⟨rfl,rfl⟩:=eY;obtain hS:(s.heap.push {cls:=.type "list",data:=.seq #[]}).get? s.heap.objs.size=hb {cls:=.type "list",data:=.seq #[]}:=H7 _ rfl;have old:∀b o,s.heap.get? b=hb o->b≠s.heap.objs.size:=λb o e=>Jq (II e);refine l6 ⟨_,hS,rfl⟩ (PySem.F.args_list_init_2 _ _)<|Ht (Ht (J8 hS rfl (HV (Ht (Nm hS rfl (Ht (Nz ?_)))))));have g:bA s.heap ((s.heap.push {cls:=.type "list",data:=.seq #[]}).update s.heap.objs.size (JB (λ_=>(#[]:PX HE)))):=λb o e=>
  (M0 _ _ (K9 (old b o e))).trans (HW _ e)
 exact D.extend (A:=A.in1) hh g hr (aR _ (Io _)) _ (Jb (JB (λ_=>(#[]:PX HE))) hS rfl) hk .none λh' tk acc c' kp q1 q2=>⟨rfl,hQ h' tk acc c' (λb o e=>kp b o (old b o e) (g b o e)) q1 q2⟩
variable{aW:Hn (HP×HE)}
theorem jJ.dict{ep:HG}(lo:(yB==Kd)=HH)(hd:h.DictAt (strKind Y w) yB aW ep):
  jJ Y w h yB "dict" aW.length (λi v=>∃k x,aW[i]? =hb (k,x)/\(strKind Y w).is k v=Hq)where
 ty:=λs g=>(hd.at' λo e=>g _ _ e).dictOf.typeIs
 other:=by decide
 hint:=λA E s Q g hq=>by
  have hT:=(hd.at' λo e=>g _ _ e).dictOf.typeIs;refine Ht (OE hT PySem.F.slot_dict_len.lookup ?_);generalize EJ:("dict.__len__":I2)=i
  wp_delta
  refine(show splitId i=hb ("dict","__len__")from by subst EJ;decide +kernel).symm▸?_;subst EJ;refine Ht (Ot (T:="dict") (b:=Hq) hT (by rw[Ls];kernel_rfl) (My (λq=>IG q (by decide)) λ_=>My (λ_=>Ht (L7 hT (HV hq))) λq=>IG (by decide +kernel) q))
 iter:=λA s hh g=>by
  have R:=hd.at' λo e=>g _ _ e;refine A3 _ _ _ (λE Q hq=>wpAny_pyIter_dict lo R hq) (Walks.dictKeys hh _ yB (Jq R.lt_size) aW ep) ⟨⟨_,H7 _ rfl,rfl,rfl⟩,R.push _⟩ (λb U=>?_);rcases Hw.mp U with rfl|U
  ·exact .inl rfl
  ·exact my hd λo o1 ho o2=>.inr ⟨o,by exact(HB.mp U).symm▸ho⟩
theorem jJ.values{ep:HG}(hv:h.IsValuesView fb yB)(hd:h.DictAt (strKind Y w) yB aW ep):
  jJ Y w h fb "dict_values" aW.length (λi x=>∃k,aW[i]? =hb (k,x))where
 ty:=λs g=>let⟨o,ho,hc,_⟩:=hv;⟨o,g _ _ ho,hc⟩
 other:=by decide
 hint:=λA E s Q g hq=>by
  have hT:s.TypeIs (.ref fb) "dict_values":=let⟨o,ho,hc,_⟩:=hv;⟨o,g _ _ ho,hc⟩;refine Ht (OE hT PySem.F.slot_dict_values_len.lookup ?_);generalize EJ:("dict_values.__len__":I2)=i
  wp_delta
  refine(show splitId i=hb ("dict_values","__len__")from by subst EJ;decide +kernel).symm▸?_;subst EJ;refine Ht (Ot (T:="dict_values") (b:=Hq) hT (by rw[Ls];kernel_rfl) (My (λq=>IG q (by decide)) λ_=>My (λ_=>Ht (L7 hT (HV hq))) λq=>IG (by decide +kernel) q))
 iter:=λA s hh g=>by
  have R:=hd.at' λo e=>g _ _ e;obtain k9:s.heap.IsValuesView fb yB:=let⟨o,ho,r⟩:=hv;⟨o,g _ _ ho,r⟩;refine A3 _ _ _ (λE Q hq=>wpAny_pyIter_values k9 R hq) (Walks.dictValues hh _ yB (Jq R.lt_size) aW ep) ⟨⟨_,H7 _ rfl,rfl,rfl⟩,R.push _⟩ (λb U=>?_);rcases Hw.mp U with rfl|U
  ·exact .inl rfl
  ·exact my hd λo o1 ho o2=>.inr ⟨o,by exact(HB.mp U).symm▸ho⟩
end
theorem agN{ys:Hn (HP×Ho)}:∀{ks:Hn (HP×HE)}{vs:Hn HE},ks.map (·.1)=ys.map (·.1)->vs.length=ks.length->(∀(j:HG)(v:HE),vs[j]? =hb v->∃k x,ks[j]? =hb (k,x)/\(strKind Y w).is k v=Hq)->bH Y w Hz h vs (ys.map λp=>.str p.1) []:=by
 induction ys with
 |nil=>
  intro ks vs e l _;cases ks with
  |cons _ _=>exact nomatch e
  |nil=>cases vs with
   |nil=>exact .nil
   |cons _ _=>exact nomatch l
 |cons y ys ih=>
  intro ks vs e l h0;cases ks with
  |nil=>exact nomatch e
  |cons k ks=>cases vs with
  |nil=>exact nomatch l
  |cons v vs=>
  refine ew (IP e) λe0 e1=>?_;dsimp only at e0;refine my (h0 0 v rfl) λk' x q1 q2=>?_;have e:=si q1;subst e;clear q1;refine dz (Value.isStrOf_shape q2) λt o1=>?_;subst o1;refine .cons (as:=[]) ?_ (ih e1 (Jz l) λj v hj=>h0 (j+1) v hj);show RD Y w Hz h (.str k' t) (.str y.1) [];exact e0▸.str _ _
set_option tactic.hygienic true in
theorem cg.amW:cg Y w U n (.type "list") (λvs=>match vs with|[v]=>(gK v.x).map λaW=>⟨.list (aW.map (·.1)),.d⟩|_=>Hu):=by
 intro A Hz K ae X C L O s us vs v Q E hA I r R hQ;dsimp only at R;split at R
 ·rename_i a;induction dI R with|mk aW h1=>?_
  refine aQ r.iO λo1 o2 r1=>?_;subst o2
  ·obtain⟨as,ra,ca,oa⟩:=r1;refine ew (gG h1) λhd rN=>?_;rw[hd]at ra ca;obtain H:=ra.nK rN;clear ra;induction H with|mk d ks ys bs b1 b2 b3 b4=>?_
   refine dz b1.dictAt λep C1=>?_;obtain a8:ks.length=ys.length:=by simpa using HL Km b3
   simp only[wf,HU,Ik,Hr]at ca;refine(jJ.dict (ep:=ep) b2 C1).call hA.handled (let⟨o,_,ho,_⟩:=C1;⟨o,ho⟩) (Hs (JY a8) ca.1) λh' tk acc c' hk hS mH=>?_;obtain k:I8 s {s with heap:=h',toks:=tk}:=⟨h',tk,rfl,hk⟩;refine hQ _ _ k ⟨[s.heap.objs.size],?_,?_,?_⟩
   ·exact Ii.symm▸.list (vs:=acc.toList) (n:=c') (by simpa using hS) (agN b3 (by simpa using mH.1) λj v hj=>mH.2 j v (by simpa using hj))
   ·rw[aV,Ii];refine⟨by simp;exact ca.1,(cN _).mpr λx hx=>?_⟩;refine aQ (HX.mp hx) λq hq o1=>?_;subst o1;exact(fY.mp ca.2 (.str q.1,q.2) (HX.mpr ⟨q,hq,rfl⟩)).1
   ·intro c hc;exact(HB.mp hc).symm▸I.fresh (aR _ (Io _))
 ·exact no R
theorem ai3(hl:vs.length=ks.length)(h:∀(j:HG)(v:HE),vs[j]? =hb v->∃k,ks[j]? =hb (k,v)):vs=ks.map (·.2):=by
 refine NG λj=>Iz.symm▸?_;cases e:vs[j]?with
 |some v=>refine dz (h j v e) λk hk=>hk.symm▸?_;rfl
 |none=>rw[MD]at e;refine(Jw (OM (id (PV hl)) e)).symm▸?_;rfl
theorem Ev.agp{o:HR}{np apos p9 pos:J3}{m:ar->Hp V}(fq:BQ U)(h:Ev Y w U n sc o m)(hx:aY sc "list"=Hq)
  (d3:∀K:Ke,J2 o "values" K (Jf o K)=Jf o K)(iI:(apos.endLine==p9.line)=Hq)
  (er:∀K:Ke,(J4 pos (Ie [.Call (.Attribute o "values" apos) [] [] p9] K)).any (·.1)=HH)(he:∀K,Ie [.Call (.Attribute o "values" apos) [] [] p9] K=(HH,Jf (.Call (.Attribute o "values" apos) [] [] p9) K)::Ie [] K):
  Ev Y w U n sc (.Call (.Name (HA "list") np) [.Call (.Attribute o "values" apos) [] [] p9] [] pos) (λL=>(m L).bind λv=>(gK v.x).bind λaW=>if b7 (aW.map (·.2))=Hq then hb ⟨.list (aW.map (·.2)),.d⟩else Hu):=by
 intro A Hz K ae X C L O s v Q E hs hA I;refine ak λv0 hv=>ak λaW h1=>jl λym R hQ=>?_
 ·have e:=si R;subst e;clear R;refine Ht (dh I (by exact hs.symm▸hx) fq.list (dY (U:=U) (.inr (.inl ⟨_,rfl⟩)) (er K) (Kt ?_ (he K))));refine J5 (T:="dict") (id:="dict.values") (d3 K) rfl iI N5 P6 F.type_dict_values (h hs hA I hv λu ay ah aL=>?_);obtain⟨as,ra,ca,oa⟩:=aL;refine ew (gG h1) λhd rN=>?_;rw[hd]at ra ca;obtain H:=ra.nK rN;clear ra;induction H with|mk d ks ys bs b1 b2 b3 b4=>?_
  refine l6 b1.typeIs b1.mapOf.noDict<|method_meetsIn P6 F.entry_dict_values rfl (evalArgs_none ⟨rfl,b1.typeIs,F.args_dict_values_1 _,_,meets_dict_values (strKind Y w) d b2,⟨ks,b1⟩,?_⟩);refine LB ⟨?_,?_⟩
  ·exactλb o e=>HW _ ((I.grow ah).base.grow b o e)
  refine dz b1.dictAt λep C1=>?_;obtain a8:ks.length=ys.length:=by simpa using HL Km b3
  simp only[wf,HU,Ik,Hr]at ca;obtain akp:(ay.heap.push {cls:=.type "dict_values",data:=.fields #[.ref d]}).IsValuesView ay.heap.objs.size d:=⟨_,H7 _ rfl,rfl,rfl⟩;refine(jJ.values (ep:=ep) akp (C1.push _)).call hA.handled ⟨_,H7 _ rfl⟩ (Hs (JY a8) ca.1) λh' tk acc c' hk hS mH=>?_;obtain k:I8 ay {ay with heap:=h',toks:=tk}:=⟨h',tk,rfl,λb o e=>hk b o (HW _ e)⟩;obtain yD:=b4.bT (by rw[Ii]at ym;exact ym);clear he er iI d3 h fq pos p9 apos np b3 b2 b1 akp a8 oa as hk C1 ep o rN hd u ym h1 hv v0 hA hs E A aW;subst yD;obtain aoT:acc.toList=ks.map (·.2):=ai3 (by simpa using mH.1) λj v hj=>mH.2 j v (by simpa using hj);refine hQ _ _ (ab ah k) ⟨[(ay.heap.push {cls:=.type "dict_values",data:=.fields #[.ref d]}).objs.size],?_,?_,?_⟩
  ·exact Ii.symm▸.list (vs:=acc.toList) (n:=c') (by simpa using hS) (by exact aoT.symm▸b4.grow (ag k))
  ·rw[aV,Ii];refine gQ (by simp;exact ca.1) ((cN _).mpr λx hx=>?_);clear m b4 aoT k mH hS c' acc tk h' hQ Q;refine aQ (HX.mp hx) λq hq o1=>?_;subst o1;exact(fY.mp ca.2 (.str q.1,q.2) (HX.mpr ⟨q,hq,rfl⟩)).2
  ·intro c hc;exact(HB.mp hc).symm▸(I.grow ah).fresh (aR _ (by simp))
theorem s4.of{m:ar->Hp Out}{spec:Hn Ho->Hp Ho}
  (D:∃mC f fo fd r,j7 ns U C mC/\mC (HA "__init__")=hb (.ref f)/\U.get? f=hb fo/\fo.cls=.type "function"/\fo.data=.func fd/\Kw (.type "object") (HA "__init__")=pure r/\jq U f sc ("self"::ps) body)
  (h:St Y w U n sc body m)(R:∀a B d',spec B=hb d'->lH ("self"::ps) "self" m a B=hb d'):s4 Y w U (n+1) C ps spec:=by
 exact DJ D λmC f fo fd r h1 h2 h3 h4 o1 o2 h7=>⟨⟨ns,mC,f,fo,h1,h2,h3,h4,DB.def h7 (.head _) h R⟩⟩
def anN:Hn V->Hp V
 |[v]=>(cD v.x).map λa=>⟨.int (if a<0 then -a else a),.d⟩
 |_=>Hu
theorem cg.abs:cg Y w U n (.builtin "abs") anN:=by
 intro A Hz K ae X C L O s us vs v Q E hA I r R hQ;rcases vs with _|⟨a,_|⟨b,vs⟩⟩
 ·exact no R
 ·obtain⟨i,hi⟩:=dI (o:=cD a.x) R;clear I hA L X;refine aQ r.iO λo1 o2 r1=>?_;subst o2;obtain⟨as,ra,ca,oa⟩:=r1;rw[bJ hi]at ra;clear oa ca hi r;induction ra.dS with|mk t=>?_
  exact PyProof.Rows.call_abs_int λu tk=>hQ _ _ (aK s _) dK.int
 ·exact no R
def CE:Hn V->Hp V
 |[u,v]=>(cD u.x).bind λa=>(cD v.x).map λb=>⟨.int (if b>a then b else a),.d⟩
 |_=>Hu
theorem hY.ahT(r:hY Y w Hz iE W h us [sY,yC]):∃u v,us=[u,v]/\dK Y w Hz iE W h u sY/\dK Y w Hz iE W h v yC:=by obtain⟨u,_,e,r1,r2⟩:=r.head;exact aQ r2.iO λv o1 r3=>mD u v (e.trans (HL _ o1)) r1 r3
theorem cg.max:cg Y w U n (.builtin "max") CE:=by
 intro A Hz K ae X C L O s us vs v Q E hA I r R hQ;rcases vs with _|⟨a,_|⟨b,_|⟨c,vs⟩⟩⟩
 ·exact no R
 ·exact no R
 ·revert R;refine ak λi hi R=>?_;obtain⟨j,hj⟩:=dI (o:=cD b.x) R;clear I L X;refine j4 r.ahT λo1 o2 o3 r1 r2=>?_;subst o3;obtain⟨as,ra,ca,oa⟩:=r1;obtain⟨bs,rb,cb,ob⟩:=r2;rw[bJ hi]at ra;rw[bJ hj]at rb;clear ob cb oa ca hj hi r;induction ra.dS with|mk t=>?_
  clear ra as o1;induction rb.dS with|mk t'=>?_
  refine max_two_ints hA.handled λh' tk k=>?_;obtain hh:=hQ (if j>i then .int j t' else .int i t) {s with heap:=h',toks:=tk} ⟨h',tk,rfl,k⟩;by_cases h:j>i
  ·rw[H5 h]at hh⊢;exact hh (by exact(H5 h).symm▸dK.int)
  ·rw[Ir h]at hh⊢;exact hh (by exact(Ir h).symm▸dK.int)
 ·exact no R
noncomputable def kO:Hn Ho->Hp (Hn Ig)
 |[]=>hb []
 |.bool b::B=>(kO B).map (b::·)
 |_=>Hu
theorem bH.bools(r:bH Y w Hz h vs B as){bs:Hn Ig}(e:kO B=hb bs):vs=bs.map Pc:=by
 refine bH.ind (aH:=λvs B _=>∀bs,kO B=hb bs->vs=bs.map Pc) (λbs e=>?_) (λ{u us x B as cs} a _ ih bs e=>?_) r bs e
 ·cases e;rfl
 ·cases x with
  |bool b=>obtain⟨cs,hc⟩:=dI (o:=kO B) e;(refine a.bool_inv.symm▸(ih cs hc).symm▸?_);rfl
  |_=>exact no e
def Co:Hn V->Hp V
 |[⟨.list B,_⟩]=>(kO B).map λbs=>⟨.bool (bs.all id),.d⟩
 |_=>Hu
theorem all_range(bs:Hn Ig):(H0 bs.length).all (λi=>bs[i]?.getD Hq)=bs.all id:=by
 induction bs with
 |nil=>rfl
 |cons b bs ih=>(refine Ju.symm▸List.range_succ_eq_map.symm▸Qv.symm▸List.all_map.symm▸Qv.symm▸ih▸?_);rfl
theorem cg.all:cg Y w U n (.builtin "all") Co:=by
 intro A Hz K ae X C L O s us vs v Q E hA I r R hQ;rcases vs with _|⟨⟨ax,af⟩,_|⟨b,vs⟩⟩
 ·exact no R
 ·clear I L X;cases ax with
  |list B=>
   obtain⟨bs,yD⟩:=dI (o:=kO B) R;refine aQ r.iO λo1 o2 r1=>?_;subst o2;obtain⟨as,ra,ca,oa⟩:=r1;clear oa ca r;refine Ct ra.fM λl ws k cs o1 o2 a1 a2=>?_;subst o1;subst o2;obtain hv:=a2.bools yD;clear ra yD a2 cs;subst hv;obtain hl:s.heap.IsList l (bs.map Pc).toArray:=⟨_,a1,rfl,_,rfl⟩;obtain kl:=II a1;refine call_all_walk (QF hl ⟨_,_,_,_,_,_,λi=>bs[i]?.getD Hq,rfl,Walks.list (A:=A.in1) hA.handled _ l (Jq kl) _,⟨⟨_,H7 _ rfl,rfl,rfl⟩,hl.push _⟩,?_,λh' tk hk=>?_⟩)
   ·intro i v s' Q' E' hP Hh;rw[JJ,Iz]at hP;clear kl hl a1 k l hA E;cases U:bs[i]?with
    |none=>rw[U]at hP;cases hP
    |some b=>rw[U]at hP;cases hP;dsimp only at Hh;rw[U]at Hh;exact Lf Hh
   ·rw[Jd,Hr,all_range];exact hQ _ _ ⟨h',tk,rfl,λb o e=>hk b o (λR=>by
     rw[HB.mp R]at e;exact IG (II e) (JW _)) (HW _ e)⟩ dK.bool
  |_=>exact no R
 ·clear hQ r I hA O L C X ae K Hz;cases ax<;>exact no R
theorem Ev.CN{l aL:HR}{rK wC:Nu}{ml m₁ m₂:ar->Hp V}(hl:Ev Y w U n sc l ml)(eY:Ev Y w U n sc aL m₁)(mq:Ev Y w U n sc cY m₂)(R:Pr [rK,wC] [aL,cY]=HH):
  Ev Y w U n sc (.Compare l [rK,wC] [aL,cY] pos) (λL=>(ml L).bind λa=>(m₁ L).bind λb=>(bW rK a.x b.x).bind λc=>bif c then(m₂ L).bind λd=>(bW wC b.x d.x).map λe=>⟨.bool e,.d⟩else hb ⟨.bool HH,.d⟩):=by
 intro A Hz K ae X C L O s v Q E hs hA I;refine ak λa ha=>ak λb aO=>ak λc hc hv hQ=>PyProof.Rows.Compare_chain (hl hs hA I ha λu ay ah Af=>PyProof.Rows.chain_link (eY hs hA (I.grow ah) aO λu' aN aI z8=>ou hA hc (Af.grow (ag aI)) z8 λs' k=>Lf ?_)) R;obtain kk:=ab ah (ab aI k);clear R eY hl aL l aI Af ah ay u hc aO ha a;cases c with
 |false=>clear m₁ ml rK;obtain rfl:=H4 hv;exact hQ _ s' kk dK.bool
 |true=>revert hv;refine ak λd hd hv=>?_;obtain⟨e,he⟩:=dI (o:=bW wC b.x d.x) hv;exact PyProof.Rows.chain_last (mq hs hA (I.grow kk) hd λu'' dN dO Dm=>ou hA he (z8.grow (bA.trans (ag k) (ag dO))) Dm λjR k'=>hQ _ jR (ab kk (ab dO k')) dK.bool)
theorem Tr.CN{l aL:HR}{rK:Nu}{ml m₁ m₂:ar->Hp V}(hl:Ev Y w U n sc l ml)(eY:Ev Y w U n sc aL m₁)(mq:Ev Y w U n sc cY m₂)(R:Pr [rK,wC] [aL,cY]=HH):
  Tr Y w U n sc (.Compare l [rK,wC] [aL,cY] pos) (λL=>(ml L).bind λa=>(m₁ L).bind λb=>(bW rK a.x b.x).bind λc=>bif c then(m₂ L).bind λd=>bW wC b.x d.x else hb HH):=by
 intro A Hz K ae X C L O s v Q E hs hA I;refine ak λa ha=>ak λb aO=>ak λc hc hv hQ=>PyProof.Rows.isTrue_chain (hl hs hA I ha λu ay ah Af=>PyProof.Rows.test_link (eY hs hA (I.grow ah) aO λu' aN aI z8=>ou hA hc (Af.grow (ag aI)) z8 λs' k=>Lf ?_)) R;obtain kk:=ab ah (ab aI k);clear R eY hl aL l aI Af ah ay u hc aO ha a;cases c with
 |false=>clear m₁ ml rK;obtain rfl:=H4 hv;exact hQ s' kk
 |true=>revert hv;exact ak λd hd hv=>PyProof.Rows.test_last (mq hs hA (I.grow kk) hd λu'' dN dO Dm=>ou hA hv (z8.grow (bA.trans (ag k) (ag dO))) Dm λjR k'=>Lf (hQ jR (ab kk (ab dO k'))))
end
variable{it t:Hv}{items:PX HE}
theorem aaf{i:HG}(mH:s.heap.IsTupleIter it t i)(ht:s.heap.IsTuple t items)(hx:items[i]? =hb gc)
  (hQ:∀h',h'.IsTupleIter it t (i+1)->KS it s.heap h'->Q gc {s with heap:=h'}):wpAny (Iq Y w) A (Nc (.ref it)) Q E s:=by
 refine kK (id mH) λo ho hc hd=>?_;obtain⟨ot,GZ,_,nt,GL⟩:=ht;refine Ht (JV (name:=HA "__next__") mH.typeIs Lm (KU Lm mH.typeIs Oy ?_ (Ou _)));show wpAny _ _ (field (.ref it) 0>>=_) _ _ s;refine Ht (Jx ho hd (x:=.ref t) rfl (wN (show¬((NT t==MR)=Hq)from ID) (Ht (Jx ho hd (x:=.int i 0) rfl (Ht (J8 GZ GL ?_))))));simp only[ME,hx];refine Ht (Rr ho hd (Io _) (HV ⟨gc,rfl,HV (hQ _ ?_ (JL ..))⟩));exact⟨_,Jb _ ho (Obj.isFreed_of_fields (PG hd _)),(Obj.cls_mapFields ..).trans hc,by
  rw[PG hd];rfl⟩
theorem aal{i:HG}(hh:A.handled=Hu)(mH:s.heap.IsTupleIter it t i)(ht:s.heap.IsTuple t items)(hx:items[i]? =Hu)
  (hE:∀h' e,QW it s.heap h'->(∃o,h'.get? e=hb o/\o.cls=.type "StopIteration")->E (.ref e) {s with heap:=h'}):wpAny (Iq Y w) A (Nc (.ref it)) Q E s:=by
 refine kK (id mH) λo ho hc hd=>?_;obtain⟨ot,GZ,_,nt,GL⟩:=ht;refine Ht (JV (name:=HA "__next__") mH.typeIs Lm (KU Lm mH.typeIs Oy ?_ (Ou _)));show wpAny _ _ (field (.ref it) 0>>=_) _ _ s;refine Ht (Jx ho hd (x:=.ref t) rfl (wN (show¬((NT t==MR)=Hq)from ID) (Ht (Jx ho hd (x:=.int i 0) rfl (Ht (J8 GZ GL ?_))))));simp only[ME,hx];refine Ht (Nj (Ht (Rr ho hd (KW _) (Ht ?_))));simp only[newExc,newTuple];refine Ht (KL ?_ (by size_fits));refine Ht (m:=Rt _ _) (P5 (a:=MR) (by first|rfl|(simp only[Rt];rfl)) ?_);refine KL ?_ (by size_fits);refine Ht (wpAny_handled ?_)
 first|refine(show A.in1.handled=Hu from hh).symm▸?_|rw[hh]
 exact Ht (HV (wpAny_throw (hE _ _ (((JL ..).extBut.push _).push _) ⟨_,H7 _ rfl,rfl⟩)))
section
structure oY(z TI TO i1 i2:Hv)(fp gp:Hn Hv):Prop where
 TIz:TI≠z
 TOz:TO≠z
 i1z:i1≠z
 i2z:i2≠z
 TITO:TI≠TO
 TIi1:TI≠i1
 TIi2:TI≠i2
 TOi1:TO≠i1
 TOi2:TO≠i2
 i12:i1≠i2
 fz:z∉fp
 fTO:TO∉fp
 fi:i2∉fp
 gz:z∉gp
 Gn:TO∉gp
 gi:i1∉gp
section
variable{fp:Hn Hv}
theorem dj{P:HG->HE->Prop}{S:HG->Iv->Prop}(D:Oz Y w A it fp n P S)(st:S k h)(x:QW c h h')(hc:c∉fp):S k h':=
 D.frame _ _ _ st λd hd o e=>x d o (λq=>hc (q▸hd)) e
variable{i1 i2 z TI TO:Hv}{n1 n2:HG}{P1 P2:HG->HE->Prop}{S1 S2:HG->Iv->Prop}{gp:Hn Hv}{a b:HE}
theorem agC(D1:Oz Y w A i1 fp n1 P1 S1)(D2:Oz Y w A i2 gp n2 P2 S2)(D:oY z TI TO i1 i2 fp gp)(hz:NZ s.heap z TI TO .none)(uY:Lv s.heap TI (.ref i1) (.ref i2))(ui:Lv s.heap TO a b)
  (B0:S1 k s.heap)(CX:S2 k s.heap)(h1:k<n1)(h2:k<n2)
  (hQ:∀x y h' tk,P1 k x->P2 k y->NZ h' z TI TO (OP s.heap.objs.size)->Lv h' TO x y->S1 (k+1) h'->S2 (k+1) h'->Lv h' s.heap.objs.size x y->
   (∀c o,c≠z->c≠TO->c≠i1->c≠i2->s.heap.get? c=hb o->h'.get? c=hb o)->Q (.ref s.heap.objs.size) {s with heap:=h',toks:=tk}):
  wpAny (Iq Y w) A (Builtin.«zip.__next__» ⟨[.ref z],[]⟩) (λfin s'=>∃v,fin=.done (.ret v)/\Q v s') E s:=by
 show wpAny _ _ (field (.ref z) 2>>=_) _ _ _;refine Ht (Jx hz rfl (x:=.bool HH) rfl (Ht (Jx hz rfl (x:=.ref TI) rfl (Ht (J8 uY rfl (Ht<|Ht (Jx hz rfl (x:=.none) rfl (HV (Ht (Nj (Ht (Jx hz rfl (x:=.ref TO) rfl (Ht (K5 hz (KW _) λeY pN k8=>?_))))))))))))));replace pN:NZ eY z TI TO .ellipsis:=pN;refine Ht<|Ht (Ht (N0 (Ht (D1.item k _ _ _ h1 (dj D1 B0 k8.extBut D.fz) λx mq Dd p1 ahw iw=>HV ?_))));obtain rz:=iw.extBut _ _ D.TOi1 (k8.extBut _ _ D.TOz ui);refine Ht (J8 rz rfl (Ht (NA rz λm7 ua iJ=>?_)));replace ua:Lv m7 TO x b:=ua;refine Ht (Nz (HV (Ht (Ht (N0 (Ht (D2.item k _ _ _ h2 (dj D2 (dj D2 (dj D2 CX k8.extBut D.gz) iw.extBut D.gi) iJ.extBut D.Gn) λy Dg C9 p2 amM pM=>HV ?_)))))));obtain ahu:=pM.extBut _ _ D.TOi2 ua;refine Ht (J8 ahu rfl (Ht (NA ahu λsj ub pL=>?_)));replace ub:Lv sj TO x y:=ub;refine Ht (Nz (HV (HV (Ht (J8 ub rfl (Ht (wpAny_newTuple ?_)))))));obtain n8:sj.objs.size=s.heap.objs.size:=by rw[pL.1,pM.1,iJ.1,iw.1,k8.1]
 have akA:=pL.extBut _ _ D.TOz.symm (pM.extBut _ _ D.i2z.symm (iJ.extBut _ _ D.TOz.symm (iw.extBut _ _ D.i1z.symm pN)));have apg:∀c o,c≠z->c≠TO->c≠i1->c≠i2->s.heap.get? c=hb o->sj.get? c=hb o:=λc o c1 c2 c3 c4 e=>
  pL.extBut _ _ c2 (pM.extBut _ _ c4 (iJ.extBut _ _ c2 (iw.extBut _ _ c3 (k8.extBut _ _ c1 e))))
 have apf:=II akA;refine Ht<|Ht (K5 (HW _ akA) (KW _) λCW Ag akk=>?_);replace Ag:NZ CW z TI TO (OP sj.objs.size):=Ag;refine K5 Ag (Jl _ _) λDh xr akm=>?_;replace xr:NZ Dh z TI TO (OP sj.objs.size):=xr;have up:∀c o,c≠z->sj.get? c=hb o->Dh.get? c=hb o:=λc o c1 e=>akm.extBut _ _ c1 (akk.extBut _ _ c1 (HW _ e));obtain akq:=akm.extBut _ _ (KT apf) (akk.extBut _ _ (KT apf) (H7 _ rfl));rw[n8]at xr akq;refine HV ⟨_,rfl,?_⟩;exact n8.symm▸hQ x y Dh C9 p1 p2 xr (up _ _ D.TOz ub) (D1.frame _ _ _ (dj D1 (dj D1 (dj D1 ahw iJ.extBut D.fTO) pM.extBut D.fi) pL.extBut D.fTO) λc hc o e=>up c o (λq=>D.fz (q▸hc)) e) (D2.frame _ _ _ (dj D2 amM pL.extBut D.Gn) λc hc o e=>up c o (λq=>D.gz (q▸hc)) e) akq λc o c1 c2 c3 c4 e=>up c o c1 (apg c o c1 c2 c3 c4 e)
theorem aiw{Q:Fin->HM->Prop}(D1:Oz Y w A i1 fp n1 P1 S1)(D2:Oz Y w A i2 gp n2 P2 S2)(D:oY z TI TO i1 i2 fp gp)(hz:NZ s.heap z TI TO .none)(uY:Lv s.heap TI (.ref i1) (.ref i2))(ui:Lv s.heap TO a b)
  (B0:S1 k s.heap)(CX:S2 k s.heap)(Dr:k=n1∨k<n1/\k=n2)
  (hE:∀h' tk e,(∀c o,c≠z->c≠TO->c≠i1->c≠i2->s.heap.get? c=hb o->h'.get? c=hb o)->(∃o,h'.get? e=hb o/\o.cls=.type "StopIteration")->E (.ref e) {s with heap:=h',toks:=tk}):
  wpAny (Iq Y w) A (Builtin.«zip.__next__» ⟨[.ref z],[]⟩) Q E s:=by
 show wpAny _ _ (field (.ref z) 2>>=_) _ _ _;refine Ht (Jx hz rfl (x:=.bool HH) rfl (Ht (Jx hz rfl (x:=.ref TI) rfl (Ht (J8 uY rfl (Ht<|Ht (Jx hz rfl (x:=.none) rfl (HV (Ht (Nj (Ht (Jx hz rfl (x:=.ref TO) rfl (Ht (K5 hz (KW _) λeY pN k8=>?_))))))))))))));replace pN:NZ eY z TI TO .ellipsis:=pN;refine Ht<|Ht (Ht (N0 ?_));clear uY hz;rcases Dr with rfl|⟨kl,rfl⟩
 ·refine Ht (D1.done _ _ _ (dj D1 B0 k8.extBut D.fz) λmq e iw he=>aQ he λoe C3 E3=>?_);have akj:=iw _ _ D.i1z.symm pN;have GP:e≠z:=λx=>by subst x;rw[akj]at C3;cases C3;simp at E3
  exact K5 akj (KW _) λm7 _ iJ=>hE m7 _ e (λc o c1 _ c3 _ x=>iJ.extBut _ _ c1 (iw _ _ c3 (k8.extBut _ _ c1 x))) ⟨oe,iJ.extBut _ _ GP C3,E3⟩
 ·refine Ht (D1.item _ _ _ _ kl (dj D1 B0 k8.extBut D.fz) λx mq Dd p1 ahw iw=>HV ?_);obtain rz:=iw.extBut _ _ D.TOi1 (k8.extBut _ _ D.TOz ui);refine Ht (J8 rz rfl (Ht (NA rz λm7 ua iJ=>Ht (Nz (HV (Ht (Ht (N0 (Ht (D2.done _ _ _ (dj D2 (dj D2 (dj D2 CX k8.extBut D.gz) iw.extBut D.gi) iJ.extBut D.Gn) λDg e pM he=>aQ he λoe C3 E3=>?_))))))))));have ako:=pM _ _ D.i2z.symm (iJ.extBut _ _ D.TOz.symm (iw.extBut _ _ D.i1z.symm pN));have GP:e≠z:=λx=>by subst x;rw[ako]at C3;cases C3;simp at E3
  exact K5 ako (KW _) λsj _ pL=>hE sj _ e (λc o c1 c2 c3 c4 x=>pL.extBut _ _ c1 (pM _ _ c4 (iJ.extBut _ _ c2 (iw.extBut _ _ c3 (k8.extBut _ _ c1 x))))) ⟨oe,pL.extBut _ _ GP C3,E3⟩
variable{Q:Hp HE->HM->Prop}
theorem afg(D1:Oz Y w A.in1 i1 fp n1 P1 S1)(D2:Oz Y w A.in1 i2 gp n2 P2 S2)(D:oY z TI TO i1 i2 fp gp)(hz:NZ s.heap z TI TO .none)(uY:Lv s.heap TI (.ref i1) (.ref i2))(ui:Lv s.heap TO a b)
  (B0:S1 k s.heap)(CX:S2 k s.heap)(h1:k<n1)(h2:k<n2)
  (hQ:∀x y h' tk,P1 k x->P2 k y->NZ h' z TI TO (OP s.heap.objs.size)->Lv h' TO x y->S1 (k+1) h'->S2 (k+1) h'->Lv h' s.heap.objs.size x y->
   (∀c o,c≠z->c≠TO->c≠i1->c≠i2->s.heap.get? c=hb o->h'.get? c=hb o)->Q (hb (.ref s.heap.objs.size)) {s with heap:=h',toks:=tk}):wpAny (Iq Y w) A (Qm (.ref z)) Q E s:=by
 obtain hT:s.TypeIs (.ref z) "zip":=⟨_,hz,rfl⟩;exact Ht (wpAny_attempt (JV (name:=HA "__next__") hT Ng (KU Ng hT Qw
  (agC D1 D2 D hz uY ui B0 CX h1 h2 λx y h' tk p1 p2 a1 a2 a3 a4 a5 a6=>HV (hQ x y h' tk p1 p2 a1 a2 a3 a4 a5 a6)) (Qf _))))
theorem abw(D1:Oz Y w A.in1 i1 fp n1 P1 S1)(D2:Oz Y w A.in1 i2 gp n2 P2 S2)(D:oY z TI TO i1 i2 fp gp)(hz:NZ s.heap z TI TO .none)(uY:Lv s.heap TI (.ref i1) (.ref i2))(ui:Lv s.heap TO a b)
  (B0:S1 k s.heap)(CX:S2 k s.heap)(Dr:k=n1∨k<n1/\k=n2)
  (hQ:∀h' tk,(∀c o,c≠z->c≠TO->c≠i1->c≠i2->s.heap.get? c=hb o->h'.get? c=hb o)->Q Hu {s with heap:=h',toks:=tk}):wpAny (Iq Y w) A (Qm (.ref z)) Q E s:=by
 obtain hT:s.TypeIs (.ref z) "zip":=⟨_,hz,rfl⟩;refine Ht (wpAny_attempt (JV (name:=HA "__next__") hT Ng (KU Ng hT Qw
  (aiw D1 D2 D hz uY ui B0 CX Dr λh' tk e hk he=>?_) (Qf _))))
 exact aQ he λo ho hc=>Ht (Ot (T:="StopIteration") (b:=Hq) ⟨o,ho,hc⟩ isSubtype_stop (HV (hQ _ _ hk)))
end
end
structure BW(Y:IB)(w:Ja)(A:Jh)(Hy:Hn Hv)(it:Hv)(fp:Hn Hv)(B:Hn Ho)(F:Hn Hv)(P:HG->HE->Prop)(S:HG->Iv->Prop)(aH:Iv->Prop):Prop where
 draws:Oz Y w A.in1 it fp B.length P S
 off:∀i h h' W,S i h->Off W h h'->it∉W->S i h'
 fld:∀i h,S i h->∃o fs T,h.get? it=hb o/\o.data=.fields fs/\o.cls=.type T
 CD:∀h h' W,aH h->Off W h h'->(∀a∈F,a∉W)->aH h'
 vO:∀h h',aH h->fO Hy h h'->aH h'
 alive:∀h,aH h->∀a∈F,∃o,h.get? a=hb o
 item:∀i v h x,aH h->P i v->B[i]? =hb x->∃cs,RD Y w Hy h v x cs/\∀c∈cs,c∈F
theorem Stream.ap0{A:Jh}{e8:Hn HR}{k:HG}{pos:J3}{z TI TO i1 i2:Hv}{fp gp F G:Hn Hv}{B ys:Hn Ho}{P1 P2:HG->HE->Prop}{S1 S2:HG->Iv->Prop}{R1 R2:Iv->Prop}
  (X:BW Y w A (TO::Hz) i1 fp B F P1 S1 R1)(kQ:BW Y w A (TO::Hz) i2 gp ys G P2 S2 R2)(D:oY z TI TO i1 i2 fp gp):
  Stream Y w Hz A (.Tuple e8 k pos) z (F++G) [z,TO,i1,i2] [TO] (rj B ys) (λi h=>NZ h z TI TO .none/\Lv h TI (.ref i1) (.ref i2)/\(∃a b,Lv h TO a b)/\S1 i h/\S2 i h/\R1 h/\R2 h)where
 frame:=λi h h' W st off hF hw=>by
  refine Fu st λhz uY o1 s1 s2 r1 r2=>?_;obtain⟨a,b,ui⟩:=o1;exact i07 (off _ _ hz (.inl (hw z (.head _)))) (off _ _ uY (.inr ⟨[.ref i1,.ref i2],0,rfl⟩)) ⟨a,b,off _ _ ui (.inl (hw TO (.tail _ (.head _))))⟩ (X.off _ _ _ W s1 off (hw i1 (.tail _ (.tail _ (.head _))))) (kQ.off _ _ _ W s2 off (hw i2 (.tail _ (.tail _ (.tail _ (.head _)))))) (X.CD _ _ W r1 off λc hc=>hF c (HF _ hc)) (kQ.CD _ _ W r2 off λc hc=>hF c (Hx _ hc))
 pV:=λi h st c hc=>by
  refine Bh st λhz uY o1 o2=>?_;obtain⟨a,b,ui⟩:=o1;exact(HB.mp hc).symm▸abZ ui
 sub:=λc hc=>by exact(HB.mp hc).symm▸.tail _ (.head _)
 cQ:=λi h st c hc hn=>by
  refine e06 st λhz uY o1 s1 s2 o2=>?_;obtain⟨a,b,ui⟩:=o1;revert hn;refine F5 c hc (λ_=>zh _ _ _ hz rfl rfl) (λhn=>IG (PH _) hn) (λ_=>X.fld _ _ s1) (λ_=>kQ.fld _ _ s2)
 alive:=λi h st c hc=>by
  exact Fu st λo1 o2 o3 o4 o5 r1 r2=>(HD.mp hc).elim (X.alive _ r1 c) (kQ.alive _ r2 c)
 turn:=λi x s Q E hx st yA hQ=>by
  refine Fu st λhz uY o1 s1 s2 r1 r2=>?_;obtain⟨a,b,ui⟩:=o1;refine j4 (abI hx) λy1 y2 hy1 C8 o1=>?_;subst o1;refine afg X.draws kQ.draws D hz uY ui s1 s2 (H2.mp hy1).1 (H2.mp C8).1 λv1 v2 h' tk p1 p2 g1 g2 g3 g4 g5 hk=>?_;refine wpAny_letOwnedTupleGo_zip g1 λqv z9 gy=>?_;have lt:∀{c o},s.heap.get? c=hb o->s.heap.objs.size≠c:=λe=>KT (II e);have kp:∀c o,c∉[z,TO,i1,i2]->s.heap.get? c=hb o->qv.get? c=hb o:=λc o hc q=>by
   simp only[Hw,Ia,Kv,LR]at hc;exact(gy.2 c hc.1).trans (hk c o hc.1 hc.2.1 hc.2.2.1 hc.2.2.2 q)
  have aU:=fO.of (Hz:=Hz) (Zs:=[TO]) (wr:=[z,TO,i1,i2]) (λc hc hn=>by
   revert hn;refine F5 c hc (λ_=>zh _ _ _ hz rfl rfl) (λhn=>IG (PH _) hn) (λ_=>X.fld _ _ s1) (λ_=>kQ.fld _ _ s2)) (λc hc=>by exact(HB.mp hc).symm▸abZ ui) kp
  obtain GJ:s.heap.objs.size∉TO::Hz:=λq=>by
   rcases Hw.mp q with q|q
   ·exact lt ui q
   ·exact dz (yA _ q) λo eo=>lt eo rfl
  have r1':=X.vO _ _ r1 aU;have r2':=kQ.vO _ _ r2 aU;refine aQ (X.item i v1 qv y1 r1' p1 hy1) λcs e2 e3=>aQ (kQ.item i v2 qv y2 r2' p2 C8) λds f2 f3=>?_;obtain rT:RD Y w (TO::Hz) qv (.ref s.heap.objs.size) (.tuple [y1,y2]) (cs++(ds++[])):=.tuple (n:=0) ((gy.2 _ (lt hz)).trans g5) GJ (.cons e2 (.cons f2 .nil));refine hQ _ _ qv tk rT (λc hc=>?_) ⟨z9,kp TI _ (by simp[D.TIz,D.TITO,D.TIi1,D.TIi2]) uY,⟨v1,v2,(gy.2 TO D.TOz).trans g2⟩,dj X.draws g3 gy.extBut D.fz,dj kQ.draws g4 gy.extBut D.gz,r1',r2'⟩ kp;rw[IA]at hc;exact(HD.mp hc).elim (λq=>HF _ (e3 c q)) λq=>Hx _ (f3 c q)
 done:=λs Q E st hQ=>by
  refine Fu st λhz uY o1 s1 s2 r1 r2=>?_;obtain⟨a,b,ui⟩:=o1;rw[abT]at s1 s2;refine abw X.draws kQ.draws D hz uY ui s1 s2 (by lia -abstractProof) λh' tk hk=>hQ h' tk λc o hc e=>?_;simp only[Hw,Ia,Kv,LR]at hc;exact hk c o hc.1 hc.2.1 hc.2.2.1 hc.2.2.2 e
 self:=λi s Q E st hQ=>QX st.1 hQ
theorem BW.tuple{A:Jh}(hh:A.handled=Hu){it:Hv}{m:HG}(gq:t≠it)(hl:vs.length=B.length):
  BW Y w A Hy it [it,t] B F (λi v=>vs[i]? =hb v) (λi h=>h.IsTupleIter it t i/\h.get? t=hb (kA vs m)) (λh=>h.get? t=hb (kA vs m)/\t∉Hy/\bH Y w Hy h vs B F)where
 draws:={
  live:=λ_ _ st=>let⟨o,ho,_⟩:=st.1;⟨o,ho⟩
  frame:=λ_ _ _ st hk=>⟨by exact aQ st.1 λo ho r=>⟨o,hk it (.head _) o ho,r⟩,hk t (.tail _ (.head _)) _ st.2⟩
  item:=λi s Q E hi st hQ=>by
   obtain hx:vs[i]? =hb (vs[i]'(by rw[hl];exact hi)):=HQ _;exact aaf st.1 ⟨_,st.2,rfl,_,rfl⟩ (by refine JJ.trans ?_;exact hx) λh' wz gy=>hQ _ h' s.toks hx ⟨wz,(gy.2 t gq).trans st.2⟩ gy
  done:=λs Q E st hE=>aal (A:=A.in1) hh st.1 ⟨_,st.2,rfl,_,rfl⟩ (by(refine JJ.trans ?_;rw[MD,hl]);exact Io _) hE}
 off:=λi h h' W st off hw=>by
  refine ew st λo1 ht=>?_;obtain⟨o,ho,r⟩:=o1;exact gQ ⟨o,off _ _ ho (.inl hw),r⟩ (off _ _ ht (.inr ⟨_,_,rfl⟩))
 fld:=λi h st=>by refine ew st λo1 o2=>?_;obtain⟨o,ho,hc,hd⟩:=o1;exact zh o _ _ ho hd hc
 CD:=λh h' W r off hF=>⟨off _ _ r.1 (.inr ⟨_,_,rfl⟩),r.2.1,r.2.2.off off hF⟩
 vO:=λh h' r k=>⟨k _ _ r.1 (λ_ q=>by cases q) λhz=>IG hz r.2.1,r.2.1,r.2.2.cQ k⟩
 alive:=λh r=>r.2.2.alive
 item:=λi v h x r p e=>by
  refine j4 (r.2.2.get e) λv' cs e1 e2 e3=>?_;rw[e1]at p;clear hl gq it hh A e1 e r i;cases p;exact i12 cs e2 e3
noncomputable abbrev rh(t:Hv):PR:={cls:=.type "tuple_iterator",data:=.fields #[.ref t,.int 0 0]}
noncomputable abbrev Ff(h:Iv)(o1 o2:PR):Iv:=(h.push o1).push o2
abbrev Fp(h:Iv)(o1 o2:PR):Iv:=(Ff h o1 o2).push {cls:=.type "tuple",data:=.seq #[.ref h.objs.size,.ref (h.push o1).objs.size]}
abbrev Eh(h:Iv)(o1 o2:PR):Iv:=(Fp h o1 o2).push {cls:=.type "tuple",data:=.seq #[.none,.none]}
abbrev DH(h:Iv)(o1 o2:PR):Iv:=(Eh h o1 o2).push {cls:=.type "zip",data:=.fields #[.none,.bool HH,.bool HH,.ref (Ff h o1 o2).objs.size,.ref (Fp h o1 o2).objs.size]}
theorem afQ(t1 t2:Hv)(B ys:PX HE):
  Meets (Builtin.«zip.__new__» ⟨[.type "zip",.ref t1,.ref t2],[]⟩) (λ_ aH s=>s.heap.IsTuple t1 B/\s.heap.IsTuple t2 ys/\aH (.ok (.ret (.ref (Eh s.heap (rh t1) (rh t2)).objs.size))) {s with heap:=DH s.heap (rh t1) (rh t2)}):=
 .of_wp λY w A aH s h=>by
  obtain⟨hp,g,d,tk,os⟩:=s;obtain⟨hl1,hl2,h⟩:=h;have e9:=sub_zip;have hL1:QJ (Qx ⟨hp,g,d,tk,os⟩) t1 B:=hl1;have hL2:QJ (Qx ⟨hp.push (rh t1),g,d,tk,os⟩) t2 ys:=Q9 hl2 _;wp_walk using N2 hL1,N2 hL2;exact⟨_,rfl,h⟩
structure ads(h h':Iv)(o1 o2:PR):Prop where
 zip:NZ h' (h.objs.size+4) (h.objs.size+2) (h.objs.size+3) .none
 ti:Lv h' (h.objs.size+2) (.ref h.objs.size) (.ref (h.objs.size+1))
 to:Lv h' (h.objs.size+3) .none .none
 i1:h'.get? h.objs.size=hb o1
 i2:h'.get? (h.objs.size+1)=hb o2
 grow:bA h h'
theorem ahn(f1:o1.isFreed=HH)(f2:o2.isFreed=HH):(Eh h o1 o2).objs.size=h.objs.size+4/\ads h (DH h o1 o2) o1 o2:=by
 obtain z1:(h.push o1).objs.size=h.objs.size+1:=Ms ..;have z2:(Ff h o1 o2).objs.size=h.objs.size+2:=by rw[Ms,z1]
 have z3:(Fp h o1 o2).objs.size=h.objs.size+3:=by rw[Ms,z2]
 obtain z4:(Eh h o1 o2).objs.size=h.objs.size+4:=by rw[Ms,z3]
 obtain g5:(DH h o1 o2).get? (Eh h o1 o2).objs.size=hb _:=H7 _ rfl;obtain g4:(DH h o1 o2).get? (Fp h o1 o2).objs.size=hb _:=HW _ (H7 _ rfl);obtain g3:(DH h o1 o2).get? (Ff h o1 o2).objs.size=hb _:=HW _ (HW _ (H7 _ rfl));obtain g2:(DH h o1 o2).get? (h.push o1).objs.size=hb o2:=HW _ (HW _ (HW _ (H7 _ f2)));rw[z2,z3,z4]at g5;rw[z1,z2]at g3;rw[z3]at g4;rw[z1]at g2;exact⟨z4,g5,g3,g4,(HW _ (HW _ (HW _ (HW _ (H7 _ f1))))),g2,λc o x=>HW _ (HW _ (HW _ (HW _ (HW _ x))))⟩
variable{N:HG}
theorem apart2{fp:Hn Hv}(hf:∀c∈fp,c<=N)(hg:∀c∈gp,c<N∨c=N+1):oY (N+4) (N+2) (N+3) N (N+1) fp gp:=by
 obtain e:∀{a b:HG},a≠b-> @Ne Hv a b:=λh=>h;obtain f:∀c,N<c->c∉fp:=λc h q=>IG (hf c q) (PB.mpr h);refine⟨e (AU _ (b:=2) (c:=4) (by decide)),e (AU _ (b:=3) (c:=4) (by decide)),e (AU _ (b:=0) (c:=4) (by decide)),e (AU _ (b:=1) (c:=4) (by decide)),e (AU _ (b:=2) (c:=3) (by decide)),e (AU _ (b:=2) (c:=0) (by decide)),e (AU _ (b:=2) (c:=1) (by decide)),e (AU _ (b:=3) (c:=0) (by decide)),e (AU _ (b:=3) (c:=1) (by decide)),e (Nat.ne_add_one _),f _ (OH (by decide)),f _ (OH (by decide)),f _ (Qy _),λq=>?_,λq=>?_,λq=>?_⟩
 ·rcases hg _ q with h|h<;>exact IG h (by first|exact JH.mpr (Ib _ 4)|exact KT (Nat.add_lt_add_of_le_of_lt (Io _) (by decide)))
 ·rcases hg _ q with h|h<;>exact IG h (by first|exact JH.mpr (Ib _ 3)|exact KT (J1 _))
 ·rcases hg _ q with h|h<;>exact IG h (by first|exact JW _|exact Jq (Qy _))
noncomputable def sV:Ho->Hp (Hn Ho)
 |.tuple B=>hb B
 |_=>Hu
theorem aaE(h:sV gc=hb B):gc=.tuple B:=by
 cases gc with
 |tuple ys=>obtain rfl:=H4 h;rfl
 |_=>exact no h
variable{e8:Hn HR}{ys:Hn Ho}
theorem amC{gp:Hn Hv}{P1 P2:HG->HE->Prop}{S1 S2:HG->Iv->Prop}{R1 R2:Iv->Prop}
  (kt:I8 s aN)(M:ads aN.heap h' o1 o2)(X:BW Y w A ((aN.heap.objs.size+3)::Hz) aN.heap.objs.size fp B F P1 S1 R1)(kQ:BW Y w A ((aN.heap.objs.size+3)::Hz) (aN.heap.objs.size+1) gp ys G P2 S2 R2)
  (hf:∀c∈fp,c<=aN.heap.objs.size)(hg:∀c∈gp,c<aN.heap.objs.size∨c=aN.heap.objs.size+1)(s1:S1 0 h')(s2:S2 0 h')(r1:R1 h')(r2:R2 h')(ym:da iE W fl (F++G))(w1:fw B=Hq)(w2:fw ys=Hq)(hl:ys.length<=sizeLine)
  (hQ:∀I F wr Zs S s',I8 s s'->Stream Y w Hz A (.Tuple e8 k aph) I F wr Zs (rj B ys) S->S 0 s'.heap->da iE W fl F->fw (rj B ys)=Hq->(rj B ys).length<=sizeLine->(∀b∈wr,s.heap.get? b=Hu)->Q (.ref I) s'):
  wpAny (Iq Y w) A (Qn (.ref (aN.heap.objs.size+4))) Q E {aN with heap:=h'}:=by
 refine QX M.zip ?_;have fresh:∀d,s.heap.get? (aN.heap.objs.size+d)=Hu:=λd=>by
  cases e:s.heap.get? (aN.heap.objs.size+d)with
  |none=>rfl
  |some o=>exact IG (II (ag kt _ _ e)) (JH.mpr (Ib _ _))
 refine hQ _ (F++G) _ [aN.heap.objs.size+3] _ _ (ab kt ⟨h',aN.toks,rfl,M.grow⟩) (Stream.ap0 X kQ (apart2 hf hg)) ⟨M.zip,M.ti,⟨_,_,M.to⟩,s1,s2,r1,r2⟩ ym (agm w1 w2) (by rw[abT];exact Hs (I7 _ _) hl) λc hc=>?_;exact F5 c hc (fresh 4) (fresh 3) (fresh 0) (fresh 1)
theorem aj3(hN:h.objs.size<=N):(∀{v x cs},RD Y w Hz h v x cs->RD Y w (N::Hz) h v x cs)/\∀{vs B cs},bH Y w Hz h vs B cs->bH Y w (N::Hz) h vs B cs:=
 fA λc o e q z=>by
  rcases Hw.mp z with z|z
  ·have:=II e;rw[z]at this;exact IG this (JH.mpr hN)
  ·exact q z
variable{m:ar->Hp V}
theorem It.anD{f:HR}{np pos:J3}{m':ar->Hp V}(hg:bt U "zip" (.type "zip"))(h:Ev Y w U n sc e m)(h':Ev Y w U n sc f m')(hx:aY sc "zip"=Hq)(he:∀K,Ie [e,f] K=[(HH,Jf e K),(HH,Jf f K)]):
  It Y w U n sc (.Tuple e8 k aph) (.Call (.Name (HA "zip") np) [e,f] [] pos) (λL=>(m L).bind λv=>(m' L).bind λv'=>(sV v.x).bind λB=>(sV v'.x).map λys=>(rj B ys,v.fl.join v'.fl)):=by
 refine⟨λ_ _=>rfl,?_⟩;intro A Hz K ae X C L O s v Q E hs hA I;refine ak λa ha=>ak λb aO=>ak λB s6 R hQ=>?_;obtain⟨ys,p8⟩:=dI (o:=sV b.x) R;show wpAny _ _ (Jf (.Name (HA "zip") np) K>>=λf=>Lq pos f [] (J4 pos (Ie [e,_] K)) []) _ _ s;refine Ht (dh I (by exact hs.symm▸hx) hg (dY (U:=U) (.inr (.inl ⟨_,rfl⟩)) (by rw[he];rfl) ?_));rw[he];refine Ly (h hs hA I ha λu ay ah aL=>Ly (h' hs hA (I.grow ah) aO λu' aN aI cY=>LB ⟨((I.grow ah).grow aI).base.grow,?_⟩));obtain⟨as,ra,ca,oa⟩:=aL.grow (ag aI);obtain⟨bs,rb,cb,ob⟩:=cY;rw[aaE s6]at ra ca;rw[aaE p8]at rb cb;have ta:=((aj3 (N:=aN.heap.objs.size+3) (Ib _ _)).1 ra).tupI;have tb:=((aj3 (N:=aN.heap.objs.size+3) (Ib _ _)).1 rb).tupI;clear he hx h' hg pos np rb ra p8 aL f R s6 aO ha I hs X L;induction ta with|mk t1 vs m1 a1 az a2=>?_
 clear m';induction tb with|mk t2 us m2 b1 bz b2=>?_
 rw[dk]at ca cb;refine ew (ahn (h:=aN.heap) (o1:=rh t1) (o2:=rh t2) rfl rfl) λe4 M=>callType_new F.called_zip (by decide) (F.typeCall_zip_2 _ _) (F.newCall_zip_2 _ _) (λobj=>F.args_object_init_3 obj _ _) F.entry_zip_new (afQ t1 t2 vs.toArray us.toArray) ⟨⟨_,a1,rfl,_,rfl⟩,⟨_,b1,rfl,_,rfl⟩,?_⟩;refine e4.symm▸?_;obtain lt1:=II a1;obtain lt2:=II b1;refine⟨⟨_,M.zip,rfl⟩,amC (ab ah aI) M (BW.tuple (m:=m1) hA.handled (Jq lt1) a2.length) (BW.tuple (m:=m2) hA.handled (Jq (LQ lt2)) b2.length) (λc hc=>?_) (λc hc=>?_)
  ⟨⟨_,M.i1,rfl,rfl⟩,M.grow _ _ a1⟩ ⟨⟨_,M.i2,rfl,rfl⟩,M.grow _ _ b1⟩ ⟨M.grow _ _ a1,az,a2.grow M.grow⟩ ⟨M.grow _ _ b1,bz,b2.grow M.grow⟩ (da.append oa.v9 ob.vU) ca.2 cb.2 cb.1 hQ⟩
 ·exact Cn c hc (Io _) (IK lt1)
 ·exact Cn c hc (.inr rfl) (.inl lt2)
noncomputable def sx:Hn Ho->Hp (Hn HP)
 |[]=>hb []
 |x::r=>(fW x).bind λk=>(sx r).map (k::·)
theorem adb:∀{ns:Hn HP},sx B=hb ns->B=ns.map .str:=by
 induction B with
 |nil=>intro ns h;refine(si h)▸?_;rfl
 |cons x B bY=>intro ns h;obtain⟨k,h1,h⟩:=ao h;refine aQ (H6.mp h) λr h2 h3=>?_;(refine h3▸(bY h2).symm▸(dg h1).symm▸?_);rfl
theorem bH.ado:∀{ns:Hn HP}{vs:Hn HE}{as:Hn Hv},bH Y w Hz h vs (ns.map .str) as->PyProof.Rows.StrsAre vs ns
 |[],vs,as,r=>r.nil_inv.1▸.nil
 |i::ns,vs,as,r=>by
  have H:=r.yx;clear r;induction H with|mk u us bs cs a b=>?_
  have H:=a.ig;clear a;induction H with|mk t=>?_
  exact .cons i t b.ado
theorem ahr(x:PyProof.Rows.StrsAre vs ns):bH Y w Hz h vs (ns.map .str) []:=by
 induction x with
 |nil=>exact .nil
 |cons i t _ ih=>exact .cons (as:=[]) (.str i t) ih
noncomputable def za(a b:HP):Ig:= !PySem.Spec.ltCps b.cps.toList a.cps.toList
theorem kJ:za sY yC=Hq↔sY.cps.toList<=yC.cps.toList:=by unfold za;(rw[PyProof.Rows.ltCps_eq,JI];refine Na.trans ?_);rfl
theorem ahj(a b:HP)(h:za a b=Hq)(k:za b a=Hq):a=b:=by have:=List.le_antisymm (kJ.mp h) (kJ.mp k);clear k h;cases a;cases b;exact HL Str.mk (Array.toList_inj.mp this)
theorem abf(a b c:HP)(h:za a b=Hq)(k:za b c=Hq):za a c=Hq:=kJ.mpr (List.le_trans (kJ.mp h) (kJ.mp k))
def sL(ns:Hn HP):Hn HP:=ns.mergeSort za
theorem acO(ns:Hn HP):(sL ns).Perm ns:=Pb ns _
theorem abt(ns:Hn HP):(sL ns).Pairwise (λa b=>za a b=Hq):=OD abf (λa b=>by
 rw[JA,kJ,kJ];exact List.le_total _ _) ns
theorem aeK(l:Hn HP):∀(p:HP),PyProof.Rows.risingS p l=Hq->(p::l).Pairwise (λa b=>za a b=Hq):=by
 induction l with
 |nil=>intro p _;exact List.pairwise_singleton _ _
 |cons x r bY=>
  intro p h;refine ew (IU.mp h) λh1 h2=>?_;obtain ih:=bY x h2;refine Mr.mpr ⟨λy hy=>?_,ih⟩;clear h h2;rcases Hw.mp hy with rfl|hy
  ·exact h1
  ·exact abf _ _ _ h1 ((Mr.mp ih).1 y hy)
theorem aeF(h:PyProof.Rows.sortedS l=Hq):l.Pairwise (λa b=>za a b=Hq):=by
 cases l with
 |nil=>exact .nil
 |cons x r=>exact aeK r x h
def y6:Hn V->Hp V:=λvs=>match vs with|[v]=>(listOfD v.x).bind λB=>(sx B).bind λns=>if ns.length<64 then hb ⟨.list ((sL ns).map .str),.d⟩else Hu|_=>Hu
theorem cg.sortedS:cg Y w U n (.builtin "sorted") y6:=by
 intro A Hz K ae X C L O s us vs v Q E hA I r R hQ;cases vs with
 |nil=>exact no R
 |cons a t=>cases t with
  |cons _ _=>exact no R
  |nil=>
   obtain⟨B,h1,R⟩:=ao R;obtain⟨ns,h2,R⟩:=ao R;revert R;refine jl λEB R=>?_;have e:=si R;subst e;clear R;refine aQ r.iO λo1 o2 r1=>?_;subst o2;obtain⟨as,ra,ca,oa⟩:=r1;rw[cT h1]at ra ca;obtain rfl:=adb h2;induction ra.listI with|mk d us m cs a1 a2=>?_
   obtain hl:us.length=ns.length:=by have:=a2.length;rw[Hr]at this;exact this
   refine PyProof.Rows.sorted_strs ⟨_,a1,rfl,_,rfl⟩ a2.ado (Rp hl EB) λout FK b1 b2 b3=>?_;obtain rfl:=aaU ahj (b2.trans (acO ns).symm) (aeF b3) (abt ns);refine dz (PyProof.Rows.sortedAll_at s.heap us out) λe he=>hQ _ _ ⟨_,s.toks,rfl,λb o q=>PyProof.Rows.sortedAll_old q⟩ ⟨[s.heap.objs.size+1],.list (vs:=out.toList) (n:=e) (by simpa using he) (ahr b1),?_,?_⟩
   ·rw[aV]at ca⊢;refine⟨Hs ?_ (by decide:64<=sizeLine),(cN _).mpr λx hx=>?_⟩
    ·rw[Hr,b2.length_eq];exact IK EB
    ·refine aQ (HX.mp hx) λi hi o1=>?_;subst o1;exact(cN _).mp ca.2 _ (Nn (b2.subset hi))
   ·intro c hc;exact(HB.mp hc).symm▸I.fresh (aR _ (J1 _))
noncomputable def pP(lo hi:Hp HI)(B ys:Hn α):Hn α:=B.take (Jr lo hi Hu B.length).1.toNat++ys++B.drop (max (Jr lo hi Hu B.length).1 (Jr lo hi Hu B.length).2.1).toNat
theorem adw(lo hi:Hp HI)(B ys:Hn HE):(B.toArray.extract 0 (Jr lo hi Hu B.toArray.size).1.toNat++ys.toArray++B.toArray.extract (max (Jr lo hi Hu B.toArray.size).1 (Jr lo hi Hu B.toArray.size).2.1).toNat).toList=pP lo hi B ys:=by unfold pP;simp[List.extract_eq_drop_take',Kl]
theorem adM(h:fw B=Hq)(k:∀y,y∈ys->y∈B):fw ys=Hq:=(cN _).mpr λy hy=>(cN _).mp h y (k y hy)
variable{j:HG}{lo hi:Hp HI}
theorem aaL{vl:HE}{Q:Nq->HM->Prop}(hl:s.heap.get? l=hb (cq dU j))(hd:s.heap.get? yB=hb (cq su k))(hn:(l==yB)=HH)
  (hs:s.heap.IsSliceOf sl vl vu .none)(pl:IsPart vl lo)(pu:IsPart vu hi)(hz:dU.length+su.length<=sizeLine)(U:(pP lo hi dU su).length<=sizeLine)
  (hQ:∀h' j',h'.get? l=hb (cq (pP lo hi dU su) j')->KS l s.heap h'->Q () {s with heap:=h'}):wpAny (Iq Y w) A (OG (.ref l) (.ref sl) (.ref yB)) Q E s:=by
 obtain hL:s.heap.IsList l dU.toArray:=⟨_,hl,rfl,_,rfl⟩;refine kK (id hs) λos Bq GO De=>?_;obtain FT:s.TypeIs (.ref sl) "slice":=⟨os,Bq,GO⟩;refine KR<|Ht (Od hL.typeIs (by decide) (Ht (JV (name:=HA "__setitem__") hL.typeIs MZ
  (KU MZ hL.typeIs Qu ?_ (QH _ _ _)))))
 show wpAny _ _ (LX (.ref sl)>>=_) _ _ s;refine Ht ?_;unfold LX;refine Ht (OE FT slice_no_index (wI rfl (HV (Ht (L7 FT (wN (by decide) ?_))))));rw[listSliceParts_eq];refine Ht (Ht (Jx Bq De (x:=.none) rfl (Ht (OU .none (wN (show¬(rawPart Hu==OP 0)=Hq from ID) (Ht (Jx Bq De (x:=vl) rfl (Ht (OU pl (Ht (Jx Bq De (x:=vu) rfl (Ht (OU pu (HV (wN (show¬Mi (.ref l) (.ref yB)=Hq fromλe=>ID (hn.symm.trans e)) (Ht (m:=Ra (.ref yB) _) (Ht (L7 (T:="list") ⟨_,hd,rfl⟩ (wI (by decide) (Ht (J8 hd rfl (HV (Ht (m:=Rb (.ref l)) (Ht (J8 hl rfl (HV (Ht (P5 (sliceIndices_raw lo hi Hu _ (by nofun)) (wI (show((Jr lo hi Hu dU.toArray.size).2.2==1)=Hq from rfl)<|Ht (Nj ?_))))))))))))))))))))))))))))));have ht:NJ (dU.toArray.size+su.toArray.size)=HH:=by exact Iw (JH.mpr hz)
 refine wN (show¬NJ (dU.toArray.size+su.toArray.size)=Hq fromλe=>ID (ht.symm.trans e)) (Ht (Nm hl rfl (Ht (Nz (HV ⟨.none,rfl,HV ?_⟩))) ?_ ?_))
 ·refine dz (gj dU j λzs=>zs.extract 0 (Jr lo hi Hu dU.toArray.size).1.toNat++su.toArray++zs.extract (max (Jr lo hi Hu dU.toArray.size).1 (Jr lo hi Hu dU.toArray.size).2.1).toNat) λj' ej=>hQ _ j' ?_ (JL _ _ _);exact(Jb _ hl rfl).trans (HL hb (ej.trans (HL (cq · j') (adw lo hi dU su))))
 ·exact Hs (Ib _ _) hz
 ·refine Array.length_toList▸(adw lo hi dU su).symm▸?_;exact JZ U
def qL(o:Hp VV)(v:V)(lo hi:Hp HI):Hp VV:=match o with
 |some (.own (.lst B))=>(listOfD v.x).bind λys=>if v.fl=.d/\B.length+ys.length<=sizeLine/\(pP lo hi B ys).length<=sizeLine then hb (.own (.lst (pP lo hi B ys)))else Hu
 |_=>Hu
inductive aj8(v:V)(lo hi:Hp HI):VV->VV->Prop
 |mk (B ys:Hn Ho) (hv:v=⟨.list ys,.d⟩) (h1:B.length+ys.length<=sizeLine) (h2:(pP lo hi B ys).length<=sizeLine):aj8 v lo hi (.own (.lst B)) (.own (.lst (pP lo hi B ys)))
theorem abL{o:Hp VV}(h:qL o fb lo hi=hb FG):∃y,o=hb y/\aj8 fb lo hi y FG:=by
 cases o with
 |none=>exact no h
 |some y=>cases y with
  |val _=>exact no h
  |own y=>cases y with
   |lq _=>exact no h
   |tree _ _=>exact no h
   |lst B=>obtain⟨ys,h1,h⟩:=ao h;revert h;refine jl λhz h=>(si h)▸?_;obtain⟨vx,vf⟩:=fb;refine i12 _ rfl (.mk B ys ?_ hz.2.1 hz.2.2);(exact(show vx=.list ys from cT h1).symm▸(show vf=.d from hz.1).symm▸rfl)
theorem bH.take(k:HG)(r:bH Y w Hz h vs B as):∃bs,bH Y w Hz h (vs.take k) (B.take k) bs/\∀b∈bs,b∈as:=by
 induction k generalizing vs B as with
 |zero=>exact⟨[],.nil,λ_ h=>nomatch h⟩
 |succ k ih=>cases r with
  |nil=>exact⟨[],.nil,λ_ h=>nomatch h⟩
  |cons a b=>exact aQ (ih b) λbs r q=>i12 _ (.cons a r) (λx hx=>(HD.mp hx).elim (HF _) λhx=>Hx _ (q x hx))
theorem bH.drop(k:HG):∀{vs:Hn HE}{B:Hn Ho}{as:Hn Hv},bH Y w Hz h vs B as->∃bs,bH Y w Hz h (vs.drop k) (B.drop k) bs/\∀b∈bs,b∈as:=by
 induction k with
 |zero=>exactλr=>⟨_,r,λ_ h=>h⟩
 |succ k ih=>intro vs B as r;exact r.casesOn ⟨[],.nil,λ_ h=>nomatch h⟩ λa b=>aQ (ih b) λbs r q=>i12 bs r λx hx=>Hx _ (q x hx)
set_option tactic.hygienic true in
theorem S1.an2{x:HP}{lo hi:Hp HR}{e:HR}{np sp p pos:J3}{ml mh:ar->Hp (Hp HI)}{m:ar->Hp V}(FL:Pt Y w U n sc lo ml)(hhi:Pt Y w U n sc hi mh)(h:Ev Y w U n sc e m)(hv:aA sc x=Hq)(iS:∀K:Ke,JU e (hb (.Subscript (.Name x np) (.Slice lo hi Hu sp) p)) pos.line K=pure HH):
  S1 Y w U n sc (.Assign [.Subscript (.Name x np) (.Slice lo hi Hu sp) p] e pos) (λL=>(m L).bind λv=>(ml L).bind λa=>(mh L).bind λb=>(qL (L x) v a b).map λz=>.next (L.set x z)):=by
 intro A Hz K ae X C L O s r Q E hs hA I R hQ;obtain⟨v,k9,R⟩:=ao R;obtain⟨a,ha,R⟩:=ao R;obtain⟨b,aO,R⟩:=ao R;refine aQ (H6.mp R) λz hz R=>?_;subst R;refine aQ (abL hz) λy hx H=>?_;clear hz;clear R;induction H with|mk B ys e1 h1 h2=>?_
 clear R z;subst e1;refine Kr (h hs hA I.toInF k9 λu ay ah aL=>(I.grow ah).owned (by exact hs.symm▸hv) hx (λ_ _ q=>by cases q) λl hO r=>PW (FL hs hA (I.grow ah).toInF ha λyr aN aI uU=>hhi hs hA ((I.grow ah).grow aI).toInF aO λyl dN dO wt=>?_)) (iS K);refine HV ?_;have kk:=ab aI (ab dO (bE dN {cls:=.type "slice",data:=.fields #[KH yr,KH yl,.none]}));obtain qa:=(I.grow ah).grow kk;have r:=r.grow (ag kk);obtain aL:=aL.grow (ag kk);obtain⟨bs,rv,cv,ov⟩:=aL;clear iS hv h hhi FL pos p sp np hi lo aO ha k9 dO aI aN aL R I hA hs;induction rv.listI with|mk d us m cs b1 b2=>?_
 obtain hW:l∈WW K C O:=cB hO (.head _);have gq:(l==d)=HH:=HO.mpr λe=>(ov d (.head _)).2 (e▸hW);clear hW rv bs e u R;induction r.AM with|mk vs j as a1 a2 c f=>?_
 have hl:=a2.length;obtain zX:=b2.length;obtain a8:(pP a b vs us).length=(pP a b B ys).length:=by unfold pP;simp only[HN,J9,Li,hl,zX]
 refine aaL a1 b1 gq (QK ..) (IsPart.of uU) (IsPart.of wt) (by(refine hl.symm▸?_;refine zX.symm▸?_);exact h1) (by exact a8.symm▸h2) λh' j' D9 gy=>?_;refine hQ O _ (qa.s9 hx hO gy ⟨_,D9,bw _ _⟩ λu' r' off=>?_) ((Step.cM (bA.trans (ag ah) (ag kk))).trans (nJ hO gy));clear mh ml a1 b1 m h1 a8 zX gq qa kk gy j wt uU hO ah hx hQ E Q r s X A L;cases r' with
 |lst _ _ _ _=>
  have a2':=a2.off off λy hy=>(f y hy).2;obtain b2':=b2.off off λy hy=>(ov y (.tail _ hy)).2;refine aQ (a2'.take (Jr a b Hu B.length).1.toNat) λt1 q1 g1=>aQ (a2'.drop (max (Jr a b Hu B.length).1 (Jr a b Hu B.length).2.1).toNat) λt2 q2 g2=>.lst (as:=(t1++cs)++t2) D9 (by unfold pP;exact hl.symm▸(q1.append b2').append q2) (aV.mpr ⟨h2,?_⟩) ?_
  ·rw[aV]at c cv;unfold pP;rw[eI,eI,cv.2,adM c.2 λ_=>Kc,adM c.2 λ_=>Lc];rfl
  ·exact da.append (da.append (f.mono g1) (ov.mono λy hy=>.tail _ hy)) (f.mono g2)
def qG(vs:Hn V):Hp Ho:=match vs with
 |[v]=>(listOfD v.x).bind λB=>if b7 B=Hq then hb (.list B)else Hu
 |_=>Hu
theorem lT.list{es:Hn HR}{np pos:J3}{ms:ar->Hp (Hn V)}(hx:aY sc "list"=Hq)(hg:bt U "list" (.type "list"))(h:rL Y w U n sc es ms)(er:∀K:Ke,(J4 pos (Ie es K)).any (·.1)=HH):
  lT Y w U n sc (.Call (.Name (HA "list") np) es [] pos) (λL=>(ms L).bind qG):=by
 intro A Hz K ae X C L O s d Q E hs hA I;refine ak λvs ni R hQ=>?_;cases vs with
 |nil=>exact no R
 |cons v t=>cases t with
  |cons _ _=>exact no R
  |nil=>
   obtain⟨B,h1,R⟩:=ao R;revert R;refine jl λhf R=>?_;have e:=si R;subst e;clear R;refine Ht (dh I (by exact hs.symm▸hx) hg (dY (.inr (.inl ⟨_,rfl⟩)) (er K) (h hs hA I ni λus ay ah aL=>⟨(I.grow ah).base.grow,?_⟩)));clear er h hg hx pos np es R ni I hA hs X L;obtain⟨_,rfl,as,ra,ca,oa⟩:=aL.iO;rw[cT h1]at ra ca;clear ms oa h1 aL O C ae K;induction ra.listI with|mk d us m cs a1 a2=>?_
   rw[aV]at ca;refine O8 _ (.inl rfl) a1 rfl rfl (λh' c' k q=>?_) (by simp[a2.length];exact ca.1);refine hQ _ [ay.heap.objs.size] _ (ab ah ⟨h',ay.toks,rfl,k⟩) ?_ (HZ.mpr ⟨nofun,I9⟩) (aV.mpr ca) λa ha=>?_
   ·obtain z:=a2.bT hf;clear a1 m v ca ra as hf hQ E Q d A;subst z;exact .list q (a2.grow k)
   ·refine(HB.mp ha).symm▸?_;clear a2 a1 m v ca ra as ha a q k c' h' us hf hQ E Q d Hz A;cases e:s.heap.get? ay.heap.objs.size with
    |none=>rfl
    |some o=>exact IG (II (ag ah _ _ e)) (JW _)
def j8(C:Hv)(ns:Hn HP)(y:HP)(d:Ho):Hp Ho:=(rx C d).bind λq=>if y∈ns then atKey y q.2 else Hu
inductive ajY(Y:IB)(w:Ja)(Hz:Hn Hv)(h:Iv)(m:HP->Hp HE)(y:HP)(x:Ho)(bs:Hn Hv)(gs:Hn (HP×Ho)):Prop
 |mk (v:HE) (ds:Hn Hv) (q:HP×Ho) (h1:m y=hb v) (h2:RD Y w Hz h v x ds) (h3:∀d∈ds,d∈bs) (h4:q∈gs) (h5:q.2=x):ajY Y w Hz h m y x bs gs
theorem agv{m:HP->Hp HE}:∀{vs:Hn HE}{bs:Hn Hv},gs.map (λp=>m p.1)=vs.map hb->bH Y w Hz h vs (gs.map (·.2)) bs->atKey y (gs.map λp=>(.str p.1,p.2))=hb gc->ajY Y w Hz h m y gc bs gs:=by
 induction gs with
 |nil=>exactλ_ _ e=>no e
 |cons g gs ih=>
  intro vs bs e r e';cases vs with
  |nil=>exact nomatch e
  |cons v vs=>
  refine ew (IP e) λe0 e1=>j4 r.cons_inv λas bs o1 r1 r2=>?_;subst o1;change(if g.1=y then hb g.2 else atKey y (gs.map λp=>(.str p.1,p.2)))=hb gc at e';by_cases hk:g.1=y
  ·rw[H5 hk]at e';have:=si e';subst this;exact⟨v,as,g,hk▸e0,r1,λd hd=>HF _ hd,.head _,rfl⟩
  ·rw[Ir hk]at e';obtain⟨v,ds,q,a,b,c,d,f⟩:=ih e1 r2 e';exact⟨v,ds,q,a,b,λd hd=>Hx _ (c d hd),.tail _ d,f⟩
theorem Ev.j8(KC:j7 ns U C mC)(h:Ev Y w U n sc e m)(he:lL e y pos):
  Ev Y w U n sc (.Attribute e y pos) (λL=>(m L).bind λv=>(Mine.j8 C ns y v.x).map λx=>V.fix x v.fl):=by
 intro A Hz K ae X C' L O s v Q E hs hA I;refine ak λv0 hv R hQ=>?_;induction dI R with|mk z hz=>?_
 obtain⟨q,hq,hz⟩:=ao hz;revert hz;refine jl λhy hz=>PyProof.Rows.Attribute_any_ (h hs hA I hv λu ay ah aL=>?_) (he K);obtain⟨as,rd,c,fl⟩:=aL;obtain⟨a,dx,rs,gs,vs,mm,bs,rfl,hx,rfl,rfl,i,h5,h6,h7,r⟩:=rd.ke hq;obtain⟨v',ds,p,g1,g2,g3,g4,g5⟩:=agv h6 r hz;rw[hx,aga]at c;refine ia KC (I.grow ah).base.grow i hy g1 g2.handed λs' k e=>hQ _ _ (ab ah k) (dK.fixed (by exact e.symm▸g2) ?_ (fl.mono λb aO=>.tail _ (.tail _ (g3 b aO))));exact g5▸vy c.2.2 g4
def BE(Y:IB)(w:Ja)(U:Iv)(n:HG)(sc:IH)(e:HR)(m:ar->Hp Ho):Prop:=
 ∀{{A:Jh}} {{Hz:Hn Hv}} {{K:Ke}} {{ae:HM}} {{X C:Hn Hv}} {{L:ar}} {{O:Hn (HP×Hn Hv)}} {{s:HM}} {{x:Ho}} {{Q:HE->HM->Prop}} {{E:HE->HM->Prop}},
  K.scope=sc->ey A n->InF Y w Hz U ae X K C L O s->m L=hb x->(∀u as s',I8 s s'->RD Y w Hz s'.heap u x as->wf x=Hq->(∀a∈as,a∈X∨ae.heap.get? a=Hu)->Q u s')->wpAny (Iq Y w) A (Jf e K) Q E s
def tj(Y:IB)(w:Ja)(U:Iv)(n:HG)(sc:IH)(es:Hn HR)(m:ar->Hp (Hn Ho)):Prop:=
 ∀{{A:Jh}} {{Hz:Hn Hv}} {{K:Ke}} {{ae:HM}} {{X C:Hn Hv}} {{L:ar}} {{O:Hn (HP×Hn Hv)}} {{s:HM}} {{B:Hn Ho}} {{pos:J3}} {{Q:Hn HE->HM->Prop}} {{E:HE->HM->Prop}},
  K.scope=sc->ey A n->InF Y w Hz U ae X K C L O s->m L=hb B->(∀us as s',I8 s s'->bH Y w Hz s'.heap us B as->fw B=Hq->(∀a∈as,a∈X∨ae.heap.get? a=Hu)->Q us s')->wpAny (Iq Y w) A (QE (J4 pos (Ie es K))) Q E s
noncomputable def sT(v:V):Hp Ho:=match v.fl with
 |.d=>hb v.x
 |_=>Hu
noncomputable def pI(o:Hp VV):Hp Ho:=match o with
 |some (.own (.tree _ d))=>hb d
 |_=>Hu
theorem BE.val(h:Ev Y w U n sc e m):BE Y w U n sc e (λL=>(m L).bind sT):=by
 intro A Hz K ae X C L O s x Q E hs hA I;refine ak λv hv R hQ=>?_;obtain⟨y,f⟩:=v;cases f with
 |d=>have:=si R;subst this;refine h hs hA I hv λu s' k r=>?_;obtain⟨as,ra,ca,oa⟩:=r;exact hQ u as s' k ra ca λa ha=>.inr (oa a ha).1
 |_=>exact no R
theorem BE.own{p:J3}(hv:aA sc x=Hq):BE Y w U n sc (.Name x p) (λL=>pI (L x)):=by
 intro A Hz K ae X C L O s d Q E hs hA I R hQ;change pI (L x)=hb d at R;clear hA;cases hx:L x with
 |none=>rw[hx]at R;exact no R
 |some vv=>
  rw[hx]at R;cases vv with
  |val _=>exact no R
  |own o=>cases o with
   |lst _=>exact no R
   |lq _=>exact no R
   |tree ro d'=>
    have:=si R;clear R;subst this;refine I.agx (by exact hs.symm▸hv) hx λu sp e r=>?_;clear hv p hs E A;induction r.pz with|mk _ a b c _ _=>?_
    exact hQ _ _ s (aD s) a c λy hy=>(Classical.em (y∈X)).imp id λhX=>(I.bZ y (cB e hy)).2 hX
theorem tj.nil:tj Y w U n sc [] (λ_=>hb []):=by intro A Hz K ae X C L O s B pos Q E hs hA I R hQ;rw[<-si R]at hQ;exact LB (hQ [] [] s (aD s) .nil rfl λ_ h=>nomatch h)
variable{es:Hn HR}{ms:ar->Hp (Hn Ho)}
theorem tj.cons{m:ar->Hp Ho}(h:BE Y w U n sc e m)(gy:tj Y w U n sc es ms)(he:∀K,Ie (e::es) K=(HH,Jf e K)::Ie es K):
  tj Y w U n sc (e::es) (λL=>(m L).bind λa=>(ms L).map (a::·)):=by
 intro A Hz K ae X C L O s vs pos Q E hs hA I;refine ak λa ha R hQ=>aQ (H6.mp R) λas has o1=>?_;subst o1;refine Kt (h hs hA I ha λu bs ay ah aL c₁ CR=>gy hs hA (I.grow ah) has λus cs aN aI cY c₂ aqf=>?_) (he _);exact hQ _ _ _ (ab ah aI) (.cons (aL.grow (ag aI)) cY) (by simp only[fw,c₁,c₂,MG]) λy hy=>(HD.mp hy).elim (CR y) (aqf y)
theorem S1.apW(h:tj Y w U n sc es ms):
  S1 Y w U n sc (.Return (hb (.Tuple es k tp)) pos) (λL=>(ms L).bind λB=>if B.length<=sizeLine then hb (.ret (.tuple B))else Hu):=by
 intro A Hz K ae X C L O s r Q E hs hA I;refine ak λB s6=>jl λhz R hQ=>?_;have e:=si R;subst e;clear R;refine L3 (wpAny_Tuple (h hs hA I.toInF s6 λus as ay ah aL c₁ CR=>⟨by exact aL.length.symm▸hz,?_⟩));refine hQ _ as O L _ ((I.grow ah).grow (bE ay (kA us 0))) (.tuple (H7 _ rfl) (λR=>?_) (aL.grow (bA.push _ _))) (dk.mpr ⟨hz,c₁⟩) CR;obtain⟨_,o,e,_⟩:=(I.grow ah).base.hide _ R;exact IG (II e) (JW _)
structure iK where
 k:HG
 x:HP
 a:HR
 b:HR
 d:HR
 es:Hn HR
 op:LK
 bo:L1
 un:UnaryOp
 co:QL
 cs:Hn Nu
 gs:Hn Lb
 sc:IH
 ks:Hn Ks
 oe:Hn (Hp HR)
 o1:Hp HR
 o2:Hp HR
 o3:Hp HR
 n:HG
 p:J3
noncomputable def ve(k:HG)(a:HR)(es:Hn HR)(p:J3):iK:=⟨k,default,a,default,default,es,.Add,.And,.Not,.none,[],[],default,[],[],Hu,Hu,Hu,0,p⟩
def aa(e:HR):iK:=match e with
 |.BoolOp bo es p=>{ve 0 e es p with bo:=bo}
 |.BinOp a op b p=>{ve 2 a [] p with op:=op,b:=b}
 |.UnaryOp un a p=>{ve 3 a [] p with un:=un}
 |.IfExp a b d p=>{ve 5 a [] p with b:=b,d:=d}
 |.Dict oe es p=>{ve 6 e es p with oe:=oe}
 |.ListComp a gs s p=>{ve 8 a [] p with gs:=gs,sc:=s}
 |.Compare a cs es p=>{ve 15 a es p with cs:=cs}
 |.Call a es ks p=>{ve 16 a es p with ks:=ks}
 |.Constant co m p=>{ve 19 e [] p with co:=co,n:=m}
 |.Attribute a x p=>{ve 20 a [] p with x:=x}
 |.Subscript a b p=>{ve 21 a [] p with b:=b}
 |.Name x p=>{ve 23 e [] p with x:=x}
 |.List es p=>ve 24 e es p
 |.Tuple es m p=>{ve 25 e es p with n:=m}
 |.Slice l u s p=>{ve 26 e [] p with o1:=l,o2:=u,o3:=s}
 |_=>ve 99 e [] default
noncomputable def bK(k:HG)(q:iK):HR:=
 bif k==0 then .BoolOp q.bo q.es q.p else bif k==2 then .BinOp q.a q.op q.b q.p else bif k==3 then .UnaryOp q.un q.a q.p else bif k==5 then .IfExp q.a q.b q.d q.p else
 bif k==6 then .Dict q.oe q.es q.p else bif k==8 then .ListComp q.a q.gs q.sc q.p else bif k==15 then .Compare q.a q.cs q.es q.p else bif k==16 then .Call q.a q.es q.ks q.p else
 bif k==19 then .Constant q.co q.n q.p else bif k==20 then .Attribute q.a q.x q.p else bif k==21 then .Subscript q.a q.b q.p else bif k==23 then .Name q.x q.p else
 bif k==24 then .List q.es q.p else bif k==25 then .Tuple q.es q.n q.p else bif k==26 then .Slice q.o1 q.o2 q.o3 q.p else q.a
theorem adT(e:HR):e=bK (aa e).k (aa e):=by cases e<;>rfl
theorem dy(h:(aa e).k=k):e=bK k (aa e):=h▸adT e
noncomputable def gA(k:HG)(e:HR):Ig:=Nat.beq e.ctorIdx k
structure BO where
 k:HG
 ts:Hn HR
 e:HR
 t:HR
 oe:Hp HR
 op:LK
 b1:Hn IM
 b2:Hn IM
 p:J3
 st:IM
noncomputable def au(s:IM):BO:=match s with
 |.Return oe p=>⟨3,[],default,default,oe,.Add,[],[],p,s⟩
 |.Assign ts e p=>⟨5,ts,e,default,Hu,.Add,[],[],p,s⟩
 |.AugAssign t op e p=>⟨7,[],e,t,Hu,op,[],[],p,s⟩
 |.For t e b1 b2 p=>⟨9,[],e,t,Hu,.Add,b1,b2,p,s⟩
 |.While t b1 b2 p=>⟨11,[],default,t,Hu,.Add,b1,b2,p,s⟩
 |.If t b1 b2 p=>⟨12,[],default,t,Hu,.Add,b1,b2,p,s⟩
 |.Expr e p=>⟨24,[],e,default,Hu,.Add,[],[],p,s⟩
 |.Pass p=>⟨25,[],default,default,Hu,.Add,[],[],p,s⟩
 |_=>⟨99,[],default,default,Hu,.Add,[],[],default,s⟩
noncomputable def bS(k:HG)(q:BO):IM:=
 bif k==3 then .Return q.oe q.p else bif k==5 then .Assign q.ts q.e q.p else bif k==7 then .AugAssign q.t q.op q.e q.p else bif k==9 then .For q.t q.e q.b1 q.b2 q.p else
 bif k==11 then .While q.t q.b1 q.b2 q.p else bif k==12 then .If q.t q.b1 q.b2 q.p else bif k==24 then .Expr q.e q.p else bif k==25 then .Pass q.p else q.st
theorem acp(s:IM):s=bS (au s).k (au s):=by cases s<;>rfl
theorem zJ{s:IM}(h:(au s).k=k):s=bS k (au s):=h▸acp s
noncomputable def gd(c:Ig)(o:Hp α):Hp α:=bif c then o else Hu
inductive GdI{α:Type}(c:Ig)(o:Hp α)(z:α):Prop
 |mk (h:c=Hq) (e:o=hb z):GdI c o z
variable{c:Ig}
theorem fJ{o:Hp α}{z:α}(h:gd c o=hb z):GdI c o z:=by
 cases c with
 |false=>exact no h
 |true=>exact⟨rfl,h⟩
noncomputable def mK(a b:Hp α):Hp α:=match a with
 |some x=>hb x
 |none=>b
theorem uy{a b:Hp α}{z:α}(h:mK a b=hb z):a=hb z∨b=hb z:=by
 cases a with
 |some x=>exact .inl h
 |none=>exact .inr h
theorem aw[BEq α][Pm α]{a b:α}(h:(a==b)=Hq):a=b:=KA.mp h
inductive amT(a b:Ig):Prop
 |mk (h1:a=Hq) (h2:b=Hq):amT a b
theorem aj{a b:Ig}(h:(a&&b)=Hq):amT a b:=by
 cases a with
 |true=>exact⟨rfl,h⟩
 |false=>cases h
theorem cE{a:Ig}(h:(!a)=Hq):a=HH:=by
 cases a with
 |false=>rfl
 |true=>cases h
theorem Ev.nil:Ev Y w U n sc e (λ_=>Hu):=by intro A Hz K ae X C L O s v Q E hs hr I R hQ;exact no R
theorem Tr.nil:Tr Y w U n sc e (λ_=>Hu):=by intro A Hz K ae X C L O s v Q E hs hr I R hQ;exact no R
theorem Ev.at(h:∀L v,m L=hb v->∃m',m' L=hb v/\Ev Y w U n sc e m'):Ev Y w U n sc e m:=by intro A Hz K ae X C L O s v Q E hs hr I R hQ;exact aQ (h L v R) λm' e' r=>r hs hr I e' hQ
theorem Ev.gd(h:c=Hq->Ev Y w U n sc e m):Ev Y w U n sc e (λL=>gd c (m L)):=by
 cases c with
 |false=>exact Ev.nil
 |true=>exact h rfl
structure Syn(e:HR):Prop where
 star:gA 22 e=HH->∀es K,Ie (e::es) K=(HH,Jf e K)::Ie es K
 sub:gA 26 e=HH->∀o j,∃jw,Lp e HH o j=Nh jw (L2 o j)
 set:gA 7 e=HH->∀K x,MV e K x=pure x
 tst:(gA 0 e||gA 3 e||gA 5 e||gA 15 e)=HH->∀K whole,Qj e K whole=(do let v<-whole;Pu e.pos;Oa [v] (Qk v))
 Ck:(gA 8 e||gA 9 e||gA 10 e)=HH->∀t k K,JU e t k K=pure HH
 Cv:gA 16 e=HH->∀y K x,J2 e y K x=x
theorem nf(e:HR):Syn e:=by cases e<;>constructor<;>first|(intros;rfl)|(intro _ _ _;exact⟨_,rfl⟩)|(intro h;exact IG (show Hq=HH from h) Iu)
def cV(es:Hn HR):Ig:=es.all λe=> !gA 22 e
theorem cm(h:cV (e::es)=Hq):gA 22 e=HH/\cV es=Hq:=by obtain⟨h1,h2⟩:=aj (show(!gA 22 e&&cV es)=Hq from h);exact⟨cE h1,h2⟩
theorem ip(pos:J3)(K:Ke)(h:cV es=Hq):(J4 pos (Ie es K)).any (·.1)=HH:=by
 induction es with
 |nil=>rfl
 |cons e es ih=>rw[(nf e).star (cm h).1];exact ih (cm h).2
theorem jv(h:cV [e]=Hq)(K:Ke):Ie [e] K=[(HH,Jf e K)]:=(nf e).star (cm h).1 [] K
theorem zl(h:cV [e,jo]=Hq)(K:Ke):Ie [e,jo] K=[(HH,Jf e K),(HH,Jf jo K)]:=by rw[(nf e).star (cm h).1];exact HL _ (jv (cm h).2 K)
structure JC where
 F:HP->Hn Ho->Hp Ho
 K:HP->Hp Ho
 M:HP->Hn Ho->Hp Ho
 T:HP->Hp Ho
 S:Hp (Hv×Hv×Hv×Hn Ho)
 P:HP->Hn Ho->Hp Ho
 R:HP->Hn Ho->Hp (Ho×Ho)
 N:HP->Hn Ho->Hp Ho
 I:Hp (Hv×Hn HP)
abbrev JR:=HR->IH->ar->Hp V×Hp Ig
noncomputable def rR(r:JR)(sc:IH):Hn HR->ar->Hp (Hn V)
 |[],_=>hb []
 |e::es,L=>(r e sc L).1.bind λa=>(rR r sc es L).bind λas=>hb (a::as)
noncomputable def Ek(r:JR)(sc:IH)(op:L1):Hn HR->ar->Hp Ig
 |[],_=>hb (op==.And)
 |e::es,L=>(r e sc L).2.bind λb=>bif b==(op==.And)then Ek r sc op es L else hb b
noncomputable def E9(r:JR)(sc:IH)(op:L1):Hn HR->ar->Hp V
 |[],_=>Hu
 |e::es,L=>(r e sc L).1.bind λa=>bif es.isEmpty then hb a else(gY a.x).bind λb=>bif b==(op==.And)then E9 r sc op es L else hb a
def u7(r:JR)(sc:IH):Hp HR->ar->Hp (Hp HI)
 |none,_=>hb Hu
 |some e,L=>(r e sc L).1.bind λa=>(cD a.x).map hb
abbrev DG(Y:IB)(w:Ja)(U:Iv)(n:HG)(r:JR):Prop:=∀e sc,Ev Y w U n sc e (λL=>(r e sc L).1)/\Tr Y w U n sc e (λL=>(r e sc L).2)
section
variable{r:JR}(dn:DG Y w U n r)
include dn
theorem gM(sc:IH):∀es,cV es=Hq->rL Y w U n sc es (rR r sc es)
 |[],_=>rL.nil
 |e::es,hs=>rL.cons (dn e sc).1 (gM sc es (cm hs).2) ((nf e).star (cm hs).1 es)
theorem alA(sc:IH)(op:L1)(es:Hn HR):vb Y w U n sc op es (Ek r sc op es):=by
 induction es with
 |nil=>cases op with
  |And=>exact vb.amB
  |Or=>exact vb.am8
 |cons e es ih=>
  intro A Hz K ae X C L O s v Q E h1 hr I R hQ;obtain⟨b,e1,e2⟩:=ao R;cases op with
  |And=>refine vb.aiM (dn e sc).2 ih h1 hr I ?_ hQ;show(r e sc L).2.bind _=_;refine e1.symm▸?_;cases b<;>exact e2
  |Or=>refine vb.alZ (dn e sc).2 ih h1 hr I ?_ hQ;show(r e sc L).2.bind _=_;refine e1.symm▸?_;cases b<;>exact e2
theorem ak7(sc:IH)(op:L1)(es:Hn HR):xT Y w U n sc op es (E9 r sc op es):=by
 induction es with
 |nil=>intro A Hz K ae X C L O s v pos Q E h1 hr I R hQ;exact no R
 |cons e es ih=>
  intro A Hz K ae X C L O s v pos Q E h1 hr I R hQ;obtain⟨a,e1,e2⟩:=ao R;cases es with
  |nil=>exact xT.one (dn e sc).1 h1 hr I (e1.trans e2) hQ
  |cons e' es=>
   obtain⟨b,e3,e4⟩:=ao e2;clear e2 R;cases op with
   |And=>refine xT.and (dn e sc).1 ih h1 hr I ?_ hQ;show(r e sc L).1.bind _=_;refine e1.symm▸?_;show(gY a.x).bind _=_;refine e3.symm▸?_;cases b<;>exact e4
   |Or=>refine xT.or (dn e sc).1 ih h1 hr I ?_ hQ;show(r e sc L).1.bind _=_;refine e1.symm▸?_;show(gY a.x).bind _=_;refine e3.symm▸?_;cases b<;>exact e4
theorem mY(sc:IH):∀e,Pt Y w U n sc e (u7 r sc e)
 |none=>Pt.no
 |some e=>by
  have:=Pt.yes (dn e sc).1;intro A Hz K ae X C L O s v Q E h1 hr I R hQ;refine this h1 hr I ?_ hQ;obtain⟨a,e1,e2⟩:=ao R;show(r e sc L).1.bind _=_;refine e1.symm▸?_;obtain⟨x,f⟩:=a;clear e1 hQ R I hr h1 E Q s O L C X ae K Hz A;cases x with
  |int i=>exact e2
  |_=>exact no e2
end
def nm(e:HR):Hp HP:=gd ((aa e).k==23) (hb (aa e).x)
inductive Ei(x:HP):HR->Prop
 |mk (p:J3):Ei x (.Name x p)
theorem tn(h:nm e=hb x):Ei x e:=by obtain⟨h1,h2⟩:=fJ h;exact(dy (aw h1)).symm▸(si h2)▸⟨_⟩
noncomputable abbrev hd(es:Hn HR):HR:=es.headD default
noncomputable abbrev sd(es:Hn HR):HR:=es.tail.headD default
theorem nz(h:(es.length==1)=Hq):es=[hd es]:=by refine dz (Jp.mp (aw h)) λa o1=>?_;subst o1;rfl
theorem zD(h:(es.length==2)=Hq):es=[hd es,sd es]:=by refine pQ (IY (aw h)) λa t o1=>?_;subst o1;refine dz (Jp.mp (Jz (aw h))) λb o1=>?_;subst o1;rfl
def Dx(sc:IH)(e:HR):Hp HP:=gd ((aa e).k==16&&(aa e).ks.isEmpty&&cV (aa e).es) ((nm (aa e).a).bind λx=>gd (aY sc x) (hb x))
inductive GC(sc:IH)(x:HP)(es:Hn HR):HR->Prop
 |mk (p q:J3) (h:aY sc x=Hq) (hs:cV es=Hq):GC sc x es (.Call (.Name x p) es [] q)
theorem aoJ(h:Dx sc e=hb x):GC sc x (aa e).es e:=by obtain⟨h1,h2⟩:=fJ h;obtain⟨h1,h4⟩:=aj h1;obtain⟨h1,h3⟩:=aj h1;obtain⟨y,h5,h6⟩:=ao h2;obtain⟨h8,h7⟩:=fJ h6;clear h h6 h2;obtain rfl:=si h7;obtain e1:=dy (aw h1);obtain e2:=tn h5;generalize aa e=q at*;clear h7 h5 h1;obtain rfl:=e1;show GC sc y q.es (.Call q.a q.es q.ks q.p);refine(IC.mp h3).symm▸?_;revert e2;generalize q.a=a;intro e2;clear h3 h1;induction e2 with|mk p=>exact⟨p,q.p,h8,h4⟩
def aoz:Hn V->Hp V:=λvs=>match vs with|[v]=>(aol v.x).map λy=>⟨y,.d⟩|_=>Hu
noncomputable def apD:Hn V->Hp V:=λvs=>match vs with|[v]=>(match v.x with|.bool b=>hb ⟨.int (if b then 1 else 0),.d⟩|_=>Hu)|_=>Hu
noncomputable def ak0:Hn V->Hp V:=λvs=>match vs with|[v]=>(match v.x with|.list B=>hb (V.eL B v.fl)|.tuple B=>hb (V.eL B v.fl)|_=>Hu)|_=>Hu
def alz:Hn V->Hp V:=λvs=>match vs with|[v]=>(gK v.x).map λaW=>⟨.list (aW.map (·.1)),.d⟩|_=>Hu
def ur(vs:Hn V):Hp V:=mK (ak0 vs) (alz vs)
def bf(x:HP):Hp (Hn V->Hp V):=
 bif x=="len"then hb aoz else bif x=="int"then hb apD else bif x=="list"then hb ur else bif x=="all"then hb Co else
 bif x=="abs"then hb anN else bif x=="max"then hb CE else bif x=="sorted"then hb y6 else Hu
inductive ajH(Y:IB)(w:Ja)(U:Iv)(n:HG)(f:HP)(m:Hn Ho->Hp Ho):Prop
 |mk (p1 px p3:HP) (h:zp Y w U n f [p1,px,p3] px m) (gq:p1≠px/\p3≠px/\p3≠p1):ajH Y w U n f m
inductive afB(Y:IB)(w:Ja)(U:Iv)(n:HG)(C:Hv)(y:HP)(m:Hn Ho->Hp (Ho×Ho)):Prop
 |mk (p0 p1:HP) (h:pD Y w U n C y p0 p1 m):afB Y w U n C y m
inductive Gu(Y:IB)(w:Ja)(U:Iv)(n:HG)(cls:HP)(m:Hn Ho->Hp Ho):Prop
 |mk (C:Hv) (ps:Hn HP) (m':Hn Ho->Hp Ho) (k:HG) (h:s4 Y w U k C ps m') (g:bt U cls (.ref C)) (hk:k+1<=n) (e:∀B y,m B=hb y->m' (d9 C [] []::B)=hb y/\(ps.length=B.length)):Gu Y w U n cls m
structure ag1(Y:IB)(w:Ja)(U:Iv)(q:Hv×Hv×Hv×Hn Ho):Prop where
 C:∃mC,j7 aG U q.1 mC
 V:∃mV,j7 valNames U q.2.1 mV
 p:qW Y w U q.2.2.1 q.2.2.2
structure vd(Y:IB)(w:Ja)(U:Iv)(n:HG)(c:JC):Prop where
 B:BQ U
 all:bt U "all" (.builtin "all")
 abs:bt U "abs" (.builtin "abs")
 max:bt U "max" (.builtin "max")
 sorted:bt U "sorted" (.builtin "sorted")
 enumerate:bt U "enumerate" (.type "enumerate")
 zip:bt U "zip" (.type "zip")
 F:∀x B y,c.F x B=hb y->qK Y w U n x (c.F x)
 K:∀x d,c.K x=hb d->nF Y w U x d
 M:∀f B d,c.M f B=hb d->ajH Y w U n f (c.M f)
 T:∀f d,c.T f=hb d->zq Y w U n f d/\dD d=Hq
 S:∀q,c.S=hb q->ag1 Y w U q
 P:∀q,c.S=hb q->∀y B z,c.P y B=hb z->uP Y w U n q.1 y (c.P y)
 R:∀q,c.S=hb q->∀y B z,c.R y B=hb z->afB Y w U n q.1 y (c.R y)
 N:∀f B z,c.N f B=hb z->Gu Y w U n f (c.N f)
 I:∀q,c.I=hb q->∃mC,j7 q.2 U q.1 mC
theorem cg.aov:cg Y w U n (.type "list") ur:=by
 intro A Hz K ae X C L O s us vs v Q E hA I r R hQ;rcases uy R with q|q
 ·exact cg.list hA I r q hQ
 ·exact cg.amW hA I r q hQ
inductive aop(Y:IB)(w:Ja)(U:Iv)(n:HG)(x:HP)(m:Hn V->Hp V):Prop
 |mk (f:HE) (h1:bt U x f) (h2:Calls U f) (h3:cg Y w U n f m):aop Y w U n x m
theorem cx{a:α}{o:Hp α}{z:α}{P:Prop}(h:(bif c then hb a else o)=hb z)(k:c=Hq->a=z->P)(k':o=hb z->P):P:=by
 cases c with
 |true=>exact k rfl (si h)
 |false=>exact k' h
theorem anc(G:vd Y w U n cZq){m:Hn V->Hp V}(h:bf x=hb m):aop Y w U n x m:=by
 refine cx h (λhx e=>?_) λh=>cx h (λhx e=>?_) λh=>cx h (λhx e=>?_) λh=>cx h (λhx e=>?_) λh=>cx h (λhx e=>?_) λh=>cx h (λhx e=>?_) λh=>cx h (λhx e=>?_) λh=>no h
 ·clear h;subst e;exact(aw hx).symm▸⟨_,G.B.len,.inl ⟨_,rfl⟩,cg.len⟩
 ·clear h;subst e;exact(aw hx).symm▸⟨_,G.B.int,.inr (.inl ⟨_,rfl⟩),cg.int⟩
 ·clear h;subst e;exact(aw hx).symm▸⟨_,G.B.list,.inr (.inl ⟨_,rfl⟩),cg.aov⟩
 ·clear h;subst e;exact(aw hx).symm▸⟨_,G.all,.inl ⟨_,rfl⟩,cg.all⟩
 ·clear h;subst e;exact(aw hx).symm▸⟨_,G.abs,.inl ⟨_,rfl⟩,cg.abs⟩
 ·clear h;subst e;exact(aw hx).symm▸⟨_,G.max,.inl ⟨_,rfl⟩,cg.max⟩
 ·clear h;subst e;exact(aw hx).symm▸⟨_,G.sorted,.inl ⟨_,rfl⟩,cg.sortedS⟩
noncomputable def vt:Hn HR->Hp (Hn HP)
 |[]=>hb []
 |e::es=>(nm e).bind λx=>(vt es).map (x::·)
theorem aaX:∀{B:Hn HP},vt es=hb B->es.length=B.length/\∀K,N3 es K=B.zipWith (λx e=>(HH,PySem.assign (.Name x e.pos) K)) es:=by
 induction es with
 |nil=>intro B h;exact(si h)▸⟨rfl,λ_=>rfl⟩
 |cons e es bY=>
  intro B h;obtain⟨x,h1,h2⟩:=ao h;obtain⟨ys,hy⟩:=dI h2;obtain⟨h3,h4⟩:=bY hy;clear h hy h2;induction tn h1 with|mk p=>?_
  exact⟨HL (·+1) h3,λK=>HL ((HH,PySem.assign (.Name x p) K)::·) (h4 K)⟩
def tW(t:HR):Hp (Ig×Hn HP):=mK ((nm t).map λx=>(HH,[x])) (gd ((aa t).k==25) ((vt (aa t).es).map λB=>(Hq,B)))
def F7(q:Ig×Hn HP)(v:V)(L:ar):Hp ar:=bif q.1 then(yV v).bind λvs=>pq q.2 vs L else match q.2 with
 |[x]=>xJ x v L
 |_=>Hu
def pC(p:HP->Ig)(t:HR)(v:V)(L:ar):Hp ar:=(tW t).bind λq=>gd (q.2.all p) (F7 q v L)
inductive F2(q:Ig×Hn HP)(t:HR):Prop
 |one (x:HP) (p:J3) (h:q=(HH,[x])) (e:t=.Name x p):F2 q t
 |tup (es:Hn HR) (k:HG) (p:J3) (B:Hn HP) (h:q=(Hq,B)) (e:t=.Tuple es k p) (h1:es.length=B.length) (h2:∀K,N3 es K=B.zipWith (λx e=>(HH,PySem.assign (.Name x e.pos) K)) es):F2 q t
theorem tgE{q:Ig×Hn HP}(h:tW Az=hb q):F2 q Az:=by
 rcases uy h with h|h
 ·obtain⟨x,hx⟩:=H6.mp h;obtain⟨p⟩:=tn hx.1;exact .one x p hx.2.symm rfl
 ·obtain⟨h1,h2⟩:=fJ h;obtain⟨B,hx⟩:=H6.mp h2;exact .tup _ _ _ B hx.2.symm (dy (aw h1)) (aaX hx.1).1 (aaX hx.1).2
theorem afK(t:HR):Tg Y w U sc t (pC (aA sc) t):=by
 intro A Hz K ae X C L ft O s u v Q E hs hA I r R hQ;obtain⟨q,hq,h⟩:=ao R;obtain⟨ha,h⟩:=fJ h;rw[JM]at ha;clear R;rcases tgE hq with⟨x,p,rfl,rfl⟩|⟨es,k,p,B,rfl,rfl,h1,h2⟩
 ·exact Tg.name (ha x (.head _)) hs hA I r h hQ
 ·exact Tg.tuple ha h1 h2 hs hA I r h hQ
theorem tH:iP l x=Hq->x∈l:=by
 induction l with
 |nil=>intro h;exact nomatch h
 |cons y l bY=>
  intro h;rw[oq,JA,KA]at h;rcases h with h|h
  ·exact h.symm▸.head _
  ·exact .tail _ (bY h)
theorem ajh(locs:Hn HP)(t:HR):xO Y w U sc locs t (pC (λx=>jd sc x&&iP locs x) t):=by
 cases hq:tW t with
 |none=>exact⟨λv L ft h=>by unfold pC at h;rw[hq]at h;exact no h,λA Hz K ae X C L ft O s u v Q E hs hA I r R hQ=>by unfold pC at R;rw[hq]at R;exact no R⟩
 |some q=>
  have ja:∀v L,pC (λx=>jd sc x&&iP locs x) t v L=gd (q.2.all λx=>jd sc x&&iP locs x) (F7 q v L):=λv L=>by unfold pC;refine hq.symm▸?_;rfl
  cases ha:q.2.all λx=>jd sc x&&iP locs x with
  |false=>exact⟨λv L ft h=>by rw[ja,ha]at h;exact no h,λA Hz K ae X C L ft O s u v Q E hs hA I r R hQ=>by rw[ja,ha]at R;exact no R⟩
  |true=>
   have e:pC (λx=>jd sc x&&iP locs x) t=F7 q:=by funext v L;rw[ja,ha];rfl
   refine e.symm▸?_;rw[JM]at ha;have h1:∀x∈q.2,jd sc x=Hq:=λx hx=>(HU _ _▸ha x hx).1;have h2:∀x∈q.2,x∈locs:=λx hx=>tH (HU _ _▸ha x hx).2;clear e ja;rcases tgE hq with⟨x,p,rfl,rfl⟩|⟨es,k,p,B,rfl,rfl,h3,h4⟩
   ·exact xO.name (h1 x (.head _)) (h2 x (.head _))
   ·exact xO.tuple h1 h2 h3 h4
def tF(v:V):Hp (Hn Ho×Fl):=match v.x with|.int k=>if-(2^62)<=k/\k<=sizeLine then hb (lX k,.d)else Hu|_=>Hu
def aoO(v v':V):Hp (Hn Ho×Fl):=(sV v.x).bind λB=>(sV v'.x).map λys=>(rj B ys,v.fl.join v'.fl)
def vR(sc:IH)(e:HR)(x:HP)(k:HG):Ig:=(match Dx sc e with|some y=>y==x|none=>HH)&&(aa e).es.length==k
inductive CI1(sc:IH)(x:HP)(a e:HR):Prop
 |mk (p q:J3) (he:e=.Call (.Name x p) [a] [] q) (h:aY sc x=Hq) (hs:cV [a]=Hq):CI1 sc x a e
inductive CI2(sc:IH)(x:HP)(a b e:HR):Prop
 |mk (p q:J3) (he:e=.Call (.Name x p) [a,b] [] q) (h:aY sc x=Hq) (hs:cV [a,b]=Hq):CI2 sc x a b e
inductive CIs(sc:IH)(x:HP)(es:Hn HR)(e:HR):Prop
 |mk (p q:J3) (he:e=.Call (.Name x p) es [] q) (h:aY sc x=Hq) (hs:cV es=Hq):CIs sc x es e
theorem B3{k:HG}(h:vR sc e x k=Hq):CIs sc x (aa e).es e/\((aa e).es.length==k)=Hq:=by
 obtain⟨h1,h2⟩:=aj h;refine⟨?_,h2⟩;clear h h2;cases hc:Dx sc e with
 |none=>rw[hc]at h1;cases h1
 |some y=>rw[hc]at h1;clear k;obtain rfl:=aw (show(y==x)=Hq from h1);have:=aoJ hc;generalize(aa e).es=es at this;obtain⟨p,q,h3,h4⟩:=this;exact⟨p,q,rfl,h3,h4⟩
theorem aog(h:vR sc e x 1=Hq):CI1 sc x (hd (aa e).es) e:=by refine ew (B3 h) λo1 h2=>?_;obtain⟨p,q,he,h3,h4⟩:=o1;rw[nz h2]at he h4;exact⟨p,q,he,h3,h4⟩
theorem apQ(h:vR sc e x 2=Hq):CI2 sc x (hd (aa e).es) (sd (aa e).es) e:=by refine ew (B3 h) λo1 h2=>?_;obtain⟨p,q,he,h3,h4⟩:=o1;rw[zD h2]at he h4;exact⟨p,q,he,h3,h4⟩
def jI(r:JR)(sc:IH)(t e:HR)(L:ar):Hp (Hn Ho×Fl):=
 bif vR sc e "range" 1 then(r (hd (aa e).es) sc L).1.bind tF else
 bif vR sc e "enumerate" 1&&(aa t).k==25 then(r (hd (aa e).es) sc L).1.bind λv=>(listOfD v.x).map λB=>(kg B,v.fl)else
 bif vR sc e "zip" 2&&(aa t).k==25 then(r (hd (aa e).es) sc L).1.bind λv=>(r (sd (aa e).es) sc L).1.bind λv'=>aoO v v' else(r e sc L).1.bind nw
inductive Cq{α:Type}(c:Ig)(a b:Hp α)(z:α):Prop
 |yes (h:c=Hq) (e:a=hb z):Cq c a b z
 |no (h:c=HH) (e:b=hb z):Cq c a b z
theorem fD{a b:Hp α}{z:α}(h:(bif c then a else b)=hb z):Cq c a b z:=by
 cases c with
 |true=>exact .yes rfl h
 |false=>exact .no rfl h
theorem It.at{m:ar->Hp (Hn Ho×Fl)}(hf:∀(K:Ke)x,MV e K x=pure x)(h:∀L v,m L=hb v->∃m',m' L=hb v/\It Y w U n sc Az e m'):It Y w U n sc Az e m:=by refine⟨hf,?_⟩;intro A Hz K ae X C L O s v Q E hs hA I R hQ;exact aQ (h L v R) λm' e' k=>k.2 hs hA I e' hQ
variable{c:JC}{r:JR}
theorem ajo(G:vd Y w U n c)(h:DG Y w U n r)(t e:HR)(hf:gA 7 e=HH):It Y w U n sc t e (jI r sc t e):=by
 obtain hs:=(nf e).set hf;refine It.at hs λL v R=>?_;rcases fD R with⟨h1,h2⟩|⟨_,q⟩
 ·obtain⟨p,q,he,hx,ha⟩:=aog h1;exact i12 (λL=>(r (hd (aa e).es) sc L).1.bind tF) h2 (he▸It.range hx G.B.range (h _ sc).1 (jv ha))
 clear R;rcases fD q with⟨h1,h2⟩|⟨_,q⟩
 ·obtain⟨h1,h3⟩:=aj h1;obtain⟨p,q,he,hx,ha⟩:=aog h1;exact i12 (λL=>(r (hd (aa e).es) sc L).1.bind λv=>(listOfD v.x).map λB=>(kg B,v.fl)) h2 ((dy (aw h3)).symm▸he▸It.enum G.enumerate (h _ sc).1 hx (jv ha))
 rcases fD q with⟨h1,h2⟩|⟨_,q⟩
 ·obtain⟨h1,h3⟩:=aj h1;obtain⟨p,q,he,hx,ha⟩:=apQ h1;exact i12 (λL=>(r (hd (aa e).es) sc L).1.bind λv=>(r (sd (aa e).es) sc L).1.bind λv'=>aoO v v') h2 ((dy (aw h3)).symm▸he▸It.anD G.zip (h _ sc).1 (h _ sc).1 hx (zl ha))
 ·exact i12 _ q (It.data (h e sc).1 hs)
def ci(k:QL):Hp HI:=match k with
 |.int i=>gd (smallInt i) (hb i)
 |_=>Hu
def cs(k:QL):Hp HP:=match k with
 |.str x=>gd (wf (.str x)) (hb x)
 |_=>Hu
def pX(e:HR):Hp HI:=gd ((aa e).k==19) (ci (aa e).co)
def zu(e:HR):Hp HP:=gd ((aa e).k==19) (cs (aa e).co)
theorem aoW{i:HI}(h:pX e=hb i):(∃k p,e=.Constant (.int i) k p)/\smallInt i=Hq:=by
 obtain⟨h1,h2⟩:=fJ h;refine(dy (aw h1)).symm▸?_;generalize aa e=q at h2;show(∃k p,Qz q.co q.n q.p=.Constant (.int i) k p)/\_;generalize q.co=co at h2;cases co with
 |int j=>obtain⟨h3,h4⟩:=fJ (show gd (smallInt j) (hb j)=hb i from h2);exact(si h4)▸⟨⟨_,_,rfl⟩,h3⟩
 |_=>exact no h2
theorem yH(h:zu e=hb x):(∃a b,e=.Constant (.str x) a b)/\wf (.str x)=Hq:=by
 obtain⟨h1,h2⟩:=fJ h;refine(dy (aw h1)).symm▸?_;generalize aa e=q at h2;show(∃k p,Qz q.co q.n q.p=.Constant (.str x) k p)/\_;generalize q.co=co at h2;cases co with
 |str y=>obtain⟨h3,h4⟩:=fJ (show gd (wf (.str y)) (hb y)=hb x from h2);exact(si h4)▸⟨⟨_,_,rfl⟩,h3⟩
 |_=>exact no h2
noncomputable def ze(r:JR)(sc:IH)(jk:Hn HR)(L:ar):Hp Ig:=match jk with
 |[]=>hb Hq
 |[c]=>(r c sc L).2
 |_=>Hu
noncomputable def fH(s:IH):Hn HP:=s.names.filterMap λp=>if p.2=.local then hb p.1 else Hu
def kU(r:JR)(sc:IH)(jn:HR)(gs:Hn Lb)(scope:IH)(L:ar):Hp (Hn Ho):=match gs with
 |[⟨t,it,jk,a⟩]=>gd (a==0&&jC scope sc (fH scope)&& !gA 7 it) (qZ (jI r sc t it) (fH scope) (pC (λx=>jd (dE scope sc) x&&iP (fH scope) x) t) (ze r (dE scope sc) jk) (λL=>(r jn (dE scope sc) L).1) L)
 |_=>Hu
def aj4(c:JC)(sc:IH)(x:HP)(L:ar):Hp V:=bif aA sc x then(L x).bind sQ else gd (aY sc x) ((c.K x).map λd=>V.fix d .s)
def ag7(k:QL):Hp V:=match k with
 |.int i=>hb ⟨.int i,.d⟩
 |.str s=>gd (wf (.str s)) (hb ⟨.str s,.d⟩)
 |.none=>hb ⟨.none,.d⟩
 |.bool b=>hb ⟨.bool b,.d⟩
 |_=>Hu
noncomputable def aki(op:LK):Ig:=match op with
 |.Mult=>Hq
 |_=>HH
def uD(x y:V):Hp V:=(cD x.x).bind λi=>(cD y.x).map λj=>⟨.int (i*j),.d⟩
def Ce(r:JR)(sc:IH)(a:HR)(op:LK)(b:HR)(L:ar):Hp V:=bif aki op&&((pX a).isSome||(pX b).isSome)then
  (match pX a with
  |some i=>(r b sc L).1.bind λy=>uD ⟨.int i,.d⟩ y
  |none=>(pX b).bind λj=>(r a sc L).1.bind λx=>uD x ⟨.int j,.d⟩)
 else(r a sc L).1.bind λx=>(r b sc L).1.bind λy=>gE op x y
def Ga(op:UnaryOp)(x:V):Hp V:=match op with
 |.Not=>(gY x.x).bind λb=>hb ⟨.bool (!b),.d⟩
 |.USub=>(match x.x with|.int i=>hb ⟨.int (-i),.d⟩|_=>Hu)
 |_=>Hu
noncomputable abbrev hc(l:Hn Nu):Nu:=l.headD .Eq
theorem anQ{l:Hn Nu}(h:(l.length==1)=Hq):l=[hc l]:=by refine dz (Jp.mp (aw h)) λa o1=>?_;subst o1;rfl
theorem ajp{l:Hn Nu}(h:(l.length==2)=Hq):l=[hc l,hc l.tail]:=by refine pQ (IY (aw h)) λa t o1=>?_;subst o1;refine dz (Jp.mp (Jz (aw h))) λb o1=>?_;subst o1;rfl
noncomputable def cm1(jw:Hn Nu)(rs:Hn HR):Ig:=jw.length==1&&rs.length==1
noncomputable def cm2(jw:Hn Nu)(rs:Hn HR):Ig:=jw.length==2&&rs.length==2
def Dy(r:JR)(sc:IH)(l:HR)(jw:Hn Nu)(rs:Hn HR)(L:ar):Hp Ig:=
 bif cm1 jw rs then gd (!NX (hc jw) (hd rs)) ((r l sc L).1.bind λx=>(r (hd rs) sc L).1.bind λy=>bW (hc jw) x.x y.x)else
 gd (cm2 jw rs&& !Pr [hc jw,hc jw.tail] [hd rs,sd rs]) ((r l sc L).1.bind λa=>(r (hd rs) sc L).1.bind λb=>(bW (hc jw) a.x b.x).bind λc=>bif c then(r (sd rs) sc L).1.bind λd=>bW (hc jw.tail) b.x d.x else hb HH)
def vF(lo hi st:Hp HI)(x:V):Hp V:=match st with
 |none=>mK (tc lo hi x) (e7 lo hi Hu x)
 |some t=>e7 lo hi (hb t) x
def Cc(r:JR)(sc:IH)(a i:HR)(L:ar):Hp V:=
 bif(aa i).k==26 then(r a sc L).1.bind λx=>(u7 r sc (aa i).o1 L).bind λl=>(u7 r sc (aa i).o2 L).bind λu=>(u7 r sc (aa i).o3 L).bind λt=>vF l u t x else
 gd (!gA 26 i) ((r a sc L).1.bind λx=>(r i sc L).1.bind λy=>(ec x.x y.x).bind λz=>hb (V.fix z x.fl))
noncomputable def CQ(r:JR)(sc:IH):Hn (Hp HR)->Hn HR->ar->Hp (Hn (HP×V))
 |[],[],_=>hb []
 |some k::ks,e::es,L=>(zu k).bind λx=>(r e sc L).1.bind λa=>(CQ r sc ks es L).bind λq=>hb ((x,a)::q)
 |_,_,_=>Hu
noncomputable def AZ(x:HP):Hp I2:=
 bif x=="int"then hb "int"else bif x=="bool"then hb "bool"else bif x=="str"then hb "str"else bif x=="list"then hb "list"else bif x=="tuple"then hb "tuple"else Hu
def y0(r:JR)(sc:IH)(e t:HR)(L:ar):Hp V:=(nm t).bind λT=>gd (aY sc T) ((AZ T).bind λs=>(r e sc L).1.bind λv=>zt s v.x)
def mO(v:HR):Ig:=(aa v).k==16&&(aa v).es.isEmpty&&(aa v).ks.isEmpty&&((aa (aa v).a).k==20&&(aa (aa v).a).x=="values"&& !gA 16 (aa (aa v).a).a&&((aa (aa v).a).p.endLine==(aa v).p.line))
def ajV(r:JR)(sc:IH)(o:HR)(L:ar):Hp V:=(r o sc L).1.bind λv=>(gK v.x).bind λaW=>if b7 (aW.map (·.2))=Hq then hb ⟨.list (aW.map (·.2)),.d⟩else Hu
noncomputable def apV(k:QL):Ig:=match k with
 |.bool b=>b
 |_=>HH
def zc(ks:Hn Ks):Ig:=match ks with
 |[k]=>k.arg==hb "reverse"&&((aa k.value).k==19&&apV (aa k.value).co)
 |_=>HH
def Ds(c:JC)(x:HP)(vs:Hn V):Hp V:=match bf x with
 |some m=>m vs
 |none=>mK ((c.F x (vs.map (·.x))).map λy=>⟨y,.d⟩) (gd (!vs.isEmpty) ((c.N x (vs.map (·.x))).map λy=>⟨y,.d⟩))
def jH(c:JC)(r:JR)(sc:IH)(x:HP)(es:Hn HR)(ks:Hn Ks)(L:ar):Hp V:=
 bif ks.isEmpty then(bif x=="isinstance"&&es.length==2 then y0 r sc (hd es) (sd es) L else bif x=="list"&&es.length==1&&mO (hd es)then ajV r sc (aa (aa (hd es)).a).a L else(rR r sc es L).bind (Ds c x))else gd (x=="sorted"&&zc ks&&es.length==1) ((r (hd es) sc L).1.bind sG)
def ag4(c:JC)(r:JR)(sc:IH)(o:HR)(y:HP)(es:Hn HR)(L:ar):Hp V:=c.S.bind λq=>gd (!gA 16 o&& !es.isEmpty&&Ln es.length 9) ((r o sc L).1.bind λv=>(rR r sc es L).bind λvs=>if gX q.1 q.2.1 v.x=Hq then(c.P y (v.x::vs.map (·.x))).map λz=>⟨z,.d⟩else Hu)
def w8(r:JR)(sc:IH)(o e:HR)(L:ar):Hp V:=(zu o).bind λsep=>(r e sc L).1.bind λv=>((match v.x with|.list B=>pG sep B|_=>Hu).map λy=>⟨y,.d⟩)
def xd(c:JC)(r:JR)(sc:IH)(o:HR)(y:HP)(es:Hn HR)(L:ar):Hp V:=
 bif y=="join"&&es.length==1 then w8 r sc o (hd es) L else bif y=="get"&&es.length==2&& !gA 16 o then(r o sc L).1.bind λa=>(r (hd es) sc L).1.bind λk=>(r (sd es) sc L).1.bind λd=>y5 a k d else ag4 c r sc o y es L
def iH(c:JC)(r:JR)(sc:IH)(f:HR)(es:Hn HR)(ks:Hn Ks)(pos:J3)(L:ar):Hp V:=
 bif(aa f).k==23 then gd (aY sc (aa f).x&&cV es) (jH c r sc (aa f).x es ks L)else
 gd ((aa f).k==20&&(ks.isEmpty&&cV es&&((aa f).p.endLine==pos.line))) (xd c r sc (aa f).a (aa f).x es L)
def Ef(e:HR):Ig:=(aa e).k==23||(aa e).k==21||(aa e).k==20
def ajG(c:JC)(r:JR)(sc:IH)(e:HR)(y:HP)(L:ar):Hp V:=gd (Ef e) ((r e sc L).1.bind λv=>match c.S with
 |some q=>bif y=="plots"then nS q.1 q.2.1 q.2.2.1 q.2.2.2 v.x else(iy q.1 q.2.1 y v.x).map λx=>V.fix x v.fl
 |none=>c.I.bind λq=>(j8 q.1 q.2 y v.x).map λx=>V.fix x v.fl)
abbrev Cl:=JC->JR->iK->IH->ar->Hp V
def aoq:Cl:=λc _ q sc L=>aj4 c sc q.x L
def amq:Cl:=λ_ _ q _ _=>ag7 q.co
def Bi:Cl:=λ_ r q sc L=>Ce r sc q.a q.op q.b L
def Bf:Cl:=λ_ r q sc L=>Cc r sc q.a q.b L
def aoK:Cl:=λc r q sc L=>iH c r sc q.a q.es q.ks q.p L
def E7:Cl:=λ_ r q sc L=>(Dy r sc q.a q.cs q.es L).map λb=>⟨.bool b,.d⟩
def kUn:Cl:=λ_ r q sc L=>(r q.a sc L).1.bind λx=>Ga q.un x
def ajC:Cl:=λ_ r q sc L=>E9 r sc q.bo q.es L
noncomputable def GA:Cl:=λ_ r q sc L=>(r q.a sc L).2.bind λc=>if c then(r q.b sc L).1 else(r q.d sc L).1
def zb:Cl:=λ_ r q sc L=>gd (cV q.es) ((rR r sc q.es L).bind λvs=>if vs.length<=sizeLine then hb (V.eL (vs.map (·.x)) (lF vs))else Hu)
def Cd:Cl:=λ_ r q sc L=>gd (cV q.es) ((rR r sc q.es L).bind λvs=>if vs.length<=sizeLine then hb (V.fix (.tuple (vs.map (·.x))) (lF vs))else Hu)
def ajs:Cl:=λ_ r q sc L=>gd (q.oe.all (·.isSome)&&q.oe.length==q.es.length&& !q.oe.isEmpty&&Ln q.oe.length 15) ((CQ r sc q.oe q.es L).bind ajX)
def aoE:Cl:=λ_ r q sc L=>(kU r sc q.a q.gs q.sc L).map λys=>⟨.list ys,.d⟩
def aoI:Cl:=λc r q sc L=>ajG c r sc q.a q.x L
def xj:Hn (HG×Cl):=[(23,aoq),(19,amq),(2,Bi),(21,Bf),(16,aoK),(15,E7),(3,kUn),(0,ajC),(5,GA),(24,zb),(25,Cd),(6,ajs),(8,aoE),(20,aoI)]
def jE(c:JC)(r:JR)(q:iK)(sc:IH)(L:ar):Hp V:=(xj.lookup q.k).bind λf=>f c r q sc L
def jT(r:JR)(e:HR)(q:iK)(sc:IH)(L:ar)(v:Hp V):Hp Ig:=
 bif q.k==15 then Dy r sc q.a q.cs q.es L else
 bif q.k==0 then Ek r sc q.bo q.es L else
 bif q.k==3 then(match q.un with|.Not=>(r q.a sc L).2.map (!·)|_=>Hu)else
 gd (!(gA 0 e||gA 3 e||gA 5 e||gA 15 e)) (v.bind λa=>gY a.x)
noncomputable def J(c:JC):HG->JR
 |0=>λ_ _ _=>(Hu,Hu)
 |k+1=>λe sc L=>(jE c (J c k) (aa e) sc L,jT (J c k) e (aa e) sc L (jE c (J c k) (aa e) sc L))
inductive TyI(U:Iv)(x:HP)(s:I2):Prop
 |mk (h:rY s) (g:bt U x (.type s)) (e:x=HA s):TyI U x s
theorem ahD(G:vd Y w U n c){s:I2}(h:AZ x=hb s):TyI U x s:=by
 refine cx h (λhx e=>?_) λh=>cx h (λhx e=>?_) λh=>cx h (λhx e=>?_) λh=>cx h (λhx e=>?_) λh=>cx h (λhx e=>?_) λh=>no h
 ·clear h;subst e;exact(aw hx).symm▸⟨agQ,G.B.int,rfl⟩
 ·clear h;subst e;exact(aw hx).symm▸⟨aeh,G.B.bool,rfl⟩
 ·clear h;subst e;exact(aw hx).symm▸⟨afX,G.B.str,rfl⟩
 ·clear h;subst e;exact(aw hx).symm▸⟨aev,G.B.list,rfl⟩
 ·clear h;subst e;exact(aw hx).symm▸⟨ac5,G.B.tuple,rfl⟩
theorem ano(h1:uD gc nZ=hb fb)(h2:(∃i,gc.x=.int i/\smallInt i=Hq)∨(∃j,nZ.x=.int j/\smallInt j=Hq)):gE .Mult gc nZ=hb fb:=by
 obtain⟨i,e1,h1⟩:=ao h1;obtain⟨j,e2⟩:=dI h1;obtain⟨gc,f⟩:=gc;obtain⟨nZ,g⟩:=nZ;clear h1;obtain rfl:=bJ e1;clear h1 e1;obtain rfl:=bJ e2;obtain hs:(smallInt i||smallInt j)=Hq:=by
  rcases h2 with⟨q,e,hq⟩|⟨q,e,hq⟩
  ·refine(O1 e).symm▸hq.symm▸?_;rfl
  ·refine(O1 e).symm▸hq.symm▸?_;exact NK _
 show Jo _ (if(smallInt i||smallInt j)=Hq then hb (IL (i*j))else Hu)=_;refine(H5 hs).symm▸?_;rfl
variable{p:J3}
theorem aeO{l u s:Hp HR}(o j:HE):∃jw,Lp (.Slice l u s p) HH o j=Nh jw (L2 o j):=by cases s<;>exact⟨_,rfl⟩
section
variable(nj:vd Y w U n c)(dn:DG Y w U n r)
include dn
theorem aiz(a:HR)(op:LK)(b:HR)(p:J3):Ev Y w U n sc (.BinOp a op b p) (Ce r sc a op b):=by
 refine Ev.at λL v R=>?_;rcases fD R with⟨hc,hn⟩|⟨_,hn⟩
 ·clear R;obtain⟨hc,_⟩:=aj hc;obtain ho:op=.Mult:=by cases op<;>first|rfl|cases hc
  clear hc;subst ho;clear hc;cases e1:pX a with
  |some i=>rw[e1]at hn;obtain⟨⟨k,q,rfl⟩,hs⟩:=aoW e1;obtain⟨y,h1,R⟩:=ao (o:=(r b sc L).1) hn;refine⟨_,?_,Ev.bin Ev.CL (dn b sc).1⟩;exact h1.symm▸ano R (.inl ⟨i,rfl,hs⟩)
  |none=>rw[e1]at hn;obtain⟨j,e2,R⟩:=ao (o:=pX b) hn;obtain⟨⟨k,q,rfl⟩,hs⟩:=aoW e2;obtain⟨x,h1,R⟩:=ao R;refine⟨_,?_,Ev.bin (dn a sc).1 Ev.CL⟩;exact h1.symm▸ano R (.inr ⟨j,rfl,hs⟩)
 ·exact i12 _ hn (Ev.bin (dn a sc).1 (dn b sc).1)
theorem ala(l:HR)(jw:Hn Nu)(rs:Hn HR)(p:J3):Tr Y w U n sc (.Compare l jw rs p) (Dy r sc l jw rs):=by
 intro A Hz K ae X C L O s v Q E hs hr I R hQ;rcases fD R with⟨hc,R⟩|⟨_,R⟩
 ·obtain⟨h1,h2⟩:=aj hc;obtain⟨h3,R⟩:=fJ R;exact(anQ h1).symm▸(nz h2).symm▸Tr.cmp (dn l sc).1 (dn (hd rs) sc).1 (cE h3) hs hr I R hQ
 ·obtain⟨h3,R⟩:=fJ R;obtain⟨h3,h4⟩:=aj h3;obtain⟨h1,h2⟩:=aj h3;exact(ajp h1).symm▸(zD h2).symm▸Tr.CN (dn l sc).1 (dn (hd rs) sc).1 (dn (sd rs) sc).1 (cE h4) hs hr I R hQ
theorem aiy(l:HR)(jw:Hn Nu)(rs:Hn HR)(p:J3):Ev Y w U n sc (.Compare l jw rs p) (λL=>(Dy r sc l jw rs L).map λb=>⟨.bool b,.d⟩):=by
 refine Ev.at λL v R=>?_;obtain⟨z,hz⟩:=dI R;rcases fD hz with⟨hg,R⟩|⟨_,R⟩
 ·obtain⟨h1,h2⟩:=aj hg;obtain⟨h3,R⟩:=fJ R;obtain⟨x,e1,R⟩:=ao R;obtain⟨y,e2,R⟩:=ao R;refine(anQ h1).symm▸(nz h2).symm▸⟨_,?_,Ev.cmp (dn l sc).1 (dn (hd rs) sc).1 (cE h3)⟩;refine e1.symm▸?_;show(r (hd rs) sc L).1.bind _=_;refine e2.symm▸?_;show(bW (hc jw) x.x y.x).bind _=_;refine R.symm▸?_;rfl
 ·obtain⟨h3,R⟩:=fJ R;obtain⟨h3,h4⟩:=aj h3;obtain⟨h1,h2⟩:=aj h3;obtain⟨x,e1,R⟩:=ao R;obtain⟨y,e2,R⟩:=ao R;obtain⟨q,e3,R⟩:=ao R;refine(ajp h1).symm▸(zD h2).symm▸i12 _ ?_ (Ev.CN (dn l sc).1 (dn (hd rs) sc).1 (dn (sd rs) sc).1 (cE h4));show(r l sc L).1.bind _=_;refine e1.symm▸?_;show(r (hd rs) sc L).1.bind _=_;refine e2.symm▸?_;show(bW (hc jw) x.x y.x).bind _=_;refine e3.symm▸?_;clear p e3 h4 e2 e1 h3 h2 h1 hz;cases q with
  |false=>refine(si R)▸?_;rfl
  |true=>obtain⟨d,e4,R⟩:=ao R;refine e4.symm▸?_;show(bW (hc jw.tail) y.x d.x).map _=_;refine R.symm▸?_;rfl
theorem aiH(a i:HR)(p:J3):Ev Y w U n sc (.Subscript a i p) (Cc r sc a i):=by
 refine Ev.at λL v R=>?_;rcases fD R with⟨hk,R⟩|⟨_,R⟩
 ·obtain⟨x,h1,R⟩:=ao R;obtain⟨l,h2,R⟩:=ao R;obtain⟨u,h3,R⟩:=ao R;obtain⟨t,h4,R⟩:=ao R;obtain hi:=dy (aw hk);generalize aa i=q at*;obtain rfl:i=.Slice q.o1 q.o2 q.o3 q.p:=hi;have gen:e7 l u t x=hb v->∃m',m' L=hb v/\Ev Y w U n sc (.Subscript a (.Slice q.o1 q.o2 q.o3 q.p) p) m':=λhv=>by
   refine⟨_,?_,Ev.slice (dn a sc).1 (mY dn sc q.o1) (mY dn sc q.o2) (mY dn sc q.o3) aeO⟩;refine h1.symm▸?_;show(u7 r sc q.o1 L).bind _=_;refine h2.symm▸?_;show(u7 r sc q.o2 L).bind _=_;refine h3.symm▸?_;show(u7 r sc q.o3 L).bind _=_;exact h4.symm▸hv
  cases t with
  |some t=>exact gen R
  |none=>
   rcases uy R with R|R
   ·obtain h5:q.o3=Hu:=by
     cases e:q.o3 with
     |none=>rfl
     |some st=>rw[e]at h4;obtain⟨z,_,h6⟩:=ao h4;refine aQ (H6.mp h6) λy o1 h7=>?_;cases h7
    refine h5.symm▸⟨_,?_,Ev.alL (dn a sc).1 (mY dn sc q.o1) (mY dn sc q.o2) (λo j=>⟨_,rfl⟩)⟩;refine h1.symm▸?_;show(u7 r sc q.o1 L).bind _=_;refine h2.symm▸?_;show(u7 r sc q.o2 L).bind _=_;exact h3.symm▸R
   ·exact gen R
 ·obtain⟨hi,R⟩:=fJ R;exact i12 _ R (Ev.idx (dn a sc).1 (dn i sc).1 ((nf i).sub (cE hi)))
theorem ajc(ks:Hn (Hp HR)):∀es,AP Y w U n sc ks es (CQ r sc ks es):=by
 induction ks with
 |nil=>intro es;cases es with
  |nil=>exact AP.nil
  |cons _ _=>intro A Hz K ae X C L O s v pos Q E hs hr I R hQ;exact no R
 |cons k ks ih=>
  intro es A Hz K ae X C L O s v pos Q E hs hr I R hQ;cases k with
  |none=>exact no R
  |some k=>cases es with
   |nil=>exact no R
   |cons e es=>obtain⟨x,hx,AB⟩:=ao R;refine ew (yH hx) λo1 hw=>?_;obtain⟨a,b,rfl⟩:=o1;exact AP.cons (dn e sc).1 (ih es) hw hs hr I AB hQ
theorem ahL(jk:Hn HR):xW Y w U n sc jk (ze r sc jk):=by
 match jk with
 |[]=>exact xW.nil
 |[c]=>exact xW.one (dn c _).2
 |_::_::_=>intro A Hz K ae X C L O s v Q E hs hr I R hQ;exact no R
include nj
inductive LcI(Y:IB)(w:Ja)(U:Iv)(n:HG)(r:JR)(sc:IH)(jn:HR)(scope:IH)(L:ar)(ys:Hn Ho)(gs:Hn Lb):Prop
 |mk (t it:HR) (jk:Hn HR) (e:gs=[⟨t,it,jk,0⟩]) (h1:jC scope sc (fH scope)=Hq) (h2:It Y w U n sc t it (jI r sc t it)) (h3:xO Y w U (dE scope sc) (fH scope) t (pC (λx=>jd (dE scope sc) x&&iP (fH scope) x) t)) (h4:xW Y w U n (dE scope sc) jk (ze r (dE scope sc) jk))
   (h5:Ev Y w U n (dE scope sc) jn (λL=>(r jn (dE scope sc) L).1)) (h6:qZ (jI r sc t it) (fH scope) (pC (λx=>jd (dE scope sc) x&&iP (fH scope) x) t) (ze r (dE scope sc) jk) (λL=>(r jn (dE scope sc) L).1) L=hb ys):LcI Y w U n r sc jn scope L ys gs
theorem zw{gs:Hn Lb}(R:kU r sc jn gs scope L=hb ys):LcI Y w U n r sc jn scope L ys gs:=by
 match gs with
 |[]=>exact no R
 |⟨_,_,_,_⟩::_::_=>exact no R
 |[⟨t,it,jk,a⟩]=>obtain⟨hg,R⟩:=fJ R;obtain⟨hg,h2⟩:=aj hg;obtain⟨h0,h1⟩:=aj hg;exact⟨t,it,jk,(aw h0).symm▸rfl,h1,ajo nj dn t it (cE h2),ajh _ t,ahL dn jk,(dn jn _).1,R⟩
theorem ag5(jn:HR)(gs:Hn Lb)(scope:IH)(p:J3):Ev Y w U n sc (.ListComp jn gs scope p) (λL=>(kU r sc jn gs scope L).map λys=>⟨.list ys,.d⟩):=by refine Ev.at λL v R=>?_;obtain⟨ys,hn⟩:=dI R;clear R;obtain⟨t,it,jk,rfl,h1,h2,h3,h4,h5,h6⟩:=zw nj dn hn;refine⟨_,?_,Ev.comp h1 h2 h3 h4 h5⟩;refine h6.symm▸?_;rfl
end
theorem nR(h:Ef e=Hq)(y:HP)(p:J3):lL e y p:=by
 unfold Ef at h;rw[JA,JA]at h;rcases h with(h|h)|h
 ·exact(dy (aw h)).symm▸λK=>rfl
 ·exact(dy (aw h)).symm▸λK=>rfl
 ·exact(dy (aw h)).symm▸λK=>rfl
inductive akf(v:HR)(o:HR):Prop
 |mk (ap cp:J3) (e:v=.Call (.Attribute o "values" ap) [] [] cp) (h1:gA 16 o=HH) (h2:(ap.endLine==cp.line)=Hq):akf v o
theorem am7(h:mO fb=Hq):akf fb (aa (aa fb).a).a:=by obtain⟨h,h5⟩:=aj h;obtain⟨h,h3⟩:=aj h;obtain⟨h1,h2⟩:=aj h;obtain⟨h,h8⟩:=aj h5;obtain⟨h,h7⟩:=aj h;obtain⟨h4,h6⟩:=aj h;refine⟨_,_,?_,cE h7,h8⟩;obtain e1:fb=.Call (aa fb).a (aa fb).es (aa fb).ks (aa fb).p:=dy (aw h1);obtain e2:(aa fb).a=.Attribute (aa (aa fb).a).a (aa (aa fb).a).x (aa (aa fb).a).p:=dy (aw h4);rw[IC.mp h2,IC.mp h3]at e1;rw[aw h6]at e2;exact e1.trans (e2▸rfl)
inductive anL:Hn Ks->Prop
 |mk (k:HG) (bp kp:J3):anL [⟨hb "reverse",.Constant (.bool Hq) k bp,kp⟩]
theorem apN{ks:Hn Ks}(h:zc ks=Hq):anL ks:=by
 match ks with
 |[]=>cases h
 |_::_::_=>cases h
 |[⟨a,v,p⟩]=>
  obtain⟨h1,h2⟩:=aj h;obtain⟨h2,h3⟩:=aj h2;clear h ks;obtain rfl:=aw h1;obtain e:v=.Constant (aa v).co (aa v).n (aa v).p:=dy (aw h2);obtain e3:(aa v).co=.bool Hq:=by
   revert h3;generalize(aa v).co=co;intro h3;clear h2 h1;cases co with
   |bool b=>exact HL _ h3
   |_=>cases h3
  rw[e3]at e;exact e.symm▸⟨_,_,_⟩
theorem DA(pos:J3)(K:Ke)(hs:cV es=Hq)(hl:es.length<=9):((J4 pos (Ie es K)).all (λx=> !x.1)&&(Ny pos (Mp [] K)).all (λx=>x.1.isSome)&&decide (es.length+([]:Hn Ks).length+(if([]:Hn Ks).isEmpty then 0 else 1)<30))=Hq:=by obtain qu:=ip pos K hs;rw[List.any_eq_false]at qu;rw[HU,HU,JM];refine⟨⟨λx hx=>?_,rfl⟩,Ip (HC hl (by decide))⟩;rw[JI,Bool.eq_false_iff];exact qu x hx
section
variable(nj:vd Y w U n c)(dn:DG Y w U n r)
include dn nj
theorem alj(x:HP)(es:Hn HR)(np pos:J3)(hx:aY sc x=Hq)(hs:cV es=Hq):Ev Y w U n sc (.Call (.Name x np) es [] pos) (λL=>(rR r sc es L).bind (Ds c x)):=by
 refine Ev.at λL v R=>?_;obtain⟨vs,h1,R⟩:=ao R;unfold Ds at R;cases e:bf x with
 |some m=>rw[e]at R;obtain⟨f,g1,g2,g3⟩:=anc nj e;refine⟨_,?_,Ev.call hx g1 g2 (gM dn sc es hs) g3 λK=>ip pos K hs⟩;exact h1.symm▸R
 |none=>
  rw[e]at R;rcases uy R with q|q
  ·obtain⟨y,hy⟩:=dI q;refine⟨_,?_,Ev.def (nj.F x _ y hy) (gM dn sc es hs) hx (Io n) λK=>ip pos K hs⟩;exact h1.symm▸q
  ·obtain⟨h0,q⟩:=fJ q;obtain⟨y,hy⟩:=dI q;obtain⟨C,ps,m',k,hi,g,hk,qx⟩:=nj.N x _ y hy;refine ew (qx _ y hy) λh2 h3=>?_
   match es with
   |[]=>rw[<-si h1]at h0;cases h0
   |a::es=>refine i12 _ ?_ (Ev.ofT (lT.new hi g (gM dn sc (a::es) hs) hk hx (λK=>(nf a).star (cm hs).1 es K) λK=>ip pos K (cm hs).2));show Jo _ ((rR r sc (a::es) L).bind _)=_;(refine h1.symm▸?_;(dsimp only[HT];rw[H5 (by rw[h3,Hr]),h2]));rfl
theorem aec(x:HP)(es:Hn HR)(ks:Hn Ks)(np pos:J3)(hx:aY sc x=Hq)(hs:cV es=Hq):Ev Y w U n sc (.Call (.Name x np) es ks pos) (jH c r sc x es ks):=by
 refine Ev.at λL v R=>?_;rcases fD R with⟨hk,hn⟩|⟨_,hn⟩
 ·refine(IC.mp hk).symm▸?_;rcases fD hn with⟨hi,hp⟩|⟨_,hp⟩
  ·obtain⟨h1,h2⟩:=aj hi;clear R;obtain rfl:=aw h1;obtain⟨T,h3,hp1⟩:=ao hp;obtain⟨h4,DQ⟩:=fJ hp1;obtain⟨s,h5,hp3⟩:=ao DQ;clear DQ hp1;obtain⟨t1,t2,rfl⟩:=ahD nj h5;obtain h6:=tn h3;rw[zD h2]at hs⊢;revert h6 hs;generalize sd es=t;intro hs h6;induction h6 with|mk p=>exact i12 _ hp3 (Ev.alc t1 hx nj.B.isinstance h4 t2 (dn _ sc).1 (zl hs))
  ·rcases fD hp with⟨hi,hq⟩|⟨_,hq⟩
   ·obtain⟨hi,h3⟩:=aj hi;obtain⟨h1,h2⟩:=aj hi;clear R;obtain rfl:=aw h1;obtain⟨ap,cp,e,h4,h5⟩:=am7 h3;exact i12 (λL=>ajV r sc (aa (aa (hd es)).a).a L) hq ((nz h2).symm▸e.symm▸Ev.agp nj.B (dn _ sc).1 hx (λK=>(nf _).Cv h4 _ K _) h5 (λK=>rfl) λK=>rfl)
   ·exact i12 _ hq (alj nj dn x es np pos hx hs)
 ·obtain⟨hi,yp⟩:=fJ hn;obtain⟨hi,h3⟩:=aj hi;obtain⟨h1,h2⟩:=aj hi;clear hi R;obtain rfl:=aw h1;refine i12 (λL=>(r (hd es) sc L).1.bind sG) yp ?_;have Aj:=hs;rw[nz h3]at Aj⊢;clear yp hi h3 h1 hs;induction apN h2 with|mk k bp kp=>exact Ev.aeL nj.sorted (dn _ sc).1 hx (jv Aj)
theorem ad5(o:HR)(y:HP)(es:Hn HR)(ap pos:J3)(hs:cV es=Hq)(hl:(ap.endLine==pos.line)=Hq):Ev Y w U n sc (.Call (.Attribute o y ap) es [] pos) (ag4 c r sc o y es):=by
 refine Ev.at λL v hp=>?_;obtain⟨q,hq,hp⟩:=ao hp;obtain⟨hg,hp⟩:=fJ hp;obtain hz:∃B z,c.P y B=hb z:=by obtain⟨u,_,hp⟩:=ao hp;obtain⟨vs,_,hp⟩:=ao hp;revert hp;refine jl λ_ hp=>?_;obtain⟨z,hz⟩:=dI hp;exact CB _ z hz
 refine pQ hz λB z hz=>?_;obtain⟨hg,h3⟩:=aj hg;obtain⟨h1,h2⟩:=aj hg;clear hg;obtain⟨e,t,rfl⟩:∃e t,es=e::t:=by
  clear hg;cases es with
  |nil=>cases h2
  |cons e t=>exact CB e t rfl
 refine i12 _ hp (Ev.apK (nj.P q hq y B z hz) (dn o sc).1 (gM dn sc (e::t) hs) (Io n) (λK=>(nf o).Cv (cE h1) _ K _) (λK=>DA pos K hs (IE h3)) hl λK=>(nf e).star (cm hs).1 t K)
theorem af2(o:HR)(y:HP)(es:Hn HR)(ap pos:J3)(hs:cV es=Hq)(hl:(ap.endLine==pos.line)=Hq):Ev Y w U n sc (.Call (.Attribute o y ap) es [] pos) (xd c r sc o y es):=by
 refine Ev.at λL v R=>?_;rcases fD R with⟨hk,hn⟩|⟨_,hn⟩
 ·obtain⟨h1,h2⟩:=aj hk;clear R;obtain rfl:=aw h1;obtain⟨sep,hk,AB⟩:=ao hn;refine ew (yH hk) λo1 o2=>?_;obtain⟨a,b,rfl⟩:=o1;have Aj:=hs;rw[nz h2]at Aj⊢;exact i12 _ AB (Ev.join (dn _ sc).1 hl (jv Aj))
 ·rcases fD hn with⟨hk,hp⟩|⟨_,hp⟩
  ·obtain⟨hk,h3⟩:=aj hk;obtain⟨h1,h2⟩:=aj hk;clear hk R;obtain rfl:=aw h1;have Aj:=hs;rw[zD h2]at Aj⊢;exact i12 _ hp (Ev.apT (dn o sc).1 (dn _ sc).1 (dn _ sc).1 hl (λK=>(nf o).Cv (cE h3) _ K _) (zl Aj))
  ·exact i12 _ hp (ad5 nj dn o y es ap pos hs hl)
theorem ahl(f:HR)(es:Hn HR)(ks:Hn Ks)(pos:J3):Ev Y w U n sc (.Call f es ks pos) (iH c r sc f es ks pos):=by
 refine Ev.at λL v R=>?_;rcases fD R with⟨hk,hn⟩|⟨_,hn⟩
 ·obtain⟨hg,hn⟩:=fJ hn;obtain⟨h1,h2⟩:=aj hg;refine i12 _ hn ?_;obtain e:f=.Name (aa f).x (aa f).p:=dy (aw hk);have:=aec nj dn (aa f).x es ks (aa f).p pos h1 h2;rwa[<-e]at this
 ·obtain⟨hg,hn⟩:=fJ hn;obtain⟨hk,hg⟩:=aj hg;obtain⟨hg,h3⟩:=aj hg;obtain⟨h1,h2⟩:=aj hg;refine i12 _ hn ?_;obtain e:f=.Attribute (aa f).a (aa f).x (aa f).p:=dy (aw hk);have:=af2 (sc:=sc) nj dn (aa f).a (aa f).x es (aa f).p pos h2 h3;rw[<-e]at this;exact(IC.mp h1).symm▸this
theorem ae7(e:HR)(y:HP)(pos:J3):Ev Y w U n sc (.Attribute e y pos) (ajG c r sc e y):=by
 refine Ev.at λL v R=>?_;obtain⟨ha,R⟩:=fJ R;obtain⟨u,hu,R⟩:=ao R;revert R;cases hc:c.S with
 |some q=>
  intro R;obtain⟨⟨mC,KC⟩,⟨mV,KV⟩,P⟩:=nj.S q hc;rcases fD R with⟨hk,hn⟩|⟨_,hn⟩
  ·obtain rfl:=aw hk;refine⟨_,?_,Ev.kX (C:=q.1) (Va:=q.2.1) KC P (dn e sc).1 (nR ha _ _)⟩;exact hu.symm▸hn
  ·refine⟨_,?_,Ev.attr (C:=q.1) (Va:=q.2.1) KC KV (dn e sc).1 (nR ha _ _)⟩;exact hu.symm▸hn
 |none=>intro R;obtain⟨q,hq,hn⟩:=ao R;obtain⟨mC,KC⟩:=nj.I q hq;refine⟨_,?_,Ev.j8 KC (dn e sc).1 (nR ha _ _)⟩;exact hu.symm▸hn
theorem afZ(x:HP)(p:J3):Ev Y w U n sc (.Name x p) (aj4 c sc x):=by
 refine Ev.at λL v R=>?_;rcases fD R with⟨hv,hn⟩|⟨_,hn⟩
 ·exact i12 _ hn (Ev.var hv)
 ·obtain⟨hg,hn⟩:=fJ hn;obtain⟨d,hd⟩:=dI hn;exact i12 (λ_=>hb (V.fix d .s)) rfl (Ev.aow (nj.K x d hd) hg)
omit dn nj in
theorem ad6(k:QL)(a:HG)(p:J3):Ev Y w U n sc (.Constant k a p) (λ_=>ag7 k):=by
 cases k with
 |int i=>exact Ev.CL
 |str s=>exact Ev.gd λhw=>Ev.apC hw
 |none=>exact Ev.ans
 |bool b=>exact Ev.aoh
 |_=>exact Ev.nil
omit nj in
theorem ale(op:UnaryOp)(a:HR)(p:J3):Ev Y w U n sc (.UnaryOp op a p) (λL=>(r a sc L).1.bind λx=>Ga op x):=by
 cases op with
 |Not=>exact Ev.not (dn a sc).1
 |USub=>exact Ev.neg (dn a sc).1
 |_=>exact Ev.at λL v R=>by obtain⟨x,_,R⟩:=ao R;exact no R
omit dn nj in
theorem amw{q:iK}{f:Cl}{t:Hn (HG×Cl)}:(∀p∈t,Ev Y w U n sc (bK p.1 q) (p.2 c r q sc))->t.lookup q.k=hb f->Ev Y w U n sc (bK q.k q) (f c r q sc):=by
 induction t with
 |nil=>intro _ e;exact no e
 |cons p t bY=>
  intro k e;rw[HK]at e;cases hk:q.k==p.1 with
  |true=>rw[hk]at e;exact(aw hk).symm▸(si e)▸k p (.head _)
  |false=>rw[hk]at e;exact bY (λz hz=>k z (.tail _ hz)) e
omit dn nj in
theorem all_cons{P:α->Prop}{a:α}{t:Hn α}(dn:P a)(k:∀p∈t,P p):∀p∈a::t,P p:=λp hp=>by
 rcases Hw.mp hp with rfl|hp
 ·exact dn
 ·exact k p hp
theorem ag8(q:iK)(sc:IH):Ev Y w U n sc (.Dict q.oe q.es q.p) (ajs c r q sc):=Ev.gd λhg=>by
 obtain⟨hg,h4⟩:=aj hg;obtain⟨hg,h3⟩:=aj hg;obtain⟨h1,h2⟩:=aj hg;exact Ev.dict (ajc dn q.oe q.es) h1 (aw h2) (λe=>by rw[e]at h3;cases h3) (IE h4)
theorem aql(q:iK)(sc:IH):∀p∈xj,Ev Y w U n sc (bK p.1 q) (p.2 c r q sc):=
 all_cons (afZ nj dn q.x q.p) (all_cons (ad6 q.co q.n q.p) (all_cons (aiz dn q.a q.op q.b q.p) (all_cons (aiH dn q.a q.b q.p) (all_cons (ahl nj dn q.a q.es q.ks q.p) (all_cons (aiy dn q.a q.cs q.es q.p) (all_cons (ale dn q.un q.a q.p) (all_cons (Ev.bool (ak7 dn sc q.bo q.es)) (all_cons (Ev.ite (dn q.a sc).2 (dn q.b sc).1 (dn q.d sc).1)
  (all_cons (Ev.gd λhs=>Ev.list (gM dn sc q.es hs)) (all_cons (Ev.gd λhs=>Ev.tuple (gM dn sc q.es hs)) (all_cons (ag8 nj dn q sc) (all_cons (ag5 nj dn q.a q.gs q.sc q.p) (all_cons (ae7 nj dn q.a q.x q.p) λp hp=>nomatch hp)))))))))))))
theorem an9(q:iK)(sc:IH):Ev Y w U n sc (bK q.k q) (jE c r q sc):=by refine Ev.at λL v R=>?_;obtain⟨f,hf,R⟩:=ao R;exact i12 _ R (amw (aql nj dn q sc) hf)
theorem amP(e:HR)(sc:IH)(hv:Ev Y w U n sc e (jE c r (aa e) sc)):Tr Y w U n sc e (λL=>jT r e (aa e) sc L (jE c r (aa e) sc L)):=by
 intro A Hz K ae X C L O s v Q E hs hr I R hQ;rcases fD R with⟨hk,hn⟩|⟨_,R⟩
 ·have:=ala (sc:=sc) dn (aa e).a (aa e).cs (aa e).es (aa e).p;rw[<-show e=.Compare (aa e).a (aa e).cs (aa e).es (aa e).p from dy (aw hk)]at this;exact this hs hr I hn hQ
 rcases fD R with⟨hk,hn⟩|⟨_,R⟩
 ·have:=Tr.all (pos:=(aa e).p) (alA dn sc (aa e).bo (aa e).es);rw[<-show e=.BoolOp (aa e).bo (aa e).es (aa e).p from dy (aw hk)]at this;exact this hs hr I hn hQ
 rcases fD R with⟨hk,hn⟩|⟨_,R⟩
 ·obtain he:e=.UnaryOp (aa e).un (aa e).a (aa e).p:=dy (aw hk);generalize(aa e).un=u at he hn;cases u with
  |Not=>have:=Tr.not (pos:=(aa e).p) (dn (aa e).a sc).2;rw[<-he]at this;exact this hs hr I hn hQ
  |_=>exact no hn
 ·obtain⟨ht,hn⟩:=fJ R;exact Tr.val hv ((nf e).tst (cE ht)) hs hr I hn hQ
end
theorem wc(G:vd Y w U n c):∀k,DG Y w U n (J c k)
 |0=>λ_ _=>⟨Ev.nil,Tr.nil⟩
 |k+1=>λe sc=>by
  obtain hv:Ev Y w U n sc e (jE c (J c k) (aa e) sc):=by have:=an9 G (wc G k) (aa e) sc;rwa[<-adT e]at this
  exact⟨hv,amP G (wc G k) e sc hv⟩
variable{m:ar->Hp Out}
theorem S1.at(h:∀L v,m L=hb v->∃m',m' L=hb v/\S1 Y w U n sc st m'):S1 Y w U n sc st m:=by intro A Hz K ae X C L O s v Q E hs hr I R hQ;exact aQ (h L v R) λm' e' r=>r hs hr I e' hQ
theorem S1.gd{c:Ig}(h:c=Hq->S1 Y w U n sc st m):S1 Y w U n sc st (λL=>Mine.gd c (m L)):=by
 cases c with
 |false=>exact S1.dead
 |true=>exact h rfl
theorem S1.bif{m':ar->Hp Out}{c:Ig}(h:c=Hq->S1 Y w U n sc st m)(h':S1 Y w U n sc st m'):S1 Y w U n sc st (λL=>bif c then m L else m' L):=by
 cases c with
 |false=>exact h'
 |true=>exact h rfl
theorem S1.mK{m':ar->Hp Out}(h:S1 Y w U n sc st m)(h':S1 Y w U n sc st m'):S1 Y w U n sc st (λL=>mK (m L) (m' L)):=by
 intro A Hz K ae X C L O s v Q E hs hr I R hQ;rcases uy R with q|q
 ·exact h hs hr I q hQ
 ·exact h' hs hr I q hQ
noncomputable def x8(x:Ho):Ig:=match x with
 |.bool _=>Hq
 |.none=>Hq
 |_=>HH
theorem S1.anr{m:ar->Hp V}(h:Ev Y w U n sc e m)(hi:∀K:Ke,K.scope=sc->KJ K=HH)(iS:∀K:Ke,JU e Hu pos.line K=pure HH):S1 Y w U n sc (.Expr e pos) (λL=>(m L).bind λv=>Mine.gd (x8 v.x) (hb (.next L))):=by
 intro A Hz K ae X C L O s r Q E hs hA I R hQ;obtain⟨v,hv,R⟩:=ao R;obtain⟨ht,R⟩:=fJ R;obtain rfl:=si R;refine LP (h hs hA I.toInF hv λu ay ah aL=>?_) (hi K hs) (iS K);have fin:=hQ O ay (I.grow ah) (Step.cM (ag ah));obtain⟨as,rd,_,_⟩:=aL;generalize v.x=x at ht rd;cases x with
 |bool b=>exact rd.bool_inv.symm▸fin
 |none=>exact rd.none_inv.symm▸fin
 |_=>cases ht
def akb(x:HP)(m:ar->Hp V)(L:ar):Hp Out:=((L x).bind sQ).bind λa=>(m L).bind λb=>(cD a.x).bind λi=>(cD b.x).map λj=>.next (L.set x (.val ⟨.int (i+j),.d⟩))
theorem S1.aiN{m:ar->Hp V}(h:Ev Y w U n sc e m)(hv:aA sc x=Hq):S1 Y w U n sc (.AugAssign (.Name x p) .Add e pos) (akb x m):=by
 intro A Hz K ae X C L O s r Q E hs hA I;refine ak λa ha=>ak λb aO=>ak λi hi R hQ=>?_;induction dI R with|mk j hj=>?_
 obtain⟨vv,e1,e2⟩:=ao ha;have fin:∀u,dK Y w Hz ae.heap (WW K C O) s.heap u a->wpAny (Iq Y w) A (Jf e K) (λv aN=>wpAny (Iq Y w) A (inplaceOp .Add u v) (λr dN=>wpAny (Iq Y w) A (Pn K x r) (λ_=>Q .next) E dN) E aN) E s:=by
  intro u ru;obtain⟨as,ra,_,_⟩:=ru;rw[bJ hi]at ra;induction ra.dS with|mk t=>?_
  refine h hs hA I.toInF aO λu2 ay ah aL=>?_;obtain⟨bs,rb,_,_⟩:=aL;rw[bJ hj]at rb;induction rb.dS with|mk t'=>?_
  refine PySem.AutoIntOps.iadd_0 ?_;obtain kk:=ab ah (aK ay (ay.toks+1));exact(I.grow kk).store (v:=.val ⟨.int (i+j),.d⟩) (by exact hs.symm▸hv) ⟨.inl rfl,dK.int⟩ λs' I' t=>hQ O s' I' ((Step.cM (ag kk)).trans t)
 obtain hv0:=hv;simp only[aA,HU,JA,Ik,JI]at hv;refine ew hv λhv hd=>wpAny_AugAssign_Name ?_;rcases hv with hv|hv
 ·exact aQ I.ns λm' yk hx=>aQ (hx x vv e1 (by rw[<-hs]at hv;exact hv)) λu hu rv=>Lo I.kind (by rw[<-hs]at hv;exact hv) yk hu (fin u (rv.rd e2))
 ·exact j4 (I.cell x vv e1 (by rw[<-hs]at hv;exact hv)) λc u hc hu rv=>MA I.kind (by rw[<-hs]at hv;exact hv) hc hu (fin u (rv.rd e2))
structure Mc where
 c:JC
 ow:HP->Ig
 rt:Ig
 r:JR
 sc:IH
structure tU(Y:IB)(w:Ja)(U:Iv)(n:HG)(M:Mc):Prop where
 G:vd Y w U n M.c
 h:DG Y w U n M.r
 k:M.sc.kind=.function
variable{M:Mc}
theorem tU.iM(H:tU Y w U n M):∀K:Ke,K.scope=M.sc->KJ K=HH:=λK he=>by unfold KJ;refine he.symm▸H.k.symm▸?_;rfl
noncomputable abbrev Mc.eM(M:Mc)(e:HR)(L:ar):Hp V:=(M.r e M.sc L).1
noncomputable def A1(f:HR->ar->Hp Ho):Hn (Hp HR)->Hn HR->ar->Hp (Hn (HP×Ho))
 |[],[],_=>hb []
 |some k::ks,e::es,L=>(zu k).bind λx=>(f e L).bind λa=>(A1 f ks es L).bind λq=>hb ((x,a)::q)
 |_,_,_=>Hu
noncomputable def CG(q:iK):Ig:=q.oe.all (·.isSome)&&q.oe.length==q.es.length&& !q.oe.isEmpty&&Ln q.oe.length 15
def yX(M:Mc)(e:HR)(L:ar):Hp Ho:=(Dx M.sc e).bind λx=>gd (!(aa e).es.isEmpty) ((rR M.r M.sc (aa e).es L).bind λvs=>M.c.N x (vs.map (·.x)))
noncomputable def Av(M:Mc):HG->HR->ar->Hp Ho
 |0,_,_=>Hu
 |k+1,e,L=>
  bif(aa e).k==24&&(aa e).es.isEmpty then hb (.list [])else
  bif(aa e).k==6&&(aa e).oe.isEmpty&&(aa e).es.isEmpty then hb (.dict [])else
  bif(aa e).k==6 then gd (CG (aa e)) ((A1 (Av M k) (aa e).oe (aa e).es L).bind λq=>if(q.map (·.1)).Nodup/\q.length<=sizeLine then hb (dictOf q)else Hu)else
  bif vR M.sc e "list" 1 then(rR M.r M.sc (aa e).es L).bind qG else
  mK (yX M e L) ((M.eM e L).bind λv=>if flat v.x=Hq then hb v.x else Hu)
theorem lT.at{m:ar->Hp Ho}(h:∀L v,m L=hb v->∃m',m' L=hb v/\lT Y w U n sc e m'):lT Y w U n sc e m:=by intro A Hz K ae X C L O s v Q E hs hr I R hQ;exact aQ (h L v R) λm' e' r=>r hs hr I e' hQ
theorem ajg{f:HR->ar->Hp Ho}(hf:∀e,lT Y w U n sc e (f e)):∀ks es,AQ Y w U n sc ks es (A1 f ks es):=by
 intro ks;induction ks with
 |nil=>
  intro es;cases es with
  |nil=>exact AQ.nil
  |cons=>intro A Hz K ae X C L O s v pos Q E hs hr I R hQ;exact no R
 |cons k ks ih=>
  intro es;cases k with
  |none=>intro A Hz K ae X C L O s v pos Q E hs hr I R hQ;exact no R
  |some k=>
   cases es with
   |nil=>intro A Hz K ae X C L O s v pos Q E hs hr I R hQ;exact no R
   |cons e es=>intro A Hz K ae X C L O s v pos Q E hs hr I R hQ;obtain⟨x,hx,AB⟩:=ao R;refine ew (yH hx) λo1 hw=>?_;obtain⟨a,b,rfl⟩:=o1;exact AQ.cons (hf e) (ih es) hw hs hr I AB hQ
theorem aik(H:tU Y w U n M)(e:HR):lT Y w U n M.sc e (yX M e):=by
 refine lT.at λL v R=>?_;obtain⟨x,hx,R⟩:=ao R;obtain⟨h0,R⟩:=fJ R;obtain⟨vs,h1,hy⟩:=ao R;obtain⟨C,ps,m',k,hi,g,hk,qx⟩:=H.G.N x _ v hy;refine ew (qx _ v hy) λh2 h3=>?_;obtain hc:=aoJ hx;revert hc h0 h1;generalize(aa e).es=es;intro h0 h1 hc;clear qx hy hx R;induction hc with|mk p q hg hs=>?_
 clear e R;obtain⟨a,t,rfl⟩:∃a t,es=a::t:=by
  clear R;cases es with
  |nil=>cases h0
  |cons a t=>exact CB a t rfl
 refine⟨_,?_,lT.new hi g (gM H.h M.sc (a::t) hs) hk hg (λK=>(nf a).star (cm hs).1 t K) λK=>ip q K (cm hs).2⟩;exact bI h1<|iT (by rw[h3,Hr]) h2
theorem vZ(H:tU Y w U n M):∀k e,lT Y w U n M.sc e (Av M k e):=by
 intro k;induction k with
 |zero=>intro _;intro A Hz K ae X C L O s v Q E hs hr I R hQ;exact no R
 |succ k bY=>
  intro e;refine lT.at λL v R=>?_;rcases fD R with⟨hk,hn⟩|⟨_,R⟩
  ·obtain⟨h1,h2⟩:=aj hk;refine(show e=.List (aa e).es (aa e).p from dy (aw h1)).symm▸(IC.mp h2).symm▸?_;exact i12 (λ_=>hb (.list [])) hn lT.nil
  rcases fD R with⟨hk,hn⟩|⟨_,R⟩
  ·obtain⟨hk,h3⟩:=aj hk;obtain⟨h1,h2⟩:=aj hk;exact(show e=.Dict (aa e).oe (aa e).es (aa e).p from dy (aw h1)).symm▸(IC.mp h2).symm▸(IC.mp h3).symm▸i12 (λ_=>hb (.dict [])) hn lT.emp
  rcases fD R with⟨h1,hn⟩|⟨_,R⟩
  ·obtain⟨hg,hn⟩:=fJ hn;obtain⟨hg,g4⟩:=aj hg;obtain⟨hg,g3⟩:=aj hg;obtain⟨g1,g2⟩:=aj hg;refine i12 (λL=>(A1 (Av M k) (aa e).oe (aa e).es L).bind λq=>if(q.map (·.1)).Nodup/\q.length<=sizeLine then hb (dictOf q)else Hu) hn ?_;have:=lT.dict (pos:=(aa e).p) (ajg bY (aa e).oe (aa e).es) g1 (aw g2) (λe=>by rw[e]at g3;cases g3) (IE g4);rwa[<-show e=.Dict (aa e).oe (aa e).es (aa e).p from dy (aw h1)]at this
  rcases fD R with⟨h1,hn⟩|⟨_,R⟩
  ·obtain⟨⟨p,q,he,hx,ha⟩,_⟩:=B3 h1;refine i12 (λL=>(rR M.r M.sc (aa e).es L).bind qG) hn ?_;have:=lT.list (np:=p) (pos:=q) hx H.G.B.list (gM H.h M.sc (aa e).es ha) λK=>ip q K ha;rwa[<-show e=_ from he]at this
  rcases uy R with hn|hn
  ·exact i12 _ hn (aik H e)
  ·exact i12 _ hn (lT.flat (H.h e M.sc).1)
noncomputable def jZ:HG->HR->Hp HP
 |0,_=>Hu
 |k+1,e=>bif(aa e).k==23 then hb (aa e).x else bif(aa e).k==21 then gd (!gA 26 (aa e).b) (jZ k (aa e).a)else gd ((aa e).k==20&&Ef (aa e).a) (jZ k (aa e).a)
noncomputable def uf(M:Mc):HG->HR->ar->Ho->Hp (Ho×(Ho->Ho))
 |0,_,_,_=>Hu
 |k+1,e,L,d=>bif(aa e).k==23 then hb (d,id)else
  bif(aa e).k==21 then(uf M k (aa e).a L d).bind λp=>(M.eM (aa e).b L).bind λq=>(place p.1 q.x).map λz=>(z.1,λy=>p.2 (z.2 y))else
  M.c.S.bind λs=>(uf M k (aa e).a L d).bind λp=>(tD s.1 s.2.1 (aa e).x p.1).map λq=>(q.1,λz=>p.2 (q.2 z))
theorem Pa.at{m:ar->Ho->Hp (Ho×(Ho->Ho))}(h:∀L d v,m L d=hb v->∃m',m' L d=hb v/\Pa Y w U n sc x e m'):Pa Y w U n sc x e m:=by intro A Hz K ae X C L O s ro d y up Q E hs hr I hx R hQ;exact aQ (h L d _ R) λm' e' r=>r hs hr I hx e' hQ
theorem v7(H:tU Y w U n M)(hv:aA M.sc x=Hq):∀k e,jZ k e=hb x->Pa Y w U n M.sc x e (uf M k e):=by
 intro k;induction k with
 |zero=>intro _ q;exact no q
 |succ k bY=>
  intro e q;refine Pa.at λL d v R=>?_;rcases fD q with⟨hk,q⟩|⟨hk,q⟩
  ·change(bif _ then _ else _)=_ at R;rw[hk,Ku]at R;refine(show e=.Name (aa e).x (aa e).p from dy (aw hk)).symm▸(si q).symm▸?_;exact i12 (λ_ d=>hb (d,id)) R (Pa.name hv)
  rcases fD q with⟨Dc,q⟩|⟨Dc,q⟩
  ·obtain⟨hi,q⟩:=fJ q;change(bif _ then _ else _)=_ at R;rw[hk,Kg,Dc,Ku]at R;have:=Pa.idx (pos:=(aa e).p) (bY (aa e).a q) (H.h (aa e).b M.sc).1 ((nf (aa e).b).sub (cE hi));rw[<-show e=.Subscript (aa e).a (aa e).b (aa e).p from dy (aw Dc)]at this;exact i12 _ R this
  ·obtain⟨hg,q⟩:=fJ q;obtain⟨hk3,ha⟩:=aj hg;change(bif _ then _ else _)=_ at R;rw[hk,Kg,Dc,Kg]at R;obtain⟨s,hs,R⟩:=ao R;obtain⟨mC,KC⟩:=(H.G.S s hs).C;have:=Pa.attr (Va:=s.2.1) KC (bY (aa e).a q) (nR ha (aa e).x (aa e).p);rw[<-show e=.Attribute (aa e).a (aa e).x (aa e).p from dy (aw hk3)]at this;exact i12 _ R this
def jY(e:HR):Ig:= !(gA 8 e||gA 9 e||gA 10 e)
def tN(M:Mc)(q:iK):Ig:=(aa q.a).k==20&&(aa (aa q.a).a).k==23&&M.ow (aa q.a).x&&(q.ks.isEmpty&&q.es.length==1&&cV q.es&&((aa q.a).p.endLine==q.p.line)&&aA M.sc (aa (aa q.a).a).x)
def BD(M:Mc)(q:iK)(k:ar->Ho->Hp Out)(L:ar):Hp Out:=M.c.S.bind λs=>uq s.1 s.2.1 (aa (aa q.a).a).x (rR M.r M.sc q.es) (M.c.R (aa q.a).x) k L
inductive MrI(M:Mc)(q:iK):Prop
 |mk (np:J3) (ha:q.a=.Attribute (.Name (aa (aa q.a).a).x np) (aa q.a).x (aa q.a).p) (hk:q.ks=[]) (he:q.es=[hd q.es]) (hs:cV [hd q.es]=Hq) (hl:((aa q.a).p.endLine==q.p.line)=Hq) (hv:aA M.sc (aa (aa q.a).a).x=Hq):MrI M q
theorem mrE{q:iK}(h:tN M q=Hq):MrI M q:=by obtain⟨h,g⟩:=aj h;obtain⟨h,_⟩:=aj h;obtain⟨h1,h2⟩:=aj h;obtain⟨g,g5⟩:=aj g;obtain⟨g,g4⟩:=aj g;obtain⟨g,g3⟩:=aj g;obtain⟨g1,g2⟩:=aj g;obtain e1:q.a=.Attribute (aa q.a).a (aa q.a).x (aa q.a).p:=dy (aw h1);refine⟨(aa (aa q.a).a).p,e1.trans (((dy (aw h2)))▸rfl),IC.mp g1,nz g2,?_,g4,g5⟩;exact(nz g2)▸g3
section
variable(bF:tU Y w U n M)
include bF
theorem mrM{q:iK}{k:ar->Ho->Hp Out}{o:Out}(h:BD M q k L=hb o):∃(s:Hv×Hv×Hv×Hn Ho)(p0 p1:HP),uq s.1 s.2.1 (aa (aa q.a).a).x (rR M.r M.sc q.es) (M.c.R (aa q.a).x) k L=hb o/\pD Y w U n s.1 (aa q.a).x p0 p1 (M.c.R (aa q.a).x):=by
 obtain⟨s,hs,h⟩:=ao h;have h':=h;obtain⟨d,_,h⟩:=ao h;obtain⟨vs,_,h⟩:=ao h
 match vs with
 |[]=>exact no h
 |_::_::_=>exact no h
 |[v]=>revert h;refine jl λ_ h=>?_;obtain⟨z,hz,_⟩:=ao h;obtain⟨p0,p1,hM⟩:=bF.G.R s hs _ _ z hz;exact Aw s p0 p1 h' hM
theorem agD(q:iK)(R:tN M q=Hq)(pos:J3):S1 Y w U n M.sc (.Expr (.Call q.a q.es q.ks q.p) pos) (BD M q λL z=>if isNone z=Hq then hb (.next L)else Hu):=by refine S1.at λL v h=>uB (mrM bF h) λs p0 p1 h hM=>?_;obtain⟨np,ha,hk,he,hs,hl,hv⟩:=mrE R;exact i12 _ h<|hk.symm▸he.symm▸ha.symm▸S1.aoB hM (gM bF.h M.sc _ hs) hv (Io n) (λK=>rfl) (λK=>DA _ K hs (IE rfl)) hl (jv hs) bF.iM
theorem agn(q:iK)(R:tN M q=Hq)(x:HP)(hx:aA M.sc x=Hq)(p pos:J3):S1 Y w U n M.sc (.Assign [.Name x p] (.Call q.a q.es q.ks q.p) pos) (BD M q λL z=>hb (.next (L.set x (.val ⟨z,.d⟩)))):=by refine S1.at λL v h=>uB (mrM bF h) λs p0 p1 h hM=>?_;obtain⟨np,ha,hk,he,hs,hl,hv⟩:=mrE R;exact i12 _ h<|hk.symm▸he.symm▸ha.symm▸S1.aoM hM (gM bF.h M.sc _ hs) hv hx (Io n) (λK=>rfl) (λK=>DA _ K hs (IE rfl)) hl (jv hs) λK _=>rfl
end
def ajS(M:Mc)(q:iK)(L:ar):Hp (Hn Ho):=(nm q.a).bind λx=>gd (aY M.sc x&&cV q.es&&q.ks.isEmpty&&(bf x).isNone) ((rR M.r M.sc q.es L).bind λvs=>(M.c.F x (vs.map (·.x))).bind λy=>match y with|.list ys=>hb ys|_=>Hu)
def aoP(x:HP)(L:ar)(ys:Hn Ho):Hp Out:=if b7 ys=Hq then hb (.next (L.set x (.own (.lst ys))))else Hu
def aj1(M:Mc)(x:HP)(q:iK)(L:ar):Hp Out:=(nm q.a).bind λg=>gd (aY M.sc g&&q.ks.isEmpty) ((M.c.T g).map λd=>.next (L.set x (.own (.tree Hu d))))
def mG(M:Mc)(x:HP)(e:HR)(q:iK)(L:ar):Hp Out:=
 bif q.es.isEmpty then aj1 M x q L else bif tN M q then BD M q (λL z=>hb (.next (L.set x (.val ⟨z,.d⟩)))) L else bif M.ow x then(ajS M q L).bind (aoP x L)else(M.eM e L).bind (uR L x)
def lR(M:Mc)(x:HP)(e:HR)(q:iK)(L:ar):Hp Out:=
 bif q.k==24 then gd (cV q.es) ((rR M.r M.sc q.es L).bind λvs=>if vs.length<=sizeLine/\lF vs=.d then hb (.next (L.set x (.own (.lst (vs.map (·.x))))))else Hu)else
 bif q.k==6&&q.oe.isEmpty&&q.es.isEmpty then hb (.next (L.set x (.own (bif M.ow x then .lq []else .tree Hu (.dict [])))))else
 bif q.k==8 then(kU M.r M.sc q.a q.gs q.sc L).map λys=>.next (L.set x (.val ⟨.list ys,.d⟩))else
 bif q.k==16 then mG M x e q L else gd (jY e) ((M.eM e L).bind (uR L x))
section
variable(bF:tU Y w U n M)
include bF
theorem anm(hv:aA M.sc x=Hq)(hk:jY e=Hq):S1 Y w U n M.sc (.Assign [.Name x p] e pos) (λL=>(M.eM e L).bind (uR L x)):=
 S1.assign (bF.h e M.sc).1 hv λK _=>(nf e).Ck (cE hk) _ _ K
theorem afW(x:HP)(q:iK)(p pos:J3)(hv:aA M.sc x=Hq):S1 Y w U n M.sc (.Assign [.Name x p] (.Call q.a q.es q.ks q.p) pos) (mG M x (.Call q.a q.es q.ks q.p) q):=by
 refine S1.bif (λhe=>?_) (S1.bif (λR=>agn bF q R x hv p pos) (S1.bif (λ_=>?_) (anm bF hv rfl)))
 ·refine(IC.mp he).symm▸S1.at λL v R=>?_;obtain⟨g,hg,R⟩:=ao R;obtain⟨hx,R⟩:=fJ R;obtain⟨hx,hk⟩:=aj hx;obtain⟨d,hd⟩:=dI R;obtain⟨hT,hN⟩:=bF.G.T g d hd;have:=tn hg;refine(IC.mp hk).symm▸?_;revert this;generalize q.a=a;intro this;induction this with|mk np=>exact i12 _ rfl (S1.aiA hT hN hv hx (Io n) (λK=>rfl) λK _=>rfl)
 ·refine S1.at λL v R=>?_;obtain⟨ys,h1,AB⟩:=ao R;obtain h1':=h1;obtain⟨g,hg,hn⟩:=ao h1;obtain⟨hx,hn⟩:=fJ hn;obtain⟨hx,h3⟩:=aj hx;obtain⟨hx,hk⟩:=aj hx;obtain⟨hx,hs⟩:=aj hx;obtain⟨vs,e1,e2⟩:=ao hn;obtain⟨y,e3,e4⟩:=ao e2;have:=tn hg;refine(IC.mp hk).symm▸?_;revert this;generalize q.a=a;intro this;induction this with|mk np=>?_
  refine i12 _ ?_ (S1.apO (BK.def (bF.G.F g _ y e3) (gM bF.h M.sc q.es hs) hx (Io n) λK=>ip q.p K hs) hv λK _=>rfl);exact(HL (λo:Hp (Hn Ho)=>o.bind (aoP x L)) hn).trans AB
theorem afJ(x:HP)(q:iK)(p pos:J3)(hv:aA M.sc x=Hq):S1 Y w U n M.sc (.Assign [.Name x p] (.ListComp q.a q.gs q.sc q.p) pos) (λL=>(kU M.r M.sc q.a q.gs q.sc L).map λys=>.next (L.set x (.val ⟨.list ys,.d⟩))):=by
 refine S1.at λL v R=>?_;obtain⟨ys,hn⟩:=dI R;clear R;obtain⟨t,it,jk,eg,h1,h2,h3,h4,h5,h6⟩:=zw bF.G bF.h hn;refine eg.symm▸?_;cases iS:sO M.sc q.sc x p.line q.p.line with
 |true=>exact i12 _ (HL (Jo λys=>Out.next (L.set x (.val ⟨.list ys,.d⟩))) h6) (S1.acK h1 h2 h3 h4 h5 iS)
 |false=>exact i12 _ (HL (Jo λys=>Out.next (L.set x (.val ⟨.list ys,.d⟩))) h6) (S1.abA h1 h2 h3 h4 h5 iS bF.k hv)
theorem aff(x:HP)(e:HR)(p pos:J3)(hv:aA M.sc x=Hq):S1 Y w U n M.sc (.Assign [.Name x p] e pos) (lR M x e (aa e)):=by
 refine S1.bif (λhk=>?_) (S1.bif (λhk=>?_) (S1.bif (λhk=>?_) (S1.bif (λhk=>?_) (S1.gd λhk=>anm bF hv hk))))
 ·have:=S1.gd λhs=>S1.ah8 (lp:=(aa e).p) (p:=p) (pos:=pos) (gM bF.h M.sc (aa e).es hs) hv;rwa[<-show e=.List (aa e).es (aa e).p from dy (aw hk)]at this
 ·obtain⟨hk,h3⟩:=aj hk;obtain⟨h1,h2⟩:=aj hk;refine(show e=.Dict (aa e).oe (aa e).es (aa e).p from dy (aw h1)).symm▸(IC.mp h2).symm▸(IC.mp h3).symm▸?_;cases M.ow x with
  |false=>exact S1.apG lT.emp hv λK _=>rfl
  |true=>exact S1.ownDict hv
 ·have:=afJ bF x (aa e) p pos hv;rwa[<-show e=.ListComp (aa e).a (aa e).gs (aa e).sc (aa e).p from dy (aw hk)]at this
 ·have:=afW bF x (aa e) p pos hv;rwa[<-show e=.Call (aa e).a (aa e).es (aa e).ks (aa e).p from dy (aw hk)]at this
end
def oi(pe:HR):Hp HP:=gd ((aa pe).k==20&&(aa pe).x=="held") (nm (aa pe).a)
inductive HdI(x:HP):HR->Prop
 |mk (p t:J3):HdI x (.Attribute (.Name x p) "held" t)
theorem Gk(h:oi pe=hb x):HdI x pe:=by obtain⟨h,h3⟩:=fJ h;obtain⟨h1,h2⟩:=aj h;obtain e:pe=.Attribute (aa pe).a (aa pe).x (aa pe).p:=dy (aw h1);obtain e3:=tn h3;refine e.symm▸(aw h2).symm▸?_;revert e3;generalize(aa pe).a=a;intro e3;induction e3 with|mk p=>exact⟨p,_⟩
def y4(M:Mc)(x:HP)(i e:HR)(L:ar):Hp Out:=M.c.S.bind λs=>gd (aA M.sc x) (
 bif(aa e).k==21&&(oi (aa e).a==hb x)&& !gA 26 (aa e).b then gW s.1 s.2.1 x (M.eM i) (M.eM (aa e).b) L else gd (jY e) (i0 s.1 s.2.1 x (M.eM i) (Av M 5 e) L))
def ajr(M:Mc)(pe i e:HR)(L:ar):Hp Out:=(nm pe).bind λx=>gd (aA M.sc x&&jY e) (bif(aa i).k==26&&(aa i).o3.isNone then(M.eM e L).bind λv=>(u7 M.r M.sc (aa i).o1 L).bind λa=>(u7 M.r M.sc (aa i).o2 L).bind λb=>(qL (L x) v a b).map λz=>.next (L.set x z)else(M.eM e L).bind λv=>(M.eM i L).bind λk=>(um (L x) v k).map λz=>.next (L.set x z))
def Fd(M:Mc)(pe:HR):Ig:=match nm pe with
 |some x=>M.ow x
 |none=>HH
def tf(M:Mc)(pe i e:HR)(L:ar):Hp Out:=match oi pe with
 |some x=>y4 M x i e L
 |none=>bif Fd M pe then ajr M pe i e L else(jZ 9 pe).bind λx=>gd (aA M.sc x) (bif(aa e).k==8 then uF x (uf M 9 pe) (M.eM i) (kU M.r M.sc (aa e).a (aa e).gs (aa e).sc) L else gd (jY e) (AV x (uf M 9 pe) (M.eM i) (M.eM e) L))
def xf(M:Mc)(o:HR)(y:HP)(e:HR)(L:ar):Hp Out:=M.c.I.bind λs=>(nm o).bind λx=>gd (aA M.sc x&&iP s.2 y&&wf (.str y)&&jY e) (zm s.1 x y (Av M 5 e) L)
section
variable(bF:tU Y w U n M)
include bF
theorem ags(pe i e:HR)(p pos:J3):S1 Y w U n M.sc (.Assign [.Subscript pe i p] e pos) (ajr M pe i e):=by
 refine S1.at λL v R=>?_;obtain⟨x,hx,R⟩:=ao R;obtain⟨hg,R⟩:=fJ R;obtain⟨h1,h2⟩:=aj hg;replace hx:=tn hx;rcases fD R with⟨hk,hn⟩|⟨_,hn⟩
 ·obtain⟨h3,h4⟩:=aj hk;refine i12 (λL=>(M.eM e L).bind λv=>(u7 M.r M.sc (aa i).o1 L).bind λa=>(u7 M.r M.sc (aa i).o2 L).bind λb=>(qL (L x) v a b).map λz=>.next (L.set x z)) hn ((show i=.Slice (aa i).o1 (aa i).o2 (aa i).o3 (aa i).p from dy (aw h3)).symm▸(Jc.mp h4).symm▸?_);induction hx with|mk np=>exact S1.an2 (mY bF.h M.sc _) (mY bF.h M.sc _) (bF.h e M.sc).1 h1 λK=>(nf e).Ck (cE h2) _ _ K
 ·refine i12 (λL=>(M.eM e L).bind λv=>(M.eM i L).bind λk=>(um (L x) v k).map λz=>.next (L.set x z)) hn ?_;induction hx with|mk np=>exact S1.akW (bF.h i M.sc).1 (bF.h e M.sc).1 h1 λK=>(nf e).Ck (cE h2) _ _ K
theorem aiY(pe i e:HR)(p pos:J3):S1 Y w U n M.sc (.Assign [.Subscript pe i p] e pos) (tf M pe i e):=by
 unfold tf;cases hh:oi pe with
 |some x=>
  refine S1.at λL v R=>?_;obtain⟨s,hs,R⟩:=ao R;obtain⟨hv,R⟩:=fJ R;refine dz ((bF.G.S s hs).C) λmC KC=>?_;obtain hd1:=Gk hh;rcases fD R with⟨hk,hn⟩|⟨_,hn⟩
  ·obtain⟨hk,h3⟩:=aj hk;obtain⟨h1,h2⟩:=aj hk;obtain GQ:=Gk (aw h2);refine i12 _ hn<|(show e=.Subscript (aa e).a (aa e).b (aa e).p from dy (aw h1)).symm▸?_;revert GQ;generalize(aa e).a=a;intro GQ;clear hh;induction hd1 with|mk p1 t1=>?_
   induction GQ with|mk p2 t2=>?_
   exact S1.afa KC (bF.h i M.sc).1 (bF.h _ M.sc).1 hv ((nf _).sub (cE h3)) λK=>rfl
  ·obtain⟨hk,hn⟩:=fJ hn;refine i12 _ hn ?_;clear hh;induction hd1 with|mk p1 t1=>?_
   exact S1.ahZ KC (bF.h i M.sc).1 (vZ bF 5 e) hv λK=>(nf e).Ck (cE hk) _ _ K
 |none=>
  refine S1.bif (λ_=>ags bF pe i e p pos) (S1.at λL v R=>?_);obtain⟨x,hr,R⟩:=ao R;obtain⟨hv,R⟩:=fJ R;obtain P:=v7 bF hv 9 pe hr;rcases fD R with⟨hk,hn⟩|⟨_,hn⟩
  ·have Eb:=hn;obtain⟨d,_,hn⟩:=ao hn;obtain⟨ys,hy,_⟩:=ao hn;obtain⟨t,it,jk,eg,h1,h2,h3,h4,h5,h6⟩:=zw bF.G bF.h hy;refine(show e=.ListComp (aa e).a (aa e).gs (aa e).sc (aa e).p from dy (aw hk)).symm▸eg.symm▸i12 _ ?_ (S1.aoo P (bF.h i M.sc).1 (BK.comp h1 h2 h3 h4 h5) λK=>rfl);unfold uF at Eb⊢;exact h6.symm▸hy▸Eb
  ·obtain⟨hk,hn⟩:=fJ hn;exact i12 _ hn (S1.apI P (bF.h i M.sc).1 (bF.h e M.sc).1 λK=>(nf e).Ck (cE hk) _ _ K)
theorem agL(o:HR)(y:HP)(e:HR)(tp pos:J3):S1 Y w U n M.sc (.Assign [.Attribute o y tp] e pos) (xf M o y e):=by refine S1.at λL v R=>?_;obtain⟨s,hs,R⟩:=ao R;obtain⟨x,hx,R⟩:=ao R;obtain⟨hg,R⟩:=fJ R;obtain⟨hg,h4⟩:=aj hg;obtain⟨hg,h3⟩:=aj hg;obtain⟨h1,h2⟩:=aj hg;obtain⟨mC,KC⟩:=bF.G.I s hs;refine i12 _ R ?_;induction tn hx with|mk p=>exact S1.setAttr KC (vZ bF 5 e) (tH h2) h3 h1 λK=>(nf e).Ck (cE h4) _ _ K
end
def pT(M:Mc)(t e:HR)(L:ar):Hp Out:=
 bif(aa t).k==23 then gd (aA M.sc (aa t).x) (lR M (aa t).x e (aa e) L)else
 bif(aa t).k==25 then gd (!gA 25 e&&jY e) ((M.eM e L).bind λv=>(pC (aA M.sc) t v L).map .next)else
 bif(aa t).k==21 then tf M (aa t).a (aa t).b e L else gd ((aa t).k==20) (xf M (aa t).a (aa t).x e L)
theorem jSw(he:gA 25 e=HH)(K:Ke):swappedStores [.Tuple es k p] e K=pure Hu:=by cases e<;>first|rfl|cases he
theorem aiG(H:tU Y w U n M)(t e:HR)(pos:J3):S1 Y w U n M.sc (.Assign [t] e pos) (pT M t e):=by
 refine S1.bif (λhk=>S1.gd λhv=>?_) (S1.bif (λhk=>S1.gd λhg=>?_) (S1.bif (λhk=>?_) (S1.gd λhk=>?_)))
 ·have:=aff H (aa t).x e (aa t).p pos hv;rwa[<-show t=.Name (aa t).x (aa t).p from dy (aw hk)]at this
 ·obtain⟨h1,h2⟩:=aj hg;obtain ht:=dy (aw hk);refine S1.ag2 (H.h e M.sc).1 (afK _) (λK _=>?_) (λK=>?_) λK=>?_
  ·exact ht.symm▸show JU e (hb (.Tuple (aa t).es (aa t).n (aa t).p)) pos.line K=pure HH from(nf e).Ck (cE h2) _ _ K
  ·exact ht.symm▸jSw (cE h1) K
  ·refine ht.symm▸?_;rfl
 ·have:=aiY H (aa t).a (aa t).b e (aa t).p pos;rwa[<-show t=.Subscript (aa t).a (aa t).b (aa t).p from dy (aw hk)]at this
 ·have:=agL H (aa t).a (aa t).x e (aa t).p pos;rwa[<-show t=.Attribute (aa t).a (aa t).x (aa t).p from dy (aw hk)]at this
noncomputable def zG(x:HP)(m:ar->Hp V)(L:ar):Hp Out:=match L x with
 |some (.own (.lst B))=>(m L).bind λv=>if v.fl=.d/\B.length+1<=sizeLine then hb (.next (L.set x (.own (.lst (B++[v.x])))))else Hu
 |_=>Hu
noncomputable def zo(x:HP)(m:ar->Hp V)(L:ar):Hp Out:=match L x with
 |some (.own (.lst B))=>(m L).bind λv=>(match v.x with|.list ys=>if v.fl=.d/\B.length+ys.length<=sizeLine then hb (.next (L.set x (.own (.lst (B++ys)))))else Hu|_=>Hu)
 |_=>Hu
def ajw(M:Mc)(pe:HR)(y:HP)(a:HR)(L:ar):Hp Out:=(nm pe).bind λx=>gd (aA M.sc x) (bif y=="append"then zG x (M.eM a) L else gd (y=="extend") (zo x (M.eM a) L))
def AI(M:Mc)(pe:HR)(y:HP)(a:HR)(L:ar):Hp Out:=(jZ 9 pe).bind λx=>gd (aA M.sc x) (
 bif y=="append"&&(aa a).k==24 then gd (cV (aa a).es) (q7 x (uf M 9 pe) (rR M.r M.sc (aa a).es) L)else
 bif y=="append"then qd x (uf M 9 pe) (M.eM a) L else bif y=="extend"then ql x (uf M 9 pe) (M.eM a) L else gd (y=="pop") (AX x (uf M 9 pe) (M.eM a) L))
def apy(M:Mc)(e:HR)(q:iK)(L:ar):Hp Out:=gd (q.ks.isEmpty&&cV q.es) (
 bif(aa q.a).k==20 then gd (q.es.length==1&&((aa q.a).p.endLine==q.p.line)&& !gA 16 (aa q.a).a) (mK (ajw M (aa q.a).a (aa q.a).x (hd q.es) L) (AI M (aa q.a).a (aa q.a).x (hd q.es) L))else
 bif q.es.length==3 then(nm q.a).bind λg=>(nm (sd q.es)).bind λx=>gd (aY M.sc g&&aA M.sc x) (sv x (M.eM (hd q.es)) (M.eM (sd q.es.tail)) (M.c.M g) L)else(M.eM e L).bind λv=>gd (x8 v.x) (hb (.next L)))
def jEx(M:Mc)(e:HR)(q:iK)(L:ar):Hp Out:=gd (q.k==16) (bif tN M q then BD M q (λL z=>if isNone z=Hq then hb (.next L)else Hu) L else apy M e q L)
theorem apA(h:(es.length==3)=Hq):es=[hd es,sd es,sd es.tail]:=by refine pQ (IY (aw h)) λa t o1=>?_;subst o1;refine pQ (IY (Jz (aw h))) λb t o1=>?_;subst o1;refine dz (Jp.mp (Jz (Jz (aw h)))) λd o1=>?_;subst o1;rfl
section
variable(bF:tU Y w U n M)
include bF
theorem afx(pe:HR)(y:HP)(a:HR)(ap cp pos:J3)(hs:cV [a]=Hq)(hl:(ap.endLine==cp.line)=Hq):S1 Y w U n M.sc (.Expr (.Call (.Attribute pe y ap) [a] [] cp) pos) (ajw M pe y a):=by
 refine S1.at λL v R=>?_;obtain⟨x,hx,R⟩:=ao R;obtain⟨hv,R⟩:=fJ R;obtain hx:=tn hx;rcases fD R with⟨hy,hn⟩|⟨_,hn⟩
 ·clear R;obtain rfl:=aw hy;refine i12 _ hn ?_;clear R;induction hx with|mk p=>exact S1.append (bF.h a M.sc).1 hv (jv hs) hl bF.iM
 ·obtain⟨hy,yp⟩:=fJ hn;clear R;obtain rfl:=aw hy;refine i12 _ yp ?_;clear yp hy R;induction hx with|mk p=>exact S1.extend (bF.h a M.sc).1 hv (jv hs) hl bF.iM
theorem ah2(pe:HR)(y:HP)(a:HR)(ap cp pos:J3)(hs:cV [a]=Hq)(hl:(ap.endLine==cp.line)=Hq)(hc:gA 16 pe=HH):S1 Y w U n M.sc (.Expr (.Call (.Attribute pe y ap) [a] [] cp) pos) (AI M pe y a):=by
 refine S1.at λL v R=>?_;obtain⟨x,hr,R⟩:=ao R;obtain⟨hv,R⟩:=fJ R;have P:=v7 bF hv 9 pe hr;rcases fD R with⟨hy,hn⟩|⟨_,R⟩
 ·obtain⟨h1,h2⟩:=aj hy;clear hv hr;obtain rfl:=aw h1;obtain⟨yG,hn⟩:=fJ hn;refine i12 _ hn ?_;obtain he:=dy (aw h2);generalize aa a=q at he yG;clear h2 h1;subst he;exact S1.agE P (gM bF.h M.sc q.es yG) (jv hs) hl (λK=>(nf pe).Cv hc _ K _) bF.iM
 rcases fD R with⟨hy,hn⟩|⟨_,R⟩
 ·clear hv hr;obtain rfl:=aw hy;exact i12 _ hn (S1.ahJ P (bF.h a M.sc).1 (jv hs) hl (λK=>(nf pe).Cv hc _ K _) bF.iM)
 rcases fD R with⟨hy,hn⟩|⟨_,R⟩
 ·clear hv hr;obtain rfl:=aw hy;exact i12 _ hn (S1.ajb P (bF.h a M.sc).1 (jv hs) hl (λK=>(nf pe).Cv hc _ K _) bF.iM)
 ·obtain⟨hy,yp⟩:=fJ R;clear hv hr R;obtain rfl:=aw hy;exact i12 _ yp (S1.apL P (bF.h a M.sc).1 (jv hs) hl (λK=>(nf pe).Cv hc _ K _) bF.iM)
theorem afL{e1 e3:HR}(ha:Ei Ay sY)(h2:Ei x e2)(hg:aY M.sc Ay=Hq)(hv:aA M.sc x=Hq)(hs:cV [e1,e2,e3]=Hq):S1 Y w U n M.sc (.Expr (.Call sY [e1,e2,e3] [] cp) pos) (sv x (M.eM e1) (M.eM e3) (M.c.M Ay)):=by
 refine S1.at λL v hn=>?_;have Eb:=hn;obtain⟨d,_,hn⟩:=ao hn;obtain⟨v1,_,hn⟩:=ao hn;obtain⟨v3,_,hn⟩:=ao hn;revert hn;refine jl λ_ hn=>?_;obtain⟨d',hn1⟩:=dI hn;obtain⟨d2,hM,_⟩:=ao hn1;obtain⟨p1,px,p3,hD,gq⟩:=bF.G.M Ay _ _ hM;induction ha with|mk np=>?_
 induction h2 with|mk xp=>?_
 exact i12 _ Eb (S1.aon hD (bF.h e1 M.sc).1 (bF.h e3 M.sc).1 hv hg (Io n) gq (λK=>(nf e1).star (cm hs).1 _ K) (λK=>rfl) (λK=>(nf e3).star (cm (cm (cm hs).2).2).1 _ K) (λK=>ip cp K hs) bF.iM)
theorem al6(e:HR)(pos:J3):S1 Y w U n M.sc (.Expr e pos) (jEx M e (aa e)):=by
 refine S1.gd λhk=>?_;have he:e=.Call (aa e).a (aa e).es (aa e).ks (aa e).p:=dy (aw hk);refine S1.bif (λR=>?_) (S1.gd λhg=>?_)
 ·have:=agD bF (aa e) R pos;rwa[<-he]at this
 obtain⟨h1,h2⟩:=aj hg;rw[IC.mp h1]at he;refine S1.bif (λha=>S1.gd λhg=>?_) (S1.bif (λhl=>?_) (S1.anr (bF.h e M.sc).1 bF.iM λK=>by refine he.symm▸?_;rfl))
 ·obtain⟨hg,h5⟩:=aj hg;obtain⟨h3,h4⟩:=aj hg;obtain ea:(aa e).a=.Attribute (aa (aa e).a).a (aa (aa e).a).x (aa (aa e).a).p:=dy (aw ha);rw[nz h3]at he h2;obtain t:=S1.mK (afx bF (aa (aa e).a).a (aa (aa e).a).x (hd (aa e).es) (aa (aa e).a).p (aa e).p pos h2 h4) (ah2 bF (aa (aa e).a).a (aa (aa e).a).x (hd (aa e).es) (aa (aa e).a).p (aa e).p pos h2 h4 (cE h5));rwa[<-ea,<-he]at t
 ·refine S1.at λL v R=>?_;obtain⟨g,hx,R⟩:=ao R;obtain⟨x,hy,R⟩:=ao R;obtain⟨hg,R⟩:=fJ R;obtain⟨h3,h4⟩:=aj hg;rw[apA hl]at he h2;obtain t:=afL bF (cp:=(aa e).p) (pos:=pos) (tn hx) (tn hy) h3 h4 h2;rw[<-he]at t;exact i12 _ R t
end
noncomputable def anY(x:HP)(L:ar):Hp Out:=match L x with|some (.own (.lst B))=>hb (.ret (.list B))|_=>Hu
def jER(M:Mc)(e:HR)(L:ar):Hp Ho:=mK ((nm e).bind λx=>gd (aA M.sc x) (pI (L x))) ((M.eM e L).bind sT)
noncomputable def zI(M:Mc):Hn HR->ar->Hp (Hn Ho)
 |[],_=>hb []
 |e::es,L=>(jER M e L).bind λa=>(zI M es L).map (a::·)
def v8(es:Hn HR)(L:ar):Ig:=es.any λe=>match nm e with
 |some x=>(pI (L x)).isSome
 |none=>HH
def yN(M:Mc)(e:Hp HR)(L:ar):Hp Out:=match e with
 |none=>hb (.ret .none)
 |some e=>bif M.rt then(M.eM e L).bind λv=>if flat v.x=Hq then hb (.fR v.x L)else Hu else bif(aa e).k==25&&v8 (aa e).es L then gd (cV (aa e).es) ((zI M (aa e).es L).bind λB=>if B.length<=sizeLine then hb (.ret (.tuple B))else Hu)else mK ((nm e).bind λx=>gd (aA M.sc x) (anY x L)) ((M.eM e L).bind Bk)
theorem alQ(H:tU Y w U n M)(e:HR):BE Y w U n M.sc e (jER M e):=by
 intro A Hz K ae X C L O s x Q E hs hA I R hQ;rcases uy R with q|q
 ·obtain⟨y,hy,q1⟩:=ao q;obtain⟨hv,q2⟩:=fJ q1;obtain hy:=tn hy;clear R q;induction hy with|mk p=>exact BE.own hv hs hA I q2 hQ
 ·exact BE.val (H.h e M.sc).1 hs hA I q hQ
theorem adO(H:tU Y w U n M):∀es,cV es=Hq->tj Y w U n M.sc es (zI M es)
 |[],_=>tj.nil
 |e::es,h=>tj.cons (alQ H e) (adO H es (cm h).2) λK=>(nf e).star (cm h).1 es K
theorem ai6(H:tU Y w U n M)(e:Hp HR)(pos:J3):S1 Y w U n M.sc (.Return e pos) (yN M e):=by
 cases e with
 |none=>exact S1.aiJ
 |some e=>
  refine S1.bif (λ_=>S1.fR (H.h e M.sc).1) (S1.at λL v R=>?_);rcases fD R with⟨hg,R⟩|⟨_,R⟩
  ·obtain⟨h1,_⟩:=aj hg;obtain⟨h2,R⟩:=fJ R;have:=S1.apW (k:=(aa e).n) (tp:=(aa e).p) (pos:=pos) (adO H (aa e).es h2);rw[<-show e=.Tuple (aa e).es (aa e).n (aa e).p from dy (aw h1)]at this;exact i12 _ R this
  ·rcases uy R with R|R
   ·obtain⟨x,hx,R⟩:=ao R;obtain⟨hv,R⟩:=fJ R;refine i12 _ R ?_;induction tn hx with|mk p=>exact S1.ama hv
   ·exact i12 _ R (S1.ret (H.h e M.sc).1)
noncomputable def xG(op:LK):Ig:=match op with
 |.Add=>Hq
 |_=>HH
def sC(M:Mc)(q:iK)(e:HR)(L:ar):Hp Out:=M.c.S.bind λs=>
 bif q.x=="opened"then(nm q.a).bind λx=>gd (aA M.sc x) (kC s.1 s.2.1 x (M.eM e) L)else
 gd (q.x=="amount"&&(aa q.a).k==21&& !gA 26 (aa q.a).b) ((oi (aa q.a).a).bind λx=>gd (aA M.sc x) (iY s.1 s.2.1 x (M.eM (aa q.a).b) (M.eM e) L))
def uw(M:Mc)(t:HR)(op:LK)(e:HR)(L:ar):Hp Out:=gd (xG op) (
 bif(aa t).k==23 then gd (aA M.sc (aa t).x) (akb (aa t).x (M.eM e) L)else
 bif(aa t).k==21 then gd (!gA 26 (aa t).b) ((jZ 9 (aa t).a).bind λx=>gd (aA M.sc x) (B5 x (uf M 9 (aa t).a) (M.eM (aa t).b) (M.eM e) L))else gd ((aa t).k==20) (sC M (aa t) e L))
theorem amX(h:gA 26 BY=HH)(ov iv new:HE):augStore BY ov iv new=(do Oa [new,ov,iv] (OG ov iv new);release [new,ov,iv] [];pure .next):=by cases BY<;>first|rfl|cases h
theorem agr(H:tU Y w U n M)(q:iK)(e:HR)(pos:J3):S1 Y w U n M.sc (.AugAssign (.Attribute q.a q.x q.p) .Add e pos) (sC M q e):=by
 refine S1.at λL v R=>?_;obtain⟨s,hs,R⟩:=ao R;obtain⟨⟨mC,KC⟩,⟨mV,KV⟩,_⟩:=H.G.S s hs;rcases fD R with⟨hy,hn⟩|⟨_,hn⟩
 ·obtain⟨x,hx,hn⟩:=ao hn;obtain⟨hv,hn⟩:=fJ hn;refine i12 _ hn<|(aw hy).symm▸?_;obtain hx:=tn hx;revert hx;generalize q.a=a;intro hx;induction hx with|mk p=>exact S1.opened KC (H.h e M.sc).1 hv
 ·obtain⟨hg,hn⟩:=fJ hn;obtain⟨hg,h3⟩:=aj hg;obtain⟨h1,h2⟩:=aj hg;obtain⟨x,hx,hn⟩:=ao hn;obtain⟨hv,hn⟩:=fJ hn;refine i12 _ hn<|(aw h1).symm▸?_;obtain ea:q.a=.Subscript (aa q.a).a (aa q.a).b (aa q.a).p:=dy (aw h2);refine ea.symm▸?_;obtain hx:=Gk hx;revert hx;generalize(aa q.a).a=a;intro hx;induction hx with|mk p t=>exact S1.aiV KC KV (H.h _ M.sc).1 (H.h e M.sc).1 hv ((nf _).sub (cE h3))
theorem ah3(H:tU Y w U n M)(t:HR)(op:LK)(e:HR)(pos:J3):S1 Y w U n M.sc (.AugAssign t op e pos) (uw M t op e):=by
 refine S1.gd λho=>?_;obtain rfl:op=.Add:=by cases op<;>first|rfl|cases ho
 refine S1.bif (λhk=>S1.gd λhv=>?_) (S1.bif (λhk=>S1.gd λhi=>?_) (S1.gd λhk=>?_))
 ·have:=S1.aiN (p:=(aa t).p) (pos:=pos) (H.h e M.sc).1 hv;rwa[<-show t=.Name (aa t).x (aa t).p from dy (aw hk)]at this
 ·refine S1.at λL v R=>?_;obtain⟨x,hr,R⟩:=ao R;obtain⟨hv,R⟩:=fJ R;have:=S1.apx (p:=(aa t).p) (pos:=pos) (v7 H hv 9 (aa t).a hr) (H.h (aa t).b M.sc).1 (H.h e M.sc).1 (amX (cE hi));rw[<-show t=.Subscript (aa t).a (aa t).b (aa t).p from dy (aw hk)]at this;exact i12 _ R this
 ·have:=agr H (aa t) e pos;rwa[<-show t=.Attribute (aa t).a (aa t).x (aa t).p from dy (aw hk)]at this
abbrev yt:=Mc->(Hn IM->ar->Hp Out)->BO->ar->Hp Out
def A4:yt:=λM _ q L=>yN M q.oe L
def uG:yt:=λM _ q L=>gd (q.ts.length==1) (pT M (hd q.ts) q.e L)
def Be:yt:=λM _ q L=>uw M q.t q.op q.e L
def B2:yt:=λM rb q L=>gd (q.b2.isEmpty&& !gA 7 q.e) ((jI M.r M.sc q.t q.e L).bind λv=>if v.2=.t then Hu else rV (pC (aA M.sc) q.t) (rb q.b1) v.2 v.1 L)
def tV:yt:=λM rb q L=>gd q.b2.isEmpty (mW (λL=>(M.r q.t M.sc L).2) (rb q.b1) 100000 L)
noncomputable def sIf:yt:=λM rb q L=>(M.r q.t M.sc L).2.bind λc=>if c then rb q.b1 L else rb q.b2 L
def DE:yt:=λM _ q L=>jEx M q.e (aa q.e) L
noncomputable def anI:yt:=λ_ _ _ L=>hb (.next L)
def Di:Hn (HG×yt):=[(5,uG),(12,sIf),(24,DE),(3,A4),(9,B2),(11,tV),(7,Be),(25,anI)]
def jS(M:Mc)(rb:Hn IM->ar->Hp Out)(s:IM)(L:ar):Hp Out:=(Di.lookup (au s).k).bind λf=>f M rb (au s) L
noncomputable def jB(M:Mc):HG->Hn IM->ar->Hp Out
 |0,_,_=>Hu
 |k+1,ss,L=>match ss with
  |[]=>hb (.next L)
  |s::rest=>(jS M (jB M k) s L).bind (xc (jB M k rest))
variable{rb:Hn IM->ar->Hp Out}
theorem aiF{q:BO}{f:yt}{t:Hn (HG×yt)}:(∀p∈t,S1 Y w U n M.sc (bS p.1 q) (p.2 M rb q))->t.lookup q.k=hb f->S1 Y w U n M.sc (bS q.k q) (f M rb q):=by
 induction t with
 |nil=>intro _ e;exact no e
 |cons p t bY=>
  intro k e;rw[HK]at e;cases hk:q.k==p.1 with
  |true=>rw[hk]at e;exact(aw hk).symm▸(si e)▸k p (.head _)
  |false=>rw[hk]at e;exact bY (λz hz=>k z (.tail _ hz)) e
section
variable(bF:tU Y w U n M)(pK:∀ss,St Y w U n M.sc ss (rb ss))
include bF
theorem ait(q:BO):S1 Y w U n M.sc (.Assign q.ts q.e q.p) (uG M rb q):=S1.gd λhl=>by
 have:=aiG bF (hd q.ts) q.e q.p;rwa[<-nz hl]at this
include pK
theorem aiv(q:BO):S1 Y w U n M.sc (.For q.t q.e q.b1 q.b2 q.p) (B2 M rb q):=S1.gd λhg=>by
 obtain⟨h1,h2⟩:=aj hg;exact(IC.mp h1).symm▸S1.for (ajo bF.G bF.h q.t q.e (cE h2)) (afK q.t) (pK q.b1)
theorem aeU(q:BO):S1 Y w U n M.sc (.While q.t q.b1 q.b2 q.p) (tV M rb q):=S1.gd λh1=>by
 exact(IC.mp h1).symm▸S1.while 100000 (bF.h q.t M.sc).2 (pK q.b1)
theorem an3(q:BO):∀p∈Di,S1 Y w U n M.sc (bS p.1 q) (p.2 M rb q):=
 all_cons (ait (rb:=rb) bF q) (all_cons (S1.if (bF.h q.t M.sc).2 (pK q.b1) (pK q.b2)) (all_cons (al6 bF q.e q.p) (all_cons (ai6 bF q.oe q.p) (all_cons (aiv bF pK q) (all_cons (aeU bF pK q) (all_cons (ah3 bF q.t q.op q.e q.p) (all_cons S1.pass λp hp=>nomatch hp)))))))
theorem zv(s:IM):S1 Y w U n M.sc s (jS M rb s):=by refine S1.at λL v R=>?_;obtain⟨f,hf,R⟩:=ao R;have:=aiF (an3 bF pK (au s)) hf;rw[<-acp s]at this;exact i12 _ R this
end
theorem sz(H:tU Y w U n M):∀k ss,St Y w U n M.sc ss (jB M k ss)
 |0,_=>by intro A Hz K ae X C L O s v Q E hs hr I R hQ;exact no R
 |k+1,[]=>St.nil
 |k+1,s::rest=>St.cons (zv H (sz H k) s) (sz H k rest)
abbrev Df:=Hn HP×Hn IM×IH
noncomputable def sN(st:IM):Hp (HP×Ov×Hn IM×IH):=match st with
 |.FunctionDef x args b _ _ _ s _ _ _=>hb (x,args,b,s)
 |_=>Hu
def CF(f:HP)(st:IM):Hp Df:=(sN st).bind λr=>bif r.1==f then hb (r.2.1.args.map (·.arg),r.2.2.1,r.2.2.2)else Hu
def mT(p:IB)(f:HP):Hp Df:=p.main.body.findSome? (CF f)
noncomputable def am0(f:HP)(st:IM):Hp (Hn IM):=match st with
 |.ClassDef x _ _ b _ _ _ _ _ _ _=>bif x==f then hb b else Hu
 |_=>Hu
def n9(p:IB)(cls f:HP):Hp Df:=(p.main.body.findSome? (am0 cls)).bind λb=>b.findSome? (CF f)
structure JP where
 p:IB
 K:HP->Hp Ho
 ow:HP->Ig
 S:Hp (Hv×Hv×Hv×Hn Ho)
 A:HP->Hp (Hv×Hn HP)
def BH(P:JP)(c:JC)(rt:Ig)(sc:IH):Mc:=⟨c,P.ow,rt,J c 40,sc⟩
def mU(P:JP)(c:JC)(rt:Ig)(q:Df):ar->Hp Out:=jB (BH P c rt q.2.2) 60 q.2.1
open Classical in
def lK(ps:Hn HP)(px:HP)(m:ar->Hp Out)(B:Hn Ho):Hp Ho:=if∀a,lH ps px m a B=lH ps px m 0 B then lH ps px m 0 B else Hu
theorem mP(h:lK ps px m B=hb G2)(a:Hv):lH ps px m a B=hb G2:=by
 unfold lK at h;split at h
 ·rename_i hq;exact(hq a).trans h
 ·exact no h
theorem aej(h:∀a,lH ps px m a B=hb G2):lK ps px m B=hb G2:=by unfold lK;exact(H5 λa=>(h a).trans (h 0).symm).symm▸h 0
noncomputable def p1(ps:Hn HP):HP:=ps.headD ""
noncomputable def p2(ps:Hn HP):HP:=ps.tail.headD ""
noncomputable def p3(ps:Hn HP):HP:=ps.tail.tail.headD ""
variable{l:Hn HP}
theorem ps3(h:(l.length==3)=Hq):l=[p1 l,p2 l,p3 l]:=by obtain⟨a,t,rfl⟩:=IY (aw h);obtain⟨b,t,rfl⟩:=IY (Jz (aw h));obtain⟨d,rfl⟩:=Jp.mp (Jz (Jz (aw h)));rfl
theorem ps2(h:(l.length==2)=Hq):l=[p1 l,p2 l]:=by obtain⟨a,t,rfl⟩:=IY (aw h);obtain⟨d,rfl⟩:=Jp.mp (Jz (aw h));rfl
def E6(ps:Hn HP):Ig:=ps.length==3&& !(p1 ps==p2 ps)&& !(p3 ps==p2 ps)&& !(p3 ps==p1 ps)
def Fh(ps:Hn HP):Ig:=ps.length==2&& !(p2 ps==p1 ps)
def ajl(ps:Hn HP)(m:ar->Hp Out)(B:Hn Ho):Hp Ho:=gd (E6 ps) (lK ps (p2 ps) m B)
def ajF(ps:Hn HP)(m:ar->Hp Out)(B:Hn Ho):Hp (Ho×Ho):=gd (Fh ps) (tJ ps (p1 ps) m B)
def anA(P:JP)(c:JC)(q:Df):Hp Ho:=gd (q.1.isEmpty&&q.2.1.length==1) (((au (q.2.1.headD (.Pass default))).oe).bind λe=>gd ((au (q.2.1.headD (.Pass default))).k==3) ((Av (BH P c HH q.2.2) 5 e (nL [] [])).bind λd=>gd (dD d) (hb d)))
def vV(P:JP)(y:HP):Hp Df:=gd (!iP aG y) (n9 P.p "Store" y)
def wQ(P:JP)(c:JC)(s:Hv×Hn HP)(d:Df)(B:Hn Ho):Hp Ho:=gd (p1 d.1=="self"&& !d.1.isEmpty) (lK d.1 "self" (mU P {c with I:=hb s} HH d) (d9 s.1 [] []::B))
noncomputable def AS(P:JP):JC:=⟨λ_ _=>Hu,P.K,λ_ _=>Hu,λ_=>Hu,P.S,λ_ _=>Hu,λ_ _=>Hu,λ_ _=>Hu,P.A "Outcome"⟩
def gH(P:JP)(c:JC)(b:Ig):JC where
 F:=λf B=>(mT P.p f).bind λq=>BI q.1 (mU P c HH q) B
 K:=P.K
 M:=λf B=>(mT P.p f).bind λq=>ajl q.1 (mU P c HH q) B
 T:=λf=>(mT P.p f).bind (anA P c)
 S:=P.S
 P:=λy B=>(vV P y).bind λq=>BI q.1 (mU P c HH q) B
 R:=λy B=>(vV P y).bind λq=>ajF q.1 (mU P c Hq q) B
 N:=λf B=>gd b ((P.A f).bind λs=>(n9 P.p f "__init__").bind λd=>wQ P (AS P) s d B)
 I:=P.A "Outcome"
noncomputable def jc(P:JP):HG->JC
 |0=>AS P
 |d+1=>gH P (jc P d) (Ln 1 d)
structure xQ(P:JP)(w:Ja)(U:Iv):Prop where
 B:BQ U
 all:bt U "all" (.builtin "all")
 abs:bt U "abs" (.builtin "abs")
 max:bt U "max" (.builtin "max")
 sorted:bt U "sorted" (.builtin "sorted")
 enumerate:bt U "enumerate" (.type "enumerate")
 zip:bt U "zip" (.type "zip")
 K:∀x d,P.K x=hb d->nF P.p w U x d
 D:∀f q,mT P.p f=hb q->lO U f q.2.2 q.1 q.2.1
 S:∀s,P.S=hb s->ag1 P.p w U s
 E:∀s,P.S=hb s->∀y q,vV P y=hb q->MethAt U s.1 y q.2.2 q.1 q.2.1
 A:∀f s,P.A f=hb s->bt U f (.ref s.1)/\(∃mC,j7 s.2 U s.1 mC)/\∀q,n9 P.p f "__init__"=hb q->∃mC f fo fd r,j7 s.2 U s.1 mC/\mC "__init__"=hb (.ref f)/\U.get? f=hb fo/\fo.cls=.type "function"/\fo.data=.func fd/\Kw (.type "object") (HA "__init__")=pure r/\jq U f q.2.2 q.1 q.2.1
theorem lO.kind(h:lO U jo sc ps body):sc.kind=.function:=by obtain⟨a,_,h⟩:=h;exact h.kind
variable{P:JP}
theorem qV(G:vd P.p w U n c)(rt:Ig)(q:Df)(hk:q.2.2.kind=.function):St P.p w U n q.2.2 q.2.1 (mU P c rt q):=sz (M:=BH P c rt q.2.2) ⟨G,wc G 40,hk⟩ 60 q.2.1
theorem amI:iP l y=HH->y∉l:=by
 induction l with
 |nil=>intro _;exact nofun
 |cons x l bY=>intro h;rw[oq,Jn]at h;rw[Hw,LR];refine⟨λe=>?_,bY h.2⟩;have:=h.1;rw[e,Ih]at this;cases this
theorem abC{q:Df}(h:vV P y=hb q):y∉aG:=amI (cE (fJ h).1)
theorem vd.init(G:vd P.p w U n c){s:Hv×Hn HP}(h:∃mC,j7 s.2 U s.1 mC):vd P.p w U n {c with I:=hb s}:=
 ⟨G.B,G.all,G.abs,G.max,G.sorted,G.enumerate,G.zip,G.F,G.K,G.M,G.T,G.S,G.P,G.R,G.N,λq e=>by cases e;exact h⟩
theorem qj(T:xQ P w U):vd P.p w U 0 (AS P):=⟨T.B,T.all,T.abs,T.max,T.sorted,T.enumerate,T.zip,λ_ _ _ e=>no e,T.K,λ_ _ _ e=>no e,λ_ _ e=>no e,T.S,λ_ _ _ _ _ e=>no e,λ_ _ _ _ _ e=>no e,λ_ _ _ e=>no e,λq e=>(T.A _ q e).2.1⟩
theorem amj(T:xQ P w U)(h2:2<=n){s:Hv×Hn HP}{d:Df}(hs:P.A jo=hb s)(hd:n9 P.p jo "__init__"=hb d)(h1:(p1 d.1=="self"&& !d.1.isEmpty)=Hq):Gu P.p w U n jo (wQ P (AS P) s d):=by
 obtain⟨g,hC,hD⟩:=T.A jo s hs;obtain D:=hD d hd;have hk:d.2.2.kind=.function:=by obtain⟨_,_,_,_,_,_,_,_,_,_,_,D⟩:=D;exact D.kind
 obtain aH:=qV ((qj T).init hC) HH d hk;obtain⟨h1',h3⟩:=aj h1;obtain⟨ps,body,sc⟩:=d;clear h1 hd hs T hk hD hC;obtain⟨p0,ps,rfl⟩:∃p0 t,ps=p0::t:=by
  cases ps with
  |nil=>cases h3
  |cons a t=>exact CB a t rfl
 clear h3;obtain rfl:=aw h1';refine⟨s.1,ps,lK ("self"::ps) "self" (mU P {AS P with I:=hb s} HH ("self"::ps,body,sc)),1,s4.of D aH λa B d' e=>mP e a,g,h2,λB y e=>?_⟩;obtain e:=(fJ e).2;refine gQ e ?_;have:=mP e 0;unfold lH at this;split at this
 ·rename_i hl;exact(Jz hl).symm
 ·exact no this
theorem agF(T:xQ P w U)(G:vd P.p w U n c)(b:Ig)(aO:b=Hq->1<=n):vd P.p w U (n+1) (gH P c b):=by
 refine⟨T.B,T.all,T.abs,T.max,T.sorted,T.enumerate,T.zip,λf B y e=>?_,T.K,λf B y e=>?_,λf d e=>?_,T.S,λs hs y B z e=>?_,λs hs y B z e=>?_,λf B z e=>?_,λq e=>(T.A _ q e).2.1⟩
 ·obtain⟨q,hq,_⟩:=ao e;have D:=T.D f q hq;refine qK.of D (qV G HH q D.kind) _ λB y e=>?_;obtain⟨q',vn,e⟩:=ao e;rw[hq]at vn;obtain rfl:=si vn;exact e
 ·obtain⟨q,hq,e⟩:=ao e;obtain D:=T.D f q hq;have aH:=qV G HH q D.kind;obtain⟨hg,_⟩:=fJ e;obtain⟨hg,h4⟩:=aj hg;obtain⟨hg,h3⟩:=aj hg;obtain⟨h1,h2⟩:=aj hg;obtain hp:=ps3 h1;have D':=D;rw[hp]at D';refine⟨p1 q.1,p2 q.1,p3 q.1,zp.of D' (.tail _ (.head _)) aH λa B d' e=>?_,HO.mp (cE h2),HO.mp (cE h3),HO.mp (cE h4)⟩;obtain⟨q',vn,e⟩:=ao e;rw[hq]at vn;obtain rfl:=si vn;exact hp▸mP (fJ e).2 a
 ·obtain⟨q,hq,e⟩:=ao e;obtain D:=T.D f q hq;obtain⟨hg,e⟩:=fJ e;obtain⟨h1,h2⟩:=aj hg;obtain⟨x,hx,e⟩:=ao e;obtain⟨h3,e⟩:=fJ e;obtain⟨d',e1,e2⟩:=ao e;obtain⟨hn,e2⟩:=fJ e2;obtain rfl:=si e2;obtain⟨ps,body,sc⟩:=q;obtain rfl:=IC.mp h1;obtain⟨st,rfl⟩:=Jp.mp (aw h2);have qu:st=.Return (hb x) (au st).p:=by have:=zJ (s:=st) (aw h3);rw[show bS 3 (au st)=.Return (au st).oe (au st).p from rfl,show(au st).oe=hb x from hx]at this;exact this
  rw[qu]at D;exact⟨zq.of D (vZ (M:=BH P c HH sc) ⟨G,wc G 40,D.kind⟩ 5 x) e1,hn⟩
 ·obtain⟨q,hq,_⟩:=ao e;have D:=T.E s hs y q hq;have hk:q.2.2.kind=.function:=by obtain⟨_,_,_,_,_,_,_,_,_,_,_,D⟩:=D;exact D.kind
  refine uP.of D (qV G HH q hk) _ (λB z e=>?_) (abC hq);obtain⟨q',vn,e⟩:=ao e;rw[hq]at vn;obtain rfl:=si vn;exact e
 ·obtain⟨q,hq,e⟩:=ao e;have D:=T.E s hs y q hq;have hk:q.2.2.kind=.function:=by obtain⟨_,_,_,_,_,_,_,_,_,_,_,D⟩:=D;exact D.kind
  have aH:=qV G Hq q hk;obtain⟨hg,_⟩:=fJ e;obtain⟨h1,h2⟩:=aj hg;obtain hp:=ps2 h1;have D':=D;rw[hp]at D';refine⟨p1 q.1,p2 q.1,pD.of D' aH _ (λa B r e=>?_) (HO.mp (cE h2)) (abC hq)⟩;obtain⟨q',vn,e⟩:=ao e;rw[hq]at vn;obtain rfl:=si vn;exact hp▸acS (fJ e).2 a
 ·obtain⟨BB,e⟩:=fJ e;obtain⟨s,hs,e⟩:=ao e;obtain⟨d,hd,e⟩:=ao e;obtain⟨h1,_⟩:=fJ e;have:=amj T (Jv (aO BB)) hs hd h1;obtain ef:(gH P c b).N f=wQ P (AS P) s d:=by funext B;show gd b ((P.A f).bind _)=_;refine BB.symm▸hs.symm▸hd.symm▸?_;rfl
  exact ef.symm▸this
theorem uL(T:xQ P w U):∀d,vd P.p w U d (jc P d)
 |0=>qj T
 |d+1=>agF T (uL T d) _ IE
abbrev En:=Hn (HP×VV)
noncomputable def look(x:HP):En->Hp VV
 |[]=>Hu
 |(y,v)::l=>bif x==y then hb v else look x l
def d6(l:En)(L:ar):ar:=λx=>mK (look x l) (L x)
inductive Du(l:En):Hp Out->Prop
 |mk (L:ar):Du l (hb (.next (d6 l L)))
theorem af5:∀{l:En},look x l=hb fb->(x,fb)∈l:=by
 intro l h;induction l with
 |nil=>exact nomatch h
 |cons q l ih=>
  change(bif _ then _ else _)=_ at h;cases e:x==q.1 with
  |true=>rw[e]at h;exact(KA.mp e).symm▸(si h).symm▸.head _
  |false=>rw[e]at h;exact .tail _ (ih h)
theorem adG{l:En}(h:l.map (λp=>L p.1)=l.map λp=>hb p.2):L=d6 l L:=by
 funext x;unfold d6;cases e:look x l with
 |none=>rfl
 |some v=>
  have:∀p∈l,L p.1=hb p.2:=by
   clear e;induction l with
   |nil=>intro p hp;cases hp
   |cons q l ih=>
    rw[HS,HS,O0]at h;intro p hp;rcases Hw.mp hp with rfl|hp
    ·exact h.1
    ·exact ih h.2 p hp
  exact this _ (af5 e)
abbrev Mc.bM(M:Mc):HG->Hn IM->ar->Hp Out:=jB M
def Mc.sM(M:Mc)(k:HG):IM->ar->Hp Out:=jS M (jB M k)
noncomputable def nQ(ss:Hn IM)(i:HG):IM:=(ss[i]?).getD (.Pass default)
noncomputable def ltN(ss:Hn IM)(i:HG):Ig:=Ln (i+1) ss.length
variable{ss:Hn IM}{i:HG}
theorem qr(h:ltN ss i=Hq):ss.drop i=nQ ss i::ss.drop (i+1):=by obtain h:=IE h;(refine(J6 h).trans ?_;rw[nQ,HQ h]);rfl
def Mc.G(M:Mc)(k:HG)(ss:Hn IM)(i:HG)(l:En)(Q:Hp Out->Prop):Prop:=∀L,Q (M.bM k (ss.drop i) (d6 l L))
abbrev vh(s:IM):HR:=(au s).t
abbrev frE(s:IM):HR:=(au s).e
abbrev yu(s:IM):Hn IM:=(au s).b1
def ajN(s:IM):Ig:=(au s).k==9&&((au s).b2.isEmpty&& !gA 7 (au s).e)
def B7(s:IM):Ig:=(au s).k==11&&(au s).b2.isEmpty
abbrev ifE(s:IM):HR:=(au s).t
abbrev BG(s:IM):Hn IM:=(au s).b1
abbrev BN(s:IM):Hn IM:=(au s).b2
def C2(s:IM):Ig:=(au s).k==12
variable{s:IM}
theorem j3{m:HG}{f:yt}(h:(au s).k=m)(hl:Di.lookup m=hb f)(L:ar):jS M rb s L=f M rb (au s) L:=by unfold jS;refine h.symm▸hl.symm▸?_;rfl
theorem anV(h:C2 s=Hq)(L:ar):M.sM k s L=(M.r (ifE s) M.sc L).2.bind λc=>if c then M.bM k (BG s) L else M.bM k (BN s) L:=j3 (f:=sIf) (aw h) rfl L
theorem amc(h:ajN s=Hq)(L:ar):M.sM k s L=(jI M.r M.sc (vh s) (frE s) L).bind λv=>if v.2=.t then Hu else rV (pC (aA M.sc) (vh s)) (M.bM k (yu s)) v.2 v.1 L:=by obtain⟨h1,h2⟩:=aj h;refine(j3 (f:=B2) (aw h1) rfl L).trans ?_;show gd _ _=_;refine h2.symm▸?_;rfl
theorem aok(h:B7 s=Hq)(L:ar):M.sM k s L=mW (λL=>(M.r (vh s) M.sc L).2) (M.bM k (yu s)) 100000 L:=by obtain⟨h1,h2⟩:=aj h;refine(j3 (f:=tV) (aw h1) rfl L).trans ?_;unfold tV;exact h2.symm▸Ku _ _
noncomputable def yO(x:HP)(v:VV):En->En
 |[]=>[(x,v)]
 |(y,u)::l=>bif x==y then(y,v)::l else(y,u)::yO x v l
theorem afh(x:HP)(v:VV)(y:HP)(l:En):look y (yO x v l)=bif y==x then hb v else look y l:=by
 induction l with
 |nil=>exact rfl
 |cons BA l bY=>
  obtain⟨z,u⟩:=BA;dsimp only[yO];cases e:x==z with
  |true=>obtain rfl:=KA.mp e;show Qi (y==x) _ _=Qi (y==x) _ (Qi (y==x) _ _);cases y==x<;>rfl
  |false=>
   show Qi (y==z) _ _=Qi (y==x) _ (Qi (y==z) _ _);refine bY.symm▸?_;cases e1:y==z with
   |false=>rfl
   |true=>
    rw[show(y==x)=HH by
     refine(KA.mp e1).symm▸?_;cases e2:z==x with
     |false=>rfl
     |true=>rw[KA.mp e2,Ih]at e;cases e]
    rfl
theorem qD(x:HP)(v:VV)(l:En)(L:ar):(d6 l L).set x v=d6 (yO x v l) L:=by funext y;dsimp only[d6,ar.set];rw[afh];cases y==x<;>rfl
noncomputable def Gb(f:Fl):Ig:=match f with|.t=>HH|_=>Hq
def plE(M:Mc)(x:HP)(e:HR)(q:iK):Ig:= !(q.k==24)&& !(q.k==6&&q.oe.isEmpty&&q.es.isEmpty)&& !(q.k==8)&&(bif q.k==16 then !q.es.isEmpty&& !tN M q&& !M.ow x else jY e)
abbrev jO(s:IM):HR:=hd (au s).ts
abbrev dp(s:IM):HR:=(au s).e
def CA(M:Mc)(s:IM)(x:HP):Ig:=(au s).k==5&&((au s).ts.length==1)&&((aa (jO s)).k==23&&(aa (jO s)).x==x&&aA M.sc x)
theorem oS(h:CA M s x=Hq)(L:ar):M.sM k s L=lR M x (dp s) (aa (dp s)) L:=by obtain⟨h,g⟩:=aj h;obtain⟨h1,h2⟩:=aj h;obtain⟨g,g3⟩:=aj g;obtain⟨g1,g2⟩:=aj g;refine(j3 (f:=uG) (aw h1) rfl L).trans ?_;show gd ((au s).ts.length==1) (bif(aa (jO s)).k==23 then gd (aA M.sc (aa (jO s)).x) (lR M (aa (jO s)).x (dp s) (aa (dp s)) L)else _)=_;refine h2.symm▸g1.symm▸(aw g2).symm▸g3.symm▸?_;rfl
theorem ali{q:iK}(h:plE M x e q=Hq)(L:ar):lR M x e q L=(M.eM e L).bind (uR L x):=by
 obtain⟨h,h4⟩:=aj h;obtain⟨h,h3⟩:=aj h;obtain⟨h1,h2⟩:=aj h;unfold lR;refine(cE h1).symm▸(cE h2).symm▸(cE h3).symm▸?_;show(bif q.k==16 then mG M x e q L else gd (jY e) ((M.eM e L).bind (uR L x)))=_;revert h4;cases q.k==16 with
 |false=>intro h4;refine(show jY e=Hq from h4).symm▸?_;rfl
 |true=>intro h4;obtain⟨h4,h6⟩:=aj (show(!q.es.isEmpty&& !tN M q&& !M.ow x)=Hq from h4);obtain⟨h4,h5⟩:=aj h4;unfold mG;refine(cE h4).symm▸(cE h5).symm▸(cE h6).symm▸?_;rfl
abbrev dA(s:IM):iK:=aa (au s).e
def yI(M:Mc)(s:IM)(x y:HP):Ig:=(au s).k==24&&(dA s).k==16&& !tN M (dA s)&&((dA s).ks.isEmpty&&cV (dA s).es&&(aa (dA s).a).k==20)&&((dA s).es.length==1&&((aa (dA s).a).p.endLine==(dA s).p.line)&& !gA 16 (aa (dA s).a).a)&&(nm (aa (dA s).a).a==hb x&&(aa (dA s).a).x==y&&aA M.sc x)
theorem agy(h:yI M s x y=Hq)(L:ar):M.sM k s L=mK (bif y=="append"then zG x (M.eM (hd (dA s).es)) L else gd (y=="extend") (zo x (M.eM (hd (dA s).es)) L)) (AI M (aa (dA s).a).a y (hd (dA s).es) L):=by obtain⟨h,g⟩:=aj h;obtain⟨h,h6⟩:=aj h;obtain⟨h,h5⟩:=aj h;obtain⟨h,h3⟩:=aj h;obtain⟨h1,h2⟩:=aj h;obtain⟨g,g3⟩:=aj g;obtain⟨g1,g2⟩:=aj g;obtain⟨h5,h7⟩:=aj h5;refine(j3 (f:=DE) (aw h1) rfl L).trans ?_;show gd ((dA s).k==16) (bif tN M (dA s)then _ else gd ((dA s).ks.isEmpty&&cV (dA s).es) (bif(aa (dA s).a).k==20 then gd ((dA s).es.length==1&&((aa (dA s).a).p.endLine==(dA s).p.line)&& !gA 16 (aa (dA s).a).a) (mK ((nm (aa (dA s).a).a).bind λx=>gd (aA M.sc x) (bif(aa (dA s).a).x=="append"then zG x (M.eM (hd (dA s).es)) L else gd ((aa (dA s).a).x=="extend") (zo x (M.eM (hd (dA s).es)) L))) (AI M (aa (dA s).a).a (aa (dA s).a).x (hd (dA s).es) L))else _))=_;refine h2.symm▸(cE h3).symm▸h5.symm▸h7.symm▸h6.symm▸(aw g1).symm▸(aw g2).symm▸?_;show mK (gd (aA M.sc x) _) _=_;refine g3.symm▸?_;rfl
abbrev pU(s:IM):HR:=(au s).oe.getD default
def aoF(M:Mc)(s:IM):Ig:=(au s).k==3&&(au s).oe.isSome&& !M.rt&&(nm (pU s)).isNone
def bd(P:JP)(f:HP):Hn IM:=match mT P.p f with|some q=>q.2.1|none=>[]
def Gz(P:JP)(f:HP):IH:=match mT P.p f with|some q=>q.2.2|none=>default
def psf(P:JP)(f:HP):Hn HP:=match mT P.p f with|some q=>q.1|none=>[]
def Mf(P:JP)(c:JC)(f:HP):Mc:=BH P c HH (Gz P f)
noncomputable def Fx(ps:Hn HP)(B:Hn Ho):En:=(ps.zip B).map λp=>(p.1,.val (V.fix p.2 .s))
theorem j1:∀(ps:Hn HP)(B:Hn Ho),nL ps B=d6 (Fx ps B) (λ_=>Hu):=by
 intro ps;induction ps with
 |nil=>intro B;funext y;cases B<;>rfl
 |cons p ps ih=>
  intro B;cases B with
  |nil=>rfl
  |cons x B=>
   funext y;show Qi (y==p) _ _=mK (Qi (y==p) _ _) _;cases y==p with
   |true=>rfl
   |false=>exact Kx (ih B) y
def Dt(ps:Hn HP)(B:Hn Ho)(px:HP)(a:Hv)(d:Ho):En:=yO px (.own (.tree (hb a) d)) (Fx ps B)
variable{d':Ho}
theorem ahb(hl:B.length=ps.length)(hd:(ps.zip B).lookup px=hb d)(h1:m (d6 (Dt ps B px a d) λ_=>Hu)=hb (.next L))(h2:L px=hb (.own (.tree (hb a) d'))):lH ps px m a B=hb d':=by(refine iT hl ?_;rw[hd,HT,j1,qD]);refine h1.symm▸?_;show(bL L px).bind _=_;unfold bL;exact h2.symm▸H5 rfl
inductive CO(c:Ig)(a b:Prop):Prop
 |yes (h:c=Hq) (e:a):CO c a b
 |no (h:c=HH) (e:b):CO c a b
theorem a9{c:Ig}{a b:Prop}(h:bif c then a else b):CO c a b:=by
 cases c with
 |true=>exact .yes rfl h
 |false=>exact .no rfl h
def an8(sc:IH)(t e:HR):Ig:= !vR sc e "range" 1&& !(vR sc e "enumerate" 1&&(aa t).k==25)&& !(vR sc e "zip" 2&&(aa t).k==25)
variable{v:V}
theorem itD{q:Hn Ho×Fl}(hk:an8 sc Az e=Hq)(h:(r e sc L).1=hb v)(hi:nw v=hb q):jI r sc Az e L=hb q:=by obtain⟨hk,h3⟩:=aj hk;obtain⟨h1,h2⟩:=aj hk;unfold jI;exact(cE h1).symm▸(cE h2).symm▸(cE h3).symm▸h.symm▸hi
noncomputable abbrev g0(gs:Hn Lb):Lb:=gs.headD default
def Cs(e:HR)(sc:IH):Ig:=(aa e).k==8&&((aa e).gs.length==1&&((g0 (aa e).gs).is_async==0&&jC (aa e).sc sc (fH (aa e).sc)&& !gA 7 (g0 (aa e).gs).iter))
abbrev gT(e:HR):HR:=(g0 (aa e).gs).target
abbrev gI(e:HR):HR:=(g0 (aa e).gs).iter
abbrev gF(e:HR):Hn HR:=(g0 (aa e).gs).ifs
abbrev rZ(e:HR):IH:=(aa e).sc
abbrev Ax(e:HR):HR:=(aa e).a
def tM(r:JR)(sc:IH)(e:HR)(L:ar):Ho->Hp (Hp Ho):=
 zL (pC (λx=>jd (dE (rZ e) sc) x&&iP (fH (rZ e)) x) (gT e)) (ze r (dE (rZ e) sc) (gF e)) (λL=>(r (Ax e) (dE (rZ e) sc) L).1) (inComp (fH (rZ e)) L)
theorem aes{bind:V->ar->Hp ar}{test:ar->Hp Ig}{jn:ar->Hp V}(p:α->Ho)(g:α->Hp Ho){B:Hn α}:(∀a∈B,zL bind test jn L (p a)=hb (g a))->sJ bind test jn L (B.map p)=hb (B.filterMap g):=by
 induction B with
 |nil=>intro _;exact rfl
 |cons a B bY=>
  intro h;have ih:=bY λb U=>h b (.tail _ U);obtain h2:=h a (.head _);obtain⟨jx,e1,h2⟩:=ao h2;obtain⟨c,e2,h2⟩:=ao h2;show(bind (V.fix (p a) .s) L).bind _=_;refine e1.symm▸?_;rw[HT,e2,HT];clear h e2 e1;cases c with
  |false=>(exact ih.symm▸I1.symm▸(si h2)▸rfl)
  |true=>obtain⟨v,e3,h2⟩:=ao h2;revert h2;refine jl λhf h2=>?_;(refine bI e3 ?_;rw[H5 hf,ih,I1,<-si h2]);rfl
variable{f:Fl}
theorem cF{B:Hn α}(p:α->Ho)(g:α->Hp Ho)(hk:Cs e sc=Hq)(hI:jI r sc (gT e) (gI e) L=hb (B.map p,f))(h:∀a∈B,tM r sc e L (p a)=hb (g a)):kU r sc (Ax e) (aa e).gs (rZ e) L=hb (B.filterMap g):=by obtain⟨_,hk⟩:=aj hk;obtain⟨h1,h2⟩:=aj hk;obtain⟨a,ha⟩:=Jp.mp (aw h1);unfold tM at h;revert h hI h2;unfold gT gI gF rZ Ax;refine ha.symm▸?_;obtain⟨t,it,jk,a⟩:=a;intro hI h h2;show gd _ (qZ _ _ _ _ _ L)=_;refine(show(a==0&&jC (aa e).sc sc (fH (aa e).sc)&& !gA 7 it)=Hq from h2).symm▸bI (show jI r sc t it L=hb (B.map p,f)from hI) ?_;exact aes p g h
theorem vC(hk:Cs e sc=Hq)(h:kU (J c k) sc (Ax e) (aa e).gs (rZ e) L=hb ys):(J c (k+1) e sc L).1=hb ⟨.list ys,.d⟩:=by obtain⟨h1,_⟩:=aj hk;show(xj.lookup (aa e).k).bind _=_;refine(aw h1).symm▸?_;show(kU _ _ _ _ _ _).map _=_;refine h.symm▸?_;rfl
def Ba(e:HR):Hp HP:=gd ((aa e).k==16&&(aa (aa e).a).k==20&&(aa (aa e).a).x=="join"&&((aa e).ks.isEmpty&&cV (aa e).es&&((aa (aa e).a).p.endLine==(aa e).p.line))&&(aa e).es.length==1) (zu (aa (aa e).a).a)
theorem anH(hk:Ba e=hb sep)(h:(J c k (hd (aa e).es) sc L).1=hb ⟨.list B,f⟩)(hj:pG sep B=hb nZ):(J c (k+1) e sc L).1=hb ⟨nZ,.d⟩:=by obtain⟨hk,hs⟩:=fJ hk;obtain⟨hk,h5⟩:=aj hk;obtain⟨hk,h4⟩:=aj hk;obtain⟨hk,h3⟩:=aj hk;obtain⟨h1,h2⟩:=aj hk;show(xj.lookup (aa e).k).bind _=_;refine(aw h1).symm▸?_;show iH _ _ _ _ _ _ _ _=_;unfold iH;refine(aw h2).symm▸?_;show gd (Hq&&_) (xd _ _ _ _ _ _ _)=_;rw[h4,aw h3];show(bif Hq&&(aa e).es.length==1 then w8 (J c k) sc _ (hd (aa e).es) L else _)=_;refine h5.symm▸?_;show w8 _ _ _ _ _=_;unfold w8;(refine hs.symm▸h.symm▸?_);show(pG sep B).map _=_;refine hj.symm▸?_;rfl
theorem ji{a b:HI}(h:0<b):gE .Mod ⟨.int a,.d⟩ ⟨.int b,.d⟩=hb ⟨.int (a%b),.d⟩:=by show Jo _ (Jo IL (if 0<b then hb (a%b)else Hu))=_;refine(H5 h).symm▸?_;rfl
theorem ajR{a b:HI}(h:(smallInt a||smallInt b)=Hq):gE .Mult ⟨.int a,.d⟩ ⟨.int b,.d⟩=hb ⟨.int (a*b),.d⟩:=by show Jo _ (if(smallInt a||smallInt b)=Hq then hb (IL (a*b))else Hu)=_;refine(H5 h).symm▸?_;rfl
theorem fZ{k:HI}(h0:0<=k)(h1:k<=10000):tF ⟨.int k,.d⟩=hb (lX k,.d):=H5 ⟨HY (by decide) h0,HY h1 (by decide)⟩
abbrev yy(s:IM):HR:=(aa (dA s).a).a
abbrev BL(s:IM):HR:=hd (dA s).es
def B4(M:Mc)(s:IM)(x y:HP):Ig:=(au s).k==24&&(dA s).k==16&& !tN M (dA s)&&((dA s).ks.isEmpty&&cV (dA s).es&&(aa (dA s).a).k==20)&&((dA s).es.length==1&&((aa (dA s).a).p.endLine==(dA s).p.line)&& !gA 16 (yy s))&&((nm (yy s)).isNone&&(aa (dA s).a).x==y&&jZ 9 (yy s)==hb x&&aA M.sc x)
theorem aoH(h:B4 M s x y=Hq)(L:ar):M.sM k s L=(bif y=="append"&&(aa (BL s)).k==24 then gd (cV (aa (BL s)).es) (q7 x (uf M 9 (yy s)) (rR M.r M.sc (aa (BL s)).es) L)else
  bif y=="append"then qd x (uf M 9 (yy s)) (M.eM (BL s)) L else bif y=="extend"then ql x (uf M 9 (yy s)) (M.eM (BL s)) L else gd (y=="pop") (AX x (uf M 9 (yy s)) (M.eM (BL s)) L)):=by
 obtain⟨h,g⟩:=aj h;obtain⟨h,h6⟩:=aj h;obtain⟨h,h5⟩:=aj h;obtain⟨h,h3⟩:=aj h;obtain⟨h1,h2⟩:=aj h;obtain⟨g,g4⟩:=aj g;obtain⟨g,g3⟩:=aj g;obtain⟨g1,g2⟩:=aj g;obtain⟨h5,h7⟩:=aj h5;refine(j3 (f:=DE) (aw h1) rfl L).trans ?_;show gd ((dA s).k==16) (bif tN M (dA s)then _ else gd ((dA s).ks.isEmpty&&cV (dA s).es) (bif(aa (dA s).a).k==20 then gd ((dA s).es.length==1&&((aa (dA s).a).p.endLine==(dA s).p.line)&& !gA 16 (yy s)) (mK ((nm (yy s)).bind _) ((jZ 9 (yy s)).bind λx=>gd (aA M.sc x) _))else _))=_;refine h2.symm▸(cE h3).symm▸h5.symm▸h7.symm▸h6.symm▸(Jc.mp g1).symm▸(aw g3).symm▸(aw g2)▸?_;show gd (aA M.sc x) _=_;refine g4.symm▸?_;rfl
abbrev ug(s:IM):HR:=(aa (jO s)).a
abbrev qe(s:IM):HR:=(aa (jO s)).b
def CC(M:Mc)(s:IM)(x:HP):Ig:=(au s).k==5&&((au s).ts.length==1)&&(aa (jO s)).k==21&&((oi (ug s)).isNone&& !Fd M (ug s)&&jZ 9 (ug s)==hb x&&aA M.sc x)
theorem aoD(h:CC M s x=Hq)(L:ar):M.sM k s L=(bif(aa (dp s)).k==8 then uF x (uf M 9 (ug s)) (M.eM (qe s)) (kU M.r M.sc (aa (dp s)).a (aa (dp s)).gs (aa (dp s)).sc) L else gd (jY (dp s)) (AV x (uf M 9 (ug s)) (M.eM (qe s)) (M.eM (dp s)) L)):=by obtain⟨h,g⟩:=aj h;obtain⟨h,h3⟩:=aj h;obtain⟨h1,h2⟩:=aj h;obtain⟨g,g3⟩:=aj g;obtain⟨g,g2⟩:=aj g;obtain⟨g1,g0⟩:=aj g;refine(j3 (f:=uG) (aw h1) rfl L).trans ?_;show gd ((au s).ts.length==1) (pT M (jO s) (dp s) L)=_;refine h2.symm▸?_;unfold pT;refine(aw h3).symm▸?_;show tf M (ug s) (qe s) (dp s) L=_;unfold tf;refine(Jc.mp g1).symm▸?_;show(bif Fd M (ug s)then _ else _)=_;refine(cE g0).symm▸(aw g2).symm▸?_;show gd (aA M.sc x) _=_;refine g3.symm▸?_;rfl
abbrev Fm(s:IM):HR:=(aa (au s).t).a
abbrev Gv(s:IM):HR:=(aa (au s).t).b
def aox(M:Mc)(s:IM)(x:HP):Ig:=(au s).k==7&&xG (au s).op&&(aa (au s).t).k==21&& !gA 26 (Gv s)&&(jZ 9 (Fm s)==hb x&&aA M.sc x)
def aot(M:Mc)(s:IM)(g x:HP):Ig:=(au s).k==24&&(dA s).k==16&& !tN M (dA s)&&((dA s).ks.isEmpty&&cV (dA s).es)&& !((aa (dA s).a).k==20)&&(dA s).es.length==3&&(nm (dA s).a==hb g&&nm (sd (dA s).es)==hb x&&(aY M.sc g&&aA M.sc x))
variable{x:Ho}
theorem qI(h:flat x=Hq):V.fix x f=⟨x,.d⟩:=by unfold V.fix;refine h.symm▸?_;rfl
namespace X
set_option genCtorIdx false in
inductive Z:Type 1 where
 |nil
 |f (k:HG) (p:Prop) (h:p) (v:V) (z:Z)
 |br (c:Ig) (a:c=Hq->Z) (b:c=HH->Z)
 |mg (l:En) (c:Ig) (a:c=Hq->Z) (b:c=HH->Z) (z:Z)
 |lc (α:Type) (as:Hn α) (p:α->Ho) (B:Hn Ho) (ex:B=as.map p) (v:α->V) (hp:∀a,V.fix (p a) .s=v a) (g:α->Hp Ho) (ys:Hn Ho) (e:as.filterMap g=ys) (b:(a:α)->a∈as->Z) (z:Z)
 |fl (p:Prop) (h:p) (z:Z)
 |q (p:Prop) (h:p)
 |cs (c:Ig) (a:c=Hq->Z) (b:c=HH->Z)
 |lv (l:En) (p:Prop) (h:p)
 |e (l:En) (p:Prop) (h:p)
 |fr (α σ:Type) (as:Hn α) (p:α->Ho) (B:Hn Ho) (ex:B=as.map p) (hp:∀a,flat (p a)=Hq) (I:HG->σ->En) (aH:HG->σ->Prop) (s:σ) (r:aH 0 s) (b:(j:HG)->(a:α)->as[j]? =hb a->(s:σ)->aH j s->Z) (z:(s:σ)->aH as.length s->Z)
 |wh (σ:Type) (I:σ->En) (aH:σ->Prop) (m:σ->HG) (s:σ) (r:aH s) (h:m s<100000) (t:(s:σ)->aH s->Z)
noncomputable def vl(l:En):Hn (Hp VV):=l.map λp=>hb p.2
noncomputable def nv(l:En)(L:ar):Hn (Hp VV):=l.map λp=>L p.1
def Z.sp(z:Z):Prop:=Z.rec (motive:=λ_=>Prop) N9 (λ_ p _ _ _ s=>p/\s) (λc _ _ s t=>c=c/\(∀h,s h)/\∀h,t h) (λ_ c _ _ _ s t u=>c=c/\(∀h,s h)/\(∀h,t h)/\∀_:ar,u)
 (λ_ _ _ B _ _ _ _ _ _ _ _ s t=>B=B/\(∀a h,s a h)/\t) (λp _ _ s=>p/\s) (λp _=>p) (λ_ _ _ s t=>(∀h,s h)/\∀h,t h) (λl p _=>vl l=vl l/\p) (λl p _=>vl l=vl l/\p)
 (λ_ _ as p B _ _ I aH s _ _ _ b z=>B=B/\vl (I 0 s)=vl (I 0 s)/\(∀j a h s r(_:ar),b j a h s r)/\∀s r(_:ar),z s r) (λ_ I aH m s _ _ _ t=>vl (I s)=vl (I s)/\m s<100000/\∀s r(_:ar),t s r) z
theorem Z.ok(z:Z):z.sp:=by
 induction z with
 |nil=>exact trivial
 |f k p h v z ih=>exact gQ h ih
 |br c a b i j=>exact l6 rfl i j
 |mg l c a b z i j ih=>exact yW rfl i j (λ_=>ih)
 |lc α as p B ex v hp g ys e b z i ih=>exact l6 rfl i ih
 |fl p h z ih=>exact gQ h ih
 |q p h=>exact h
 |cs c a b i j=>exact gQ i j
 |lv l p h=>exact gQ rfl h
 |e l p h=>exact gQ rfl h
 |fr α σ as p B ex hp I aH s r b z i j=>exact yW rfl rfl (λj a h s r _=>i j a h s r) (λs r _=>j s r)
 |wh σ I aH m s r h t i=>exact l6 rfl h (λs r _=>i s r)
universe u
theorem all_cons{α:Type u}{P:α->Prop}{a:α}{l:Hn α}(h:P a)(t:∀b∈l,P b):∀b∈a::l,P b:=λb U=>(Hw.mp U).elim (λe=>e▸h) (t b)
theorem aey{α:Type u}{f:α}:∀{t:Hn (HG×α)},t.lookup k=hb f->(k,f)∈t:=by
 intro t e;induction t with
 |nil=>exact nomatch e
 |cons p t ih=>
  rw[HK]at e;cases hk:k==p.1 with
  |true=>rw[hk]at e;(refine(aw hk).symm▸(H4 e)▸?_);exact .head _
  |false=>rw[hk]at e;exact .tail _ (ih e)
abbrev CV:=Z->(V->Z->Prop)->Prop
abbrev CT:=Z->(Ig->Z->Prop)->Prop
inductive dc{α:Type}(o:Hp α)(Q:α->Z->Prop):Prop
 |mk (v:α) (z:Z) (h:o=hb v) (q:Q v z):dc o Q
def dT(o:Hp α)(z:Z)(Q:α->Z->Prop):Prop:=match o with
 |some v=>Q v z
 |none=>Jg
variable{z:Z}
theorem aT{o:Hp α}{Q:α->Z->Prop}(h:dT o z Q):dc o Q:=by
 cases o with
 |some v=>exact⟨v,z,rfl,h⟩
 |none=>exact h.elim
def pr(f:V->α)(z:Z)(o:Hp α)(Q:α->Z->Prop):Prop:=match z with
 |.f k p h v z=>(match k with
  |0=>o=hb (f v)/\Q (f v) z
  |k+1=>dT o (.f k p h v z) Q)
 |z=>dT o z Q
theorem dq{f:V->α}{o:Hp α}{Q:α->Z->Prop}(h:pr f z o Q):dc o Q:=by
 cases z with
 |f k p _ v z=>cases k with
  |zero=>exact⟨f v,z,h.1,h.2⟩
  |succ k=>exact aT h
 |_=>exact aT h
def cn(c:Prop)[La c](z:Z)(Q:Z->Prop):Prop:=pr id z (if c then hb ⟨.none,.d⟩else Hu) λ_ z=>Q z
variable{c:Prop}
theorem d8[La c]{Q:Z->Prop}(h:cn c z Q):c/\∃z,Q z:=by obtain⟨v,z,h,q⟩:=dq h;revert h;exact jl λhc _=>⟨hc,z,q⟩
def fx(y:Ho)(f:Fl)(z:Z)(Q:V->Z->Prop):Prop:=match z with
 |.fl _ _ z=>flat y=Hq/\Q ⟨y,.d⟩ z
 |z=>Q (V.fix y f) z
theorem anF{Q:V->Z->Prop}(h:fx nZ f z Q):∃z,Q (V.fix nZ f) z:=by
 cases z with
 |fl p q z=>exact(qI h.1).symm▸u9 z h.2
 |_=>exact u9 _ h
def tld(c:Prop)(z:Z)(Q:Z->Prop):Prop:=match z with
 |.f k _ _ _ z=>(match k with
  |0=>c/\Q z
  |_=>Jg)
 |_=>Jg
theorem amF{Q:Z->Prop}(h:tld c z Q):c/\∃z,Q z:=by
 cases z with
 |f k p q v z=>cases k with
  |zero=>exact⟨h.1,_,h.2⟩
  |succ k=>exact h.elim
 |_=>exact h.elim
def bz(b:Ig)(z:Z)(A fq:Z->Prop):Prop:=match z with
 |.br c x y=>b=c/\(∀h,A (x h))/\∀h,fq (y h)
 |z=>bif b then A z else fq z
inductive Bz(b:Ig)(A fq:Z->Prop):Prop
 |yes (h:b=Hq) (z:Z) (q:A z):Bz b A fq
 |no (h:b=HH) (z:Z) (q:fq z):Bz b A fq
variable{b:Ig}
theorem sI{A fq:Z->Prop}(h:bz b z A fq):Bz b A fq:=by
 have one:∀z,(bif b then A z else fq z)->Bz b A fq:=λz h=>by
  cases b with
  |true=>exact .yes rfl z h
  |false=>exact .no rfl z h
 cases z with
 |br c x y=>
  obtain⟨rfl,h1,h2⟩:=h;cases b with
  |true=>exact .yes rfl _ (h1 rfl)
  |false=>exact .no rfl _ (h2 rfl)
 |_=>exact one _ h
def bo(op:L1)(b:Ig)(z:Z)(A:Z->Prop)(fq:Ig->Z->Prop):Prop:=match op with
 |.And=>bz b z A (fq HH)
 |.Or=>bz b z (fq Hq) A
inductive Bo(op:L1)(b:Ig)(A:Z->Prop)(fq:Ig->Z->Prop):Prop
 |yes (h:(b==(op==.And))=Hq) (z:Z) (q:A z):Bo op b A fq
 |no (h:(b==(op==.And))=HH) (z:Z) (q:fq b z):Bo op b A fq
theorem ajx{A:Z->Prop}{fq:Ig->Z->Prop}(h:bo op b z A fq):Bo op b A fq:=by
 cases op with
 |And=>
  replace h:=sI h;cases b with
  |true=>cases h with
   |yes e z q=>exact .yes rfl z q
   |no e=>cases e
  |false=>cases h with
   |yes e=>cases e
   |no e z q=>exact .no rfl z q
 |Or=>
  have h:=sI h;cases b with
  |true=>cases h with
   |yes e z q=>exact .no rfl z q
   |no e=>cases e
  |false=>cases h with
   |yes e=>cases e
   |no e z q=>exact .yes rfl z q
noncomputable def tv(a:V)(b:Ig):V:=match a with
 |⟨.bool _,f⟩=>⟨.bool b,f⟩
 |a=>a
theorem anP(h:gY sY.x=hb b):tv sY b=sY:=by
 obtain⟨x,f⟩:=sY;cases x with
 |bool c=>refine(H4 (show hb c=hb b from h))▸?_;rfl
 |_=>rfl
noncomputable def vB(v:V):Ig:=match v.x with
 |.bool b=>b
 |_=>HH
noncomputable def vI(v:V):Hn Ho×Fl:=match v.x with
 |.list B=>(B,v.fl)
 |_=>([],v.fl)
theorem dc.bind{o:Hp α}{f:α->Hp β}{P:α->Z->Prop}{Q:β->Z->Prop}(h:dc o P)(k:∀a z,P a z->dc (f a) Q):dc (o.bind f) Q:=by obtain⟨a,z,rfl,q⟩:=h;exact k a z q
theorem dc.bd{o:Hp α}{a:α}{f:α->Hp β}{Q:β->Z->Prop}(h:o=hb a)(k:dc (f a) Q):dc (o.bind f) Q:=h▸k
theorem dc.iT{d:La c}{a b:Hp α}{Q:α->Z->Prop}(h:c)(k:dc a Q):dc (@ite _ c d a b) Q:=(H5 h).symm▸k
theorem dc.gd{o:Hp α}{Q:α->Z->Prop}{c:Ig}(hc:c=Hq)(h:dc o Q):dc (gd c o) Q:=by subst hc;exact h
abbrev OR:=IH->ar->HR->CV×CT
section
variable(qw:JC)(dF:OR)(bC:IH)(cf:ar)
noncomputable def xU:Hn HR->Z->(Hn V->Z->Prop)->Prop
 |[],z,Q=>Q [] z
 |e::es,z,Q=>(dF bC cf e).1 z λv z=>xU es z λvs z=>Q (v::vs) z
def DD(e:Hp HR)(z:Z)(Q:Hp HI->Z->Prop):Prop:=match e with
 |none=>Q Hu z
 |some e=>(dF bC cf e).1 z λv z=>dT (cD v.x) z λi z=>Q (hb i) z
noncomputable def Fs(op:L1):Hn HR->CT
 |[],z,Q=>Q (op==.And) z
 |e::es,z,Q=>(dF bC cf e).2 z λb z=>bif es.isEmpty then Q b z else bo op b z (λz=>Fs op es z Q) λb z=>Q b z
noncomputable def bop(op:L1)(a b:Ig):Ig:=match op with
 |.And=>a&&b
 |.Or=>a||b
noncomputable def FZ(op:L1):Hn HR->CT
 |[],z,Q=>Q (op==.And) z
 |e::es,z,Q=>(dF bC cf e).2 z λb z=>bif es.isEmpty then Q b z else FZ op es z λb' z=>Q (bop op b b') z
abbrev A2:=OR->IH->ar->iK->CV
def aod:A2:=λdF bC cf q z Q=>bif aki q.op&&((pX q.a).isSome||(pX q.b).isSome)then
  (match pX q.a with
  |some i=>(dF bC cf q.b).1 z λy z=>dT (uD ⟨.int i,.d⟩ y) z Q
  |none=>dT (pX q.b) z λj z=>(dF bC cf q.a).1 z λx z=>dT (uD x ⟨.int j,.d⟩) z Q)
 else(dF bC cf q.a).1 z λx z=>(dF bC cf q.b).1 z λy z=>pr id z (gE q.op x y) Q
def am3:A2:=λdF bC cf q z Q=>
 bif(aa q.b).k==26 then(dF bC cf q.a).1 z λx z=>DD dF bC cf (aa q.b).o1 z λl z=>DD dF bC cf (aa q.b).o2 z λu z=>DD dF bC cf (aa q.b).o3 z λt z=>pr id z (vF l u t x) Q else
 bif gA 26 q.b then Jg else(dF bC cf q.a).1 z λx z=>(dF bC cf q.b).1 z λy z=>pr V.x z (ec x.x y.x) λy z=>fx y x.fl z Q
def Gm(q:iK):CT:=λz Q=>bif cm1 q.cs q.es then(bif NX (hc q.cs) (hd q.es)then Jg else(dF bC cf q.a).1 z λx z=>(dF bC cf (hd q.es)).1 z λy z=>pr vB z (bW (hc q.cs) x.x y.x) Q)else
 bif cm2 q.cs q.es&& !Pr [hc q.cs,hc q.cs.tail] [hd q.es,sd q.es]then(dF bC cf q.a).1 z λx z=>(dF bC cf (hd q.es)).1 z λy z=>pr vB z (bW (hc q.cs) x.x y.x) λc1 z=>(dF bC cf (sd q.es)).1 z λw z=>pr vB z (bW (hc q.cs.tail) y.x w.x) λc2 z=>Q (c1&&c2) z else Jg
noncomputable def F4(op:L1):Hn HR->CV
 |[],_,_=>Jg
 |e::es,z,Q=>(dF bC cf e).1 z λa z=>bif es.isEmpty then Q a z else dT (gY a.x) z λb z=>bo op b z (λz=>F4 op es z Q) λb z=>Q (tv a b) z
def amU:A2:=λdF bC cf q z Q=>F4 dF bC cf q.bo q.es z Q
def anx:A2:=λdF bC cf q z Q=>Gm dF bC cf q z λb z=>Q ⟨.bool b,.d⟩ z
def oUn:A2:=λdF bC cf q z Q=>(dF bC cf q.a).1 z λx z=>dT (Ga q.un x) z Q
def oIf:A2:=λdF bC cf q z Q=>(dF bC cf q.a).2 z λb z=>bz b z (λz=>(dF bC cf q.b).1 z Q) λz=>(dF bC cf q.d).1 z Q
def ang:A2:=λdF bC cf q z Q=>bif cV q.es then xU dF bC cf q.es z λvs z=>pr id z (if vs.length<=sizeLine then hb (V.fix (.tuple (vs.map (·.x))) (lF vs))else Hu) Q else Jg
def ajO:A2:=λdF bC cf q z Q=>bif cV q.es then xU dF bC cf q.es z λvs z=>pr id z (if vs.length<=sizeLine then hb (V.eL (vs.map (·.x)) (lF vs))else Hu) Q else Jg
noncomputable def Cy:Hn (HG×A2):=[(2,aod),(21,am3),(15,anx),(3,oUn),(5,oIf),(25,ang),(24,ajO),(0,amU)]
def Fi(x:HP)(vs:Hn V):CV:=λz Q=>match bf x with
 |some m=>pr id z (m vs) Q
 |none=>bif x=="Outcome"then(bif vs.isEmpty then Jg else tld (∀B,qw.F x B=Hu) z λz=>pr V.x z (qw.N x (vs.map (·.x))) λy z=>Q ⟨y,.d⟩ z)else pr V.x z (qw.F x (vs.map (·.x))) λy z=>Q ⟨y,.d⟩ z
def Gx(k:HG)(t e:HR)(z:Z)(Q:Hn Ho×Fl->Z->Prop):Prop:=
 bif an8 bC t e then(dF bC cf e).1 z λv z=>dT (nw v) z Q else bif vR bC e "range" 1 then(dF bC cf (hd (aa e).es)).1 z λv z=>pr vI z (tF v) Q else dT (jI (J qw k) bC t e cf) z Q
noncomputable def AW(f:Fl):Ig:=match f with
 |.d=>Hq
 |_=>HH
def F0(e:HR)(vk:ar)(z:Z)(Q:Hp Ho->Prop):Prop:=match gF e with
 |[]=>(dF (dE (rZ e) bC) vk (Ax e)).1 z λv _=>bif AW v.fl then Q (hb v.x)else Jg
 |[i]=>(dF (dE (rZ e) bC) vk i).2 z λb z=>bz b z (λz=>(dF (dE (rZ e) bC) vk (Ax e)).1 z λv _=>bif AW v.fl then Q (hb v.x)else Jg) λ_=>Q Hu
 |_=>Jg
def zLc(z:Z):Ig:=Z.rec (motive:=λ_=>Ig) HH (λ_ _ _ _ _ s=>s) (λ_ _ _ _ _=>HH) (λ_ _ _ _ _ _ _ _=>HH) (λ_ _ _ _ _ _ _ _ _ _ _ _ _ _=>Hq) (λ_ _ _ s=>s) (λ_ _=>HH) (λ_ _ _ _ _=>HH) (λ_ _ _=>HH) (λ_ _ _=>HH) (λ_ _ _ _ _ _ _ _ _ _ _ _ _ _ _=>HH) (λ_ _ _ _ _ _ _ _ _=>HH) z
def lTg(e:HR)(v:V):Hp ar:=pC (λx=>jd (dE (rZ e) bC) x&&iP (fH (rZ e)) x) (gT e) v (inComp (fH (rZ e)) cf)
def Ft(k:HG)(e:HR):CV:=λz Q=>bif zLc z then(bif Cs e bC then Gx qw dF bC cf k (gT e) (gI e) z λw z=>(match z with
  |.lc _ _ _ B _ v _ g ys _ b z=>w.1=B/\(∀a h,dT (lTg bC cf e (v a)) (b a h) λvk z=>F0 dF bC e vk z λy=>y=g a)/\Q ⟨.list ys,.d⟩ z
  |_=>Jg)else Jg)else pr id z (J qw (k+1) e bC cf).1 Q
def afv(q:iK):Ig:=q.k==16&&(aa q.a).k==23&&(aY bC (aa q.a).x&&cV q.es)&&q.ks.isEmpty&& !((aa q.a).x=="isinstance")&& !((aa q.a).x=="list"&&mO (hd q.es))
def Gi(e:HR):CV:=λz Q=>match Ba e with
 |some sep=>(dF bC cf (hd (aa e).es)).1 z λv z=>(match v.x with
  |.list B=>pr V.x z (pG sep B) λy z=>Q ⟨y,.d⟩ z
  |_=>Jg)
 |none=>Jg
def oAt(q:iK):CV:=λz Q=>bif Ef q.a then(dF bC cf q.a).1 z λv z=>(match qw.S with
 |some s=>bif q.x=="plots"then pr id z (nS s.1 s.2.1 s.2.2.1 s.2.2.2 v.x) Q else pr V.x z (iy s.1 s.2.1 q.x v.x) λx z=>Q (V.fix x v.fl) z
 |none=>dT qw.I z λs z=>pr V.x z (j8 s.1 s.2 q.x v.x) λx z=>Q (V.fix x v.fl) z)else Jg
abbrev BP(e:HR):HR:=(aa (aa e).a).a
def kMt(e:HR)(y:HP):Ig:=(aa e).k==16&&(aa (aa e).a).k==20&&((aa e).ks.isEmpty&&cV (aa e).es&&((aa (aa e).a).p.endLine==(aa e).p.line))&&((aa (aa e).a).x==y&& !(y=="join")&& !(y=="get")&&(!gA 16 (BP e)&& !(aa e).es.isEmpty&&Ln (aa e).es.length 9))
def oMt(e:HR)(y:HP):CV:=λz Q=>dT qw.S z λs z=>(dF bC cf (BP e)).1 z λv z=>xU dF bC cf (aa e).es z λvs z=>cn (gX s.1 s.2.1 v.x=Hq) z λz=>pr V.x z (qw.P y (v.x::vs.map (·.x))) λy z=>Q ⟨y,.d⟩ z
def kVs(e:HR):Ig:=(aa e).k==16&&(aa (aa e).a).k==23&&(aY bC (aa (aa e).a).x&&cV (aa e).es)&&((aa e).ks.isEmpty&&(aa (aa e).a).x=="list"&&(aa e).es.length==1&&mO (hd (aa e).es))
def oD(x:Ho)(z:Z)(Q:Hn (Ho×Ho)->Z->Prop):Prop:=match x with
 |.dict aW=>cn (dQ aW=Hq) z λz=>Q aW z
 |_=>Jg
def oVl(e:HR):CV:=λz Q=>(dF bC cf (aa (aa (hd (aa e).es)).a).a).1 z λv z=>oD v.x z λaW z=>cn (b7 (aW.map (·.2))=Hq) z λz=>Q ⟨.list (aW.map (·.2)),.d⟩ z
def GD(e:HR):Hp I2:=gd ((aa e).k==16&&(aa (aa e).a).k==23&&(aY bC (aa (aa e).a).x&&cV (aa e).es)&&((aa e).ks.isEmpty&&((aa (aa e).a).x=="isinstance"&&(aa e).es.length==2))) ((nm (sd (aa e).es)).bind λT=>gd (aY bC T) (AZ T))
def kSr(e:HR):Ig:=(aa e).k==16&&(aa (aa e).a).k==23&&(aY bC (aa (aa e).a).x&&cV (aa e).es)&&(!(aa e).ks.isEmpty&&((aa (aa e).a).x=="sorted"&&zc (aa e).ks&&(aa e).es.length==1))
def an7(e:HR):Ig:=(aa e).k==16&&(aa (aa e).a).k==20&&(aa (aa e).a).x=="get"&&((aa e).ks.isEmpty&&cV (aa e).es&&((aa (aa e).a).p.endLine==(aa e).p.line))&&((aa e).es.length==2&& !gA 16 (BP e))
def oGt(e:HR):CV:=λz Q=>(dF bC cf (BP e)).1 z λa z=>(dF bC cf (hd (aa e).es)).1 z λk z=>(dF bC cf (sd (aa e).es)).1 z λd z=>pr id z (y5 a k d) Q
def oE(k:HG)(e:HR)(q:iK):CV:=match Cy.lookup q.k with
 |some f=>f dF bC cf q
 |none=>λz Q=>bif afv bC q then xU dF bC cf q.es z λvs z=>Fi qw (aa q.a).x vs z Q else bif q.k==23||q.k==19 then dT (J qw (k+1) e bC cf).1 z Q else bif q.k==8 then Ft qw dF bC cf k e z Q else bif(Ba e).isSome then Gi dF bC cf e z Q else bif q.k==20 then oAt qw dF bC cf q z Q else bif kMt e (aa q.a).x then oMt qw dF bC cf e (aa q.a).x z Q else bif kVs bC e then oVl dF bC cf e z Q else bif kSr bC e then(dF bC cf (hd q.es)).1 z λv z=>pr id z (sG v) Q else bif an7 e then oGt dF bC cf e z Q else match GD bC e with
  |some s=>(dF bC cf (hd q.es)).1 z λv z=>pr id z (zt s v.x) Q
  |none=>pr id z (J qw (k+1) e bC cf).1 Q
def oT(e:HR)(q:iK)(v:CV):CT:=λz Q=>
 bif q.k==15 then Gm dF bC cf q z Q else
 bif q.k==0 then(match z with
  |.f k p h v z=>(match k with
   |0=>N9/\FZ dF bC cf q.bo q.es z Q
   |k+1=>Fs dF bC cf q.bo q.es (.f k p h v z) Q)
  |z=>Fs dF bC cf q.bo q.es z Q)else
 bif q.k==3 then(match q.un with|.Not=>(dF bC cf q.a).2 z λb z=>Q (!b) z|_=>Jg)else
 bif gA 0 e||gA 3 e||gA 5 e||gA 15 e then Jg else v z λa z=>dT (gY a.x) z Q
end
noncomputable def JO(c:JC):HG->OR
 |0=>λ_ _ _=>(λ_ _=>Jg,λ_ _=>Jg)
 |k+1=>λsc L e=>(oE c (JO c k) sc L k e (aa e),oT (JO c k) sc L e (aa e) (oE c (JO c k) sc L k e (aa e)))
structure OkR(c:JC)(k:HG)(r:OR):Prop where
 v:∀sc L e z Q,(r sc L e).1 z Q->dc (J c k e sc L).1 Q
 t:∀sc L e z Q,(r sc L e).2 z Q->dc (J c k e sc L).2 Q
section
variable{c:JC}{r:OR}(bF:OkR c k r)
include bF
theorem jF:∀es z(Q:Hn V->Z->Prop),xU r sc L es z Q->dc (rR (J c k) sc es L) Q:=by
 intro es;induction es with
 |nil=>intro z Q h;exact⟨[],z,rfl,h⟩
 |cons e es bY=>intro z Q h;exact(bF.v _ _ e z _ h).bind λv z h=>(bY z _ h).bind λvs z h=>⟨_,z,rfl,h⟩
theorem qM(e:Hp HR)(z:Z)(Q:Hp HI->Z->Prop)(h:DD r sc L e z Q):dc (u7 (J c k) sc e L) Q:=by
 cases e with
 |none=>exact⟨Hu,z,rfl,h⟩
 |some e=>refine(bF.v _ _ e z _ h).bind λv z h=>?_;obtain⟨i,z,h2,h⟩:=aT h;exact h2.symm▸⟨_,z,rfl,h⟩
theorem agl(op:L1):∀es z(Q:Ig->Z->Prop),Fs r sc L op es z Q->dc (Ek (J c k) sc op es L) Q:=by
 intro es;induction es with
 |nil=>intro z Q h;exact⟨_,z,rfl,h⟩
 |cons e es bY=>
  intro z Q h;exact(bF.t _ _ e z _ h).bind λb z h=>by
   rcases a9 h with⟨U,h⟩|⟨_,h⟩
   ·refine(IC.mp U).symm▸⟨b,z,?_,h⟩;cases op<;>cases b<;>rfl
   rcases ajx h with⟨U,z,h⟩|⟨U,z,h⟩
   ·exact U.symm▸bY z Q h
   ·exact U.symm▸⟨b,z,rfl,h⟩
theorem al2(op:L1):∀es z(Q:Ig->Z->Prop),FZ r sc L op es z Q->dc (Ek (J c k) sc op es L) Q:=by
 intro es;induction es with
 |nil=>intro z Q h;exact⟨_,z,rfl,h⟩
 |cons e es bY=>
  intro z Q h;exact(bF.t _ _ e z _ h).bind λb z h=>by
   rcases a9 h with⟨U,h⟩|⟨U,h⟩
   ·refine(IC.mp U).symm▸⟨b,z,?_,h⟩;cases op<;>cases b<;>rfl
   ·obtain⟨b',z,h2,h⟩:=bY z _ h;refine⟨_,z,?_,h⟩;refine h2.symm▸?_;clear h2 h z;cases op<;>cases b<;>rfl
theorem ahK(q:iK)(z:Z)(Q:V->Z->Prop)(h:aod r sc L q z Q):dc (Bi c (J c k) q sc L) Q:=by
 dsimp only[Bi,Ce];rcases a9 h with⟨U,h⟩|⟨U,h⟩
 ·refine U.symm▸?_;revert h;cases pX q.a with
  |some i=>exactλh=>(bF.v _ _ q.b z _ h).bind λy z h=>aT h
  |none=>exactλh=>(aT h).bind λj z h=>(bF.v _ _ q.a z _ h).bind λx z h=>aT h
 ·exact U.symm▸(bF.v _ _ q.a z _ h).bind λx z h=>(bF.v _ _ q.b z _ h).bind λy z h=>dq h
theorem aji(q:iK)(z:Z)(Q:V->Z->Prop)(h:am3 r sc L q z Q):dc (Bf c (J c k) q sc L) Q:=by
 dsimp only[Bf,Cc];rcases a9 h with⟨U,h⟩|⟨U,h⟩
 ·exact U.symm▸(bF.v _ _ q.a z _ h).bind λx z h=>(qM bF _ z _ h).bind λl z h=>(qM bF _ z _ h).bind λu z h=>(qM bF _ z _ h).bind λt z h=>dq h
 ·refine U.symm▸?_;rcases a9 h with⟨_,h⟩|⟨U,h⟩
  ·exact h.elim
  ·exact U.symm▸(bF.v _ _ q.a z _ h).bind λx z h=>(bF.v _ _ q.b z _ h).bind λy z h=>(dq h).bind λw z h=>(anF h).elim λz h=>⟨_,z,rfl,h⟩
theorem af3(q:iK)(z:Z)(Q:Ig->Z->Prop)(h:Gm r sc L q z Q):dc (Dy (J c k) sc q.a q.cs q.es L) Q:=by
 unfold Dy;rcases a9 h with⟨U,h⟩|⟨U,h⟩
 ·refine U.symm▸?_;rcases a9 h with⟨_,h⟩|⟨U,h⟩
  ·exact h.elim
  ·exact U.symm▸(bF.v _ _ q.a z _ h).bind λx z h=>(bF.v _ _ _ z _ h).bind λy z h=>dq h
 ·refine U.symm▸?_;rcases a9 h with⟨U,h⟩|⟨_,h⟩
  ·refine dc.gd U ((bF.v _ _ q.a z _ h).bind λx z h=>(bF.v _ _ _ z _ h).bind λy z h=>(dq h).bind λc1 z h=>?_);obtain⟨w,z,h1,h⟩:=bF.v _ _ _ z _ h;obtain⟨c2,z,h2,h⟩:=dq h;refine⟨c1&&c2,z,?_,h⟩;cases c1 with
   |false=>rfl
   |true=>(refine bI h1<|h2.trans ?_);rfl
  ·exact h.elim
theorem ak3(op:L1):∀es z(Q:V->Z->Prop),F4 r sc L op es z Q->dc (E9 (J c k) sc op es L) Q:=by
 intro es;induction es with
 |nil=>intro _ _ h;exact h.elim
 |cons e es bY=>
  intro z Q h;exact(bF.v _ _ e z _ h).bind λa z h=>by
   rcases a9 h with⟨U,h⟩|⟨U,h⟩
   ·exact U.symm▸⟨a,z,rfl,h⟩
   ·refine U.symm▸?_;obtain⟨b,z,e,h⟩:=aT h;refine dc.bd e ?_;rcases ajx h with⟨U,z,h⟩|⟨U,z,h⟩
    ·exact U.symm▸bY z Q h
    ·refine U.symm▸?_;rw[anP e]at h;exact⟨a,z,rfl,h⟩
theorem ah4(q:iK)(z:Z)(Q:V->Z->Prop)(h:anx r sc L q z Q):dc (E7 c (J c k) q sc L) Q:=by obtain⟨b,z,h1,h⟩:=af3 bF q z _ h;refine⟨_,z,?_,h⟩;unfold E7;refine h1.symm▸?_;rfl
theorem alJ(q:iK)(z:Z)(Q:V->Z->Prop)(h:oIf r sc L q z Q):dc (GA c (J c k) q sc L) Q:=(bF.t _ _ q.a z _ h).bind λb z h=>by
 rcases sI h with⟨U,z,h⟩|⟨U,z,h⟩
 ·exact U.symm▸bF.v _ _ q.b z Q h
 ·exact U.symm▸bF.v _ _ q.d z Q h
theorem aiq(q:iK)(z:Z)(Q:V->Z->Prop)(h:ang r sc L q z Q):dc (Cd c (J c k) q sc L) Q:=by
 rcases a9 h with⟨U,h⟩|⟨_,h⟩
 ·exact dc.gd U ((jF bF q.es z _ h).bind λvs z h=>dq h)
 ·exact h.elim
theorem afU(q:iK)(z:Z)(Q:V->Z->Prop)(h:ajO r sc L q z Q):dc (zb c (J c k) q sc L) Q:=by
 rcases a9 h with⟨U,h⟩|⟨_,h⟩
 ·exact dc.gd U ((jF bF q.es z _ h).bind λvs z h=>dq h)
 ·exact h.elim
omit bF in
theorem alD(x:HP)(vs:Hn V)(z:Z)(Q:V->Z->Prop)(h:Fi c x vs z Q):dc (Ds c x vs) Q:=by
 revert h;dsimp only[Fi,Ds];cases bf x with
 |some m=>exactλh=>dq h
 |none=>
  intro h;rcases a9 h with⟨_,h⟩|⟨_,h⟩
  ·rcases a9 h with⟨_,h⟩|⟨hv,h⟩
   ·exact h.elim
   ·obtain⟨h1,z,h⟩:=amF h;obtain⟨y,z,h2,h⟩:=dq h;refine⟨⟨y,.d⟩,z,?_,h⟩;show mK ((c.F x _).map _) (Mine.gd (!vs.isEmpty) _)=_;rw[h1,hv,h2];rfl
  ·obtain⟨y,z,h1,h⟩:=dq h;refine⟨⟨y,.d⟩,z,?_,h⟩;refine h1.symm▸?_;rfl
theorem anl(q:iK)(z:Z)(Q:V->Z->Prop):∀p∈Cy,p.2 r sc L q z Q->∃f,xj.lookup p.1=hb f/\dc (f c (J c k) q sc L) Q:=
 all_cons (λh=>⟨Bi,rfl,ahK bF q z Q h⟩) (all_cons (λh=>⟨Bf,rfl,aji bF q z Q h⟩) (all_cons (λh=>⟨E7,rfl,ah4 bF q z Q h⟩) (all_cons (λh=>⟨kUn,rfl,(bF.v _ _ q.a z _ h).bind λx z h=>aT h⟩) (all_cons (λh=>⟨GA,rfl,alJ bF q z Q h⟩) (all_cons (λh=>⟨Cd,rfl,aiq bF q z Q h⟩) (all_cons (λh=>⟨zb,rfl,afU bF q z Q h⟩) (all_cons (λh=>⟨ajC,rfl,ak3 bF _ _ z Q h⟩) λp hp=>nomatch hp)))))))
theorem ae3(q:iK)(z:Z)(Q:V->Z->Prop)(hp:afv sc q=Hq)(h:xU r sc L q.es z λvs z=>Fi c (aa q.a).x vs z Q):dc (jE c (J c k) q sc L) Q:=by obtain⟨hp,h6⟩:=aj hp;obtain⟨hp,h5⟩:=aj hp;obtain⟨hp,h4⟩:=aj hp;obtain⟨hp,h3⟩:=aj hp;obtain⟨h1,h2⟩:=aj hp;unfold jE;refine(aw h1).symm▸?_;show dc (iH c (J c k) sc q.a q.es q.ks q.p L) Q;unfold iH;refine h2.symm▸h3.symm▸?_;show dc (jH c (J c k) sc (aa q.a).x q.es q.ks L) Q;unfold jH;refine h4.symm▸(cE h5).symm▸?_;show dc (bif(aa q.a).x=="list"&&q.es.length==1&&mO (hd q.es)then _ else(rR (J c k) sc q.es L).bind (Ds c (aa q.a).x)) Q;rw[show((aa q.a).x=="list"&&q.es.length==1&&mO (hd q.es))=HH by have:=cE h6;revert this;cases(aa q.a).x=="list"<;>cases mO (hd q.es)<;>cases q.es.length==1<;>intro h<;>first|rfl|cases h];exact(jF bF q.es z _ h).bind λvs z h=>alD _ vs z Q h
theorem afP(t e:HR)(z:Z)(Q:Hn Ho×Fl->Z->Prop)(h:Gx c r sc L k t e z Q):dc (jI (J c k) sc t e L) Q:=by
 rcases a9 h with⟨U,h⟩|⟨_,h⟩
 ·obtain⟨v,z,h1,h⟩:=bF.v _ _ e z _ h;obtain⟨w,z,h2,h⟩:=aT h;exact⟨w,z,itD U h1 h2,h⟩
 ·rcases a9 h with⟨U,h⟩|⟨_,h⟩
  ·unfold jI;exact U.symm▸(bF.v _ _ _ z _ h).bind λv z h=>dq h
  ·exact aT h
theorem ak6{y:Hp Ho}(hx:V.fix x .s=v)(h1:lTg sc L e v=hb vk)(h:F0 r sc e vk z λw=>w=y):tM (J c k) sc e L x=hb y:=by
 have fin:∀{z:Z}{y:Hp Ho},((r (dE (rZ e) sc) vk (Ax e)).1 z λv _=>bif AW v.fl then hb v.x=y else Jg)->∃v,(J c k (Ax e) (dE (rZ e) sc) vk).1=hb v/\v.fl=.d/\hb v.x=y:=λh=>by
  obtain⟨v,_,h2,h⟩:=bF.v _ _ _ _ _ h;rcases a9 h with⟨U,h⟩|⟨_,h⟩
  ·refine rM v h2 ?_ h;revert U;cases v.fl with
   |d=>exactλ_=>rfl
   |_=>exactλh=>Iu (show HH=Hq from h)
  ·exact h.elim
 dsimp only[tM,zL];refine bI (show pC (λx=>jd (dE (rZ e) sc) x&&iP (fH (rZ e)) x) (gT e) (V.fix x .s) (inComp (fH (rZ e)) L)=hb vk from hx.symm▸h1) ?_;revert h;unfold F0
 match gF e with
 |[]=>intro h;refine kK (fin h) λv h2 h3 h4=>?_;show(if Hq=Hq then(J c k (Ax e) (dE (rZ e) sc) vk).1.bind (λv=>if v.fl=.d then hb (hb v.x)else Hu)else hb Hu)=_;(refine iT rfl ?_;(refine bI h2 ?_;rw[H5 h3,h4]))
 |[i]=>
  intro h;obtain⟨b,z,h2,h⟩:=bF.t _ _ i _ _ h;refine bI h2 ?_;rcases sI h with⟨U,z,h⟩|⟨U,z,h⟩
  ·refine kK (fin h) λv h2 h3 h4=>?_;refine U.symm▸iT rfl ?_;show(J c k (Ax e) (dE (rZ e) sc) vk).1.bind _=_;refine bI h2 ?_;(refine iT h3 ?_;rw[h4])
  ·refine U.symm▸iF (by decide) ?_;exact HL _ h
 |_::_::_=>exactλh=>h.elim
theorem vT(e:HR)(z:Z)(Q:V->Z->Prop)(h:Ft c r sc L k e z Q):dc (J c (k+1) e sc L).1 Q:=by
 rcases a9 h with⟨_,h⟩|⟨_,h⟩
 ·rcases a9 h with⟨U,h⟩|⟨_,h⟩
  ·obtain⟨⟨B,f⟩,z,h1,h⟩:=afP bF _ _ _ _ h;cases z with
   |lc α as p B ex v hp g ys e b z=>subst e;refine xg h λh2 h3 h4=>⟨_,z,vC U (cF p g U (h1.trans (HL (λB=>hb (B,f)) (h2.trans ex))) λa ha=>?_),h4⟩;obtain⟨vk,z,h5,h6⟩:=aT (h3 a ha);exact ak6 bF (hp a) h5 h6
   |_=>exact h.elim
  ·exact h.elim
 ·exact dq h
theorem alh(e:HR)(z:Z)(Q:V->Z->Prop)(h:Gi r sc L e z Q):dc (J c (k+1) e sc L).1 Q:=by
 unfold Gi at h;cases hs:Ba e with
 |none=>rw[hs]at h;exact h.elim
 |some sep=>
  rw[hs]at h;obtain⟨⟨x,f⟩,z,h1,h⟩:=bF.v _ _ _ z _ h;cases x with
  |list B=>obtain⟨y,z,h2,h⟩:=dq h;exact⟨_,z,anH hs h1 h2,h⟩
  |_=>exact h.elim
theorem akE(e:HR)(z:Z)(Q:V->Z->Prop)(hk:((aa e).k==20)=Hq)(h:oAt c r sc L (aa e) z Q):dc (J c (k+1) e sc L).1 Q:=by
 show dc ((xj.lookup (aa e).k).bind _) Q;refine(aw hk).symm▸?_;rcases a9 h with⟨U,h⟩|⟨_,h⟩
 ·refine dc.gd U ((bF.v _ _ _ z _ h).bind λv z h=>?_);revert h;cases c.S with
  |some s=>
   intro h;rcases a9 h with⟨U,h⟩|⟨U,h⟩
   ·exact U.symm▸dq h
   ·refine U.symm▸?_;obtain⟨x,z,e,h⟩:=dq h;exact⟨_,z,HL (Jo _) e,h⟩
  |none=>exactλh=>(aT h).bind λs z h=>by obtain⟨x,z,e,h⟩:=dq h;exact⟨_,z,HL (Jo _) e,h⟩
 ·exact h.elim
theorem akF(e:HR)(y:HP)(z:Z)(Q:V->Z->Prop)(hk:kMt e y=Hq)(h:oMt c r sc L e y z Q):dc (J c (k+1) e sc L).1 Q:=by
 obtain⟨hk,h4⟩:=aj hk;obtain⟨hk,h3⟩:=aj hk;obtain⟨h1,h2⟩:=aj hk;obtain⟨h4,h8⟩:=aj h4;obtain⟨h4,h7⟩:=aj h4;obtain⟨h4,h6⟩:=aj h4;show dc ((xj.lookup (aa e).k).bind _) Q;refine(aw h1).symm▸?_;show dc (iH _ _ _ _ _ _ _ _) Q;unfold iH;refine(aw h2).symm▸?_;refine dc.gd h3 ?_;rw[aw h4];unfold xd;refine(cE h6).symm▸(cE h7).symm▸?_;show dc (c.S.bind λq=>Mine.gd (!gA 16 (BP e)&& !(aa e).es.isEmpty&&Ln (aa e).es.length 9) _) Q;refine h8.symm▸?_;exact(aT h).bind λs z h=>(bF.v _ _ _ z _ h).bind λv z h=>(jF bF _ z _ h).bind λvs z h=>by
  obtain⟨hc,z,h⟩:=d8 h;obtain⟨x,z,e,h⟩:=dq h;refine dc.iT hc<|e.symm▸?_;exact⟨_,z,rfl,h⟩
omit bF in
theorem xh{Q:Hn (Ho×Ho)->Z->Prop}(h:oD x z Q):dc (gK x) Q:=by
 cases x with
 |dict aW=>obtain⟨h1,z,h⟩:=d8 h;exact⟨_,z,H5 h1,h⟩
 |_=>exact h.elim
theorem amr(e:HR)(z:Z)(Q:V->Z->Prop)(hk:kVs sc e=Hq)(h:oVl r sc L e z Q):dc (J c (k+1) e sc L).1 Q:=by
 obtain⟨hk,h4⟩:=aj hk;obtain⟨hk,h3⟩:=aj hk;obtain⟨h1,h2⟩:=aj hk;obtain⟨h4,h7⟩:=aj h4;obtain⟨h4,h6⟩:=aj h4;obtain⟨h4,h5⟩:=aj h4;show dc ((xj.lookup (aa e).k).bind _) Q;refine(aw h1).symm▸?_;show dc (iH _ _ _ _ _ _ _ _) Q;unfold iH;refine(aw h2).symm▸h3.symm▸?_;show dc (jH _ _ _ _ _ _ _) Q;unfold jH;refine h4.symm▸(aw h5).symm▸?_;refine h6.symm▸h7.symm▸?_;exact(bF.v _ _ _ z _ h).bind λv z h=>(xh h).bind λaW z h=>by
  obtain⟨hc,z,h⟩:=d8 h;exact⟨_,z,H5 hc,h⟩
theorem alS(e:HR)(z:Z)(Q:V->Z->Prop)(hk:kSr sc e=Hq)(h:(r sc L (hd (aa e).es)).1 z λv z=>pr id z (sG v) Q):dc (J c (k+1) e sc L).1 Q:=by obtain⟨hk,h4⟩:=aj hk;obtain⟨hk,h3⟩:=aj hk;obtain⟨h1,h2⟩:=aj hk;obtain⟨h4,h5⟩:=aj h4;show dc ((xj.lookup (aa e).k).bind _) Q;refine(aw h1).symm▸?_;show dc (iH _ _ _ _ _ _ _ _) Q;unfold iH;refine(aw h2).symm▸h3.symm▸?_;show dc (jH _ _ _ _ _ _ _) Q;unfold jH;(refine(cE h4).symm▸h5.symm▸?_);exact(bF.v _ _ _ z _ h).bind λv z h=>dq h
theorem amh(e:HR)(s:I2)(z:Z)(Q:V->Z->Prop)(hk:GD sc e=hb s)(h:(r sc L (hd (aa e).es)).1 z λv z=>pr id z (zt s v.x) Q):dc (J c (k+1) e sc L).1 Q:=by obtain⟨hk,h5⟩:=fJ hk;obtain⟨hk,h4⟩:=aj hk;obtain⟨hk,h3⟩:=aj hk;obtain⟨h1,h2⟩:=aj hk;obtain⟨h4,h6⟩:=aj h4;obtain⟨T,h7,h8⟩:=ao h5;obtain⟨h8,h9⟩:=fJ h8;show dc ((xj.lookup (aa e).k).bind _) Q;refine(aw h1).symm▸?_;show dc (iH _ _ _ _ _ _ _ _) Q;unfold iH;refine(aw h2).symm▸h3.symm▸?_;show dc (jH _ _ _ _ _ _ _) Q;unfold jH;(refine h4.symm▸h6.symm▸?_);show dc (y0 _ _ _ _ _) Q;unfold y0;refine h7.symm▸?_;show dc (Mine.gd (aY sc T) ((AZ T).bind _)) Q;(refine h8.symm▸h9.symm▸?_);exact(bF.v _ _ _ z _ h).bind λv z h=>dq h
theorem alU(e:HR)(z:Z)(Q:V->Z->Prop)(hk:an7 e=Hq)(h:oGt r sc L e z Q):dc (J c (k+1) e sc L).1 Q:=by obtain⟨hk,h5⟩:=aj hk;obtain⟨hk,h4⟩:=aj hk;obtain⟨hk,h3⟩:=aj hk;obtain⟨h1,h2⟩:=aj hk;show dc ((xj.lookup (aa e).k).bind _) Q;refine(aw h1).symm▸?_;show dc (iH _ _ _ _ _ _ _ _) Q;unfold iH;refine(aw h2).symm▸?_;(refine dc.gd h4 ?_;rw[aw h3]);show dc (bif Hq&&(aa e).es.length==2&& !gA 16 (BP e)then(J c k (BP e) sc L).1.bind _ else _) Q;exact(show(Hq&&(aa e).es.length==2&& !gA 16 (BP e))=Hq from h5).symm▸(bF.v _ _ _ z _ h).bind λa z h=>(bF.v _ _ _ z _ h).bind λk z h=>(bF.v _ _ _ z _ h).bind λd z h=>dq h
theorem aj5(e:HR)(z:Z)(Q:V->Z->Prop)(h:oE c r sc L k e (aa e) z Q):dc (J c (k+1) e sc L).1 Q:=by
 revert h;unfold oE;cases hl:Cy.lookup (aa e).k with
 |some f=>intro h;refine aQ (anl bF (aa e) z Q _ (aey hl) h) λg hg h=>?_;show dc ((xj.lookup (aa e).k).bind λf=>f c (J c k) (aa e) sc L) Q;exact hg.symm▸h
 |none=>
  intro h;rcases a9 h with⟨U,h⟩|⟨_,h⟩
  ·exact ae3 bF (aa e) z Q U h
  rcases a9 h with⟨_,h⟩|⟨_,h⟩
  ·exact aT h
  rcases a9 h with⟨_,h⟩|⟨_,h⟩
  ·exact vT bF e z Q h
  rcases a9 h with⟨_,h⟩|⟨_,h⟩
  ·exact alh bF e z Q h
  rcases a9 h with⟨U,h⟩|⟨_,h⟩
  ·exact akE bF e z Q U h
  rcases a9 h with⟨U,h⟩|⟨_,h⟩
  ·exact akF bF e _ z Q U h
  rcases a9 h with⟨U,h⟩|⟨_,h⟩
  ·exact amr bF e z Q U h
  rcases a9 h with⟨U,h⟩|⟨_,h⟩
  ·exact alS bF e z Q U h
  rcases a9 h with⟨U,h⟩|⟨_,h⟩
  ·exact alU bF e z Q U h
  revert h;cases hi:GD sc e with
  |some s=>exactλh=>amh bF e s z Q hi h
  |none=>exactλh=>dq h
theorem anw(e:HR)(z:Z)(Q:Ig->Z->Prop)(h:oT r sc L e (aa e) (oE c r sc L k e (aa e)) z Q):dc (J c (k+1) e sc L).2 Q:=by
 show dc (jT (J c k) e (aa e) sc L (J c (k+1) e sc L).1) Q;unfold jT;rcases a9 h with⟨U,h⟩|⟨U,h⟩
 ·exact U.symm▸af3 bF _ z Q h
 refine U.symm▸?_;rcases a9 h with⟨U,h⟩|⟨U,h⟩
 ·refine U.symm▸?_;cases z with
  |f k p _ v z=>cases k with
   |zero=>exact al2 bF _ _ z Q h.2
   |succ k=>exact agl bF _ _ _ Q h
  |_=>exact agl bF _ _ _ Q h
 refine U.symm▸?_;rcases a9 h with⟨U,h⟩|⟨U,h⟩
 ·refine U.symm▸?_;revert h;cases(aa e).un with
  |Not=>intro h;obtain⟨b,z,h1,h⟩:=bF.t _ _ _ z _ h;refine⟨!b,z,?_,h⟩;refine h1.symm▸?_;rfl
  |_=>exactλh=>h.elim
 refine U.symm▸?_;rcases a9 h with⟨U,h⟩|⟨U,h⟩
 ·exact h.elim
 ·exact U.symm▸(aj5 bF e z _ h).bind λv z h=>aT h
omit bF in
theorem cA:∀k,OkR c k (JO c k)
 |0=>⟨λ_ _ _ _ _ h=>Oe h,λ_ _ _ _ _ h=>Oe h⟩
 |k+1=>⟨λsc L e z Q h=>aj5 (cA k) e z Q h,λsc L e z Q h=>anw (cA k) e z Q h⟩
end
end X
namespace X
abbrev GK:=ar->Z->Prop
abbrev GB:=(Hp Out->Prop)->Hn IM->ar->Z->GK->Prop
section
variable(bh:Mc)
abbrev nX(s:IM):HP:=(aa (jO s)).x
abbrev xX(s:IM):HP:=(aa (aa (dA s).a).a).x
def uA(Q:Hp Out->Prop)(o:Hp Out)(z:Z)(aU:GK):Prop:=match o with
 |some (.next L)=>aU L z
 |some (.ret y)=>Q (hb (.ret y))
 |some (.fR y L)=>Q (hb (.fR y L))
 |_=>Jg
def gAs(s:IM)(L:ar)(z:Z)(aU:GK)(G:Prop):Prop:=
 bif CA bh s (nX s)&&((aa (dp s)).k==24&&cV (aa (dp s)).es)then xU (JO bh.c 40) bh.sc L (aa (dp s)).es z λvs z=>bif Ln vs.length 1000&&AW (lF vs)then aU (L.set (nX s) (.own (.lst (vs.map (·.x))))) z else Jg else
 bif CA bh s (nX s)&&(aa (dp s)).k==8 then Ft bh.c (JO bh.c 40) bh.sc L 40 (dp s) z λv z=>aU (L.set (nX s) (.val v)) z else
 bif CA bh s (nX s)&&plE bh (nX s) (dp s) (aa (dp s))then(JO bh.c 40 bh.sc L (dp s)).1 z λv z=>bif Gb v.fl then aU (L.set (nX s) (.val v)) z else Jg else G
noncomputable def x6(L:ar):Hn HR->Z->(Hn Ho->Z->Prop)->Prop
 |[],z,Q=>Q [] z
 |e::es,z,Q=>(match(nm e).bind λx=>gd (aA bh.sc x) (pI (L x))with
  |some d=>x6 L es z λB z=>Q (d::B) z
  |none=>(JO bh.c 40 bh.sc L e).1 z λv z=>dT (sT v) z λd z=>x6 L es z λB z=>Q (d::B) z)
def apw(s:IM)(L:ar):Ig:=(au s).k==3&&(au s).oe.isSome&& !bh.rt&&((aa (pU s)).k==25&&v8 (aa (pU s)).es L)&&cV (aa (pU s)).es
def gRt(Q:Hp Out->Prop)(s:IM)(L:ar)(z:Z)(G:Prop):Prop:=bif apw bh s L then x6 bh L (aa (pU s)).es z λB _=>bif Ln B.length 1000 then Q (hb (.ret (.tuple B)))else Jg else
 bif aoF bh s&& !((aa (pU s)).k==25&&v8 (aa (pU s)).es L)then(JO bh.c 40 bh.sc L (pU s)).1 z λv z=>uA Q (Bk v) z λ_ _=>Jg else
 bif(au s).k==3&&(au s).oe.isSome&&bh.rt then(JO bh.c 40 bh.sc L (pU s)).1 z λv z=>cn (flat v.x=Hq) z λ_=>Q (hb (.fR v.x L))else G
def gEx(s:IM)(L:ar)(z:Z)(aU:GK)(G:Prop):Prop:=
 bif yI bh s (xX s) "append"then(match L (xX s)with
  |some (.own (.lst B))=>(JO bh.c 40 bh.sc L (hd (dA s).es)).1 z λv z=>bif AW v.fl then cn (B.length<10000) z λz=>aU (L.set (xX s) (.own (.lst (B++[v.x])))) z else Jg
  |_=>G)else
 bif yI bh s (xX s) "extend"then(match L (xX s)with
  |some (.own (.lst B))=>(JO bh.c 40 bh.sc L (hd (dA s).es)).1 z λv z=>(match v.x with
   |.list ys=>bif AW v.fl then cn (B.length+ys.length<10000) z λz=>aU (L.set (xX s) (.own (.lst (B++ys)))) z else Jg
   |_=>Jg)
  |_=>G)else G
def gIf(gb:GB)(Q:Hp Out->Prop)(s:IM)(L:ar)(z:Z)(aU:GK):Prop:=(JO bh.c 40 bh.sc L (ifE s)).2 z λb z=>match z with
 |.mg l c x y z=>b=c/\(∀h,gb (Du l) (BG s) L (x h) λL _=>nv l L=vl l)/\(∀h,gb (Du l) (BN s) L (y h) λL _=>nv l L=vl l)/\∀L,aU (d6 l L) z
 |z=>bz b z (λz=>gb Q (BG s) L z aU) λz=>gb Q (BN s) L z aU
noncomputable def onF(m:ar->Hp Out)(o:Out):Hp Out:=match o with
 |.next L=>m L
 |.cont L=>m L
 |.brk L=>hb (.next L)
 |.ret y=>hb (.ret y)
 |.fR y L=>hb (.fR y L)
noncomputable def Gq(gb:GB)(k:HG)(s:IM)(f:Fl):Hn Ho->(Hp Out->Prop)->ar->Z->GK->Prop
 |[],Q,L,z,aU=>aU L z
 |x::B,Q,L,z,aU=>dT (pC (aA bh.sc) (vh s) (V.fix x f) L) z λL z=>gb (λo=>Q (o.bind (onF (rV (pC (aA bh.sc) (vh s)) (bh.bM k (yu s)) f B)))) (yu s) L z λL z=>Gq gb k s f B Q L z aU
def plc(x k:Ho)(z:Z)(Q:Ho×(Ho->Ho)->Z->Prop):Prop:=match x,k with
 |.list B,.int i=>pr V.x z (ec (.list B) (.int i)) λy z=>cn (0<=i) z λz=>Q (y,λz=>.list (B.set i.toNat z)) z
 |x,k=>dT (place x k) z Q
noncomputable def DN:HG->HR->ar->Ho->Z->(Ho×(Ho->Ho)->Z->Prop)->Prop
 |0,_,_,_,_,_=>Jg
 |k+1,e,L,d,z,Q=>bif(aa e).k==23 then Q (d,id) z else
  bif(aa e).k==21 then DN k (aa e).a L d z λp z=>(JO bh.c 40 bh.sc L (aa e).b).1 z λq z=>plc p.1 q.x z λw z=>Q (w.1,λy=>p.2 (w.2 y)) z else
  dT bh.c.S z λs z=>DN k (aa e).a L d z λp z=>dT (fld (aa e).x) z λi z=>pr V.x z ((gn s.1 s.2.1 p.1).bind λr=>r.2[x9 i]?) λw z=>Q (w,λy=>p.2 (vH (x9 i) y p.1)) z
abbrev tX(s:IM):HP:=(jZ 9 (yy s)).getD ""
def F1(s:IM)(y x:HP)(a:HR)(L:ar)(z:Z)(aU:GK):Prop:=dT (bL L x) z λd z=>DN bh 9 (yy s) L d.2 z λp z=>
 bif y=="append"&&(aa a).k==24 then(bif cV (aa a).es then dT (listOfD p.1) z λB z=>xU (JO bh.c 40) bh.sc L (aa a).es z λvs z=>bif b7 (vs.map (·.x))&&Ln vs.length 1000 then cn (B.length<10000) z λz=>aU (L.set x (.own (.tree d.1 (p.2 (.list (B++[.list (vs.map (·.x))])))))) z else Jg else Jg)else
 bif y=="append"then dT (listOfD p.1) z λB z=>(JO bh.c 40 bh.sc L a).1 z λv z=>bif flat v.x then cn (B.length<10000) z λz=>aU (L.set x (.own (.tree d.1 (p.2 (.list (B++[v.x])))))) z else Jg else
 bif y=="extend"then dT (listOfD p.1) z λB z=>(JO bh.c 40 bh.sc L a).1 z λv z=>dT (listOfD v.x) z λys z=>bif AW v.fl then cn (b7 ys=Hq) z λz=>cn (B.length+ys.length<10000) z λz=>aU (L.set x (.own (.tree d.1 (p.2 (.list (B++ys)))))) z else Jg else
 bif y=="pop"then oD p.1 z λaW z=>(JO bh.c 40 bh.sc L a).1 z λk z=>dT (fW k.x) z λkey z=>pr V.x z (atKey key aW) λw z=>cn (afF w=Hq) z λz=>aU (L.set x (.own (.tree d.1 (p.2 (.dict (uz key aW)))))) z else Jg
abbrev sX(s:IM):HP:=(jZ 9 (ug s)).getD ""
def gSe(s:IM)(x:HP)(ev:CV)(fl:Ho->Ig)(L:ar)(z:Z)(aU:GK):Prop:=dT (bL L x) z λd z=>ev z λv z=>DN bh 9 (ug s) L d.2 z λp z=>oD p.1 z λaW z=>(JO bh.c 40 bh.sc L (qe s)).1 z λk z=>dT (fW k.x) z λkey z=>cn (fl v.x=Hq) z λz=>cn (aW.length<10000) z λz=>aU (L.set x (.own (.tree d.1 (p.2 (.dict (lh key v.x aW)))))) z
def gSt(s:IM)(x:HP)(L:ar)(z:Z)(aU:GK):Prop:=
 bif(aa (dp s)).k==8 then gSe bh s x (Ft bh.c (JO bh.c 40) bh.sc L 40 (dp s)) (λv=>b7 ((listOfD v).getD [])) L z aU else bif jY (dp s)then gSe bh s x (JO bh.c 40 bh.sc L (dp s)).1 flat L z aU else Jg
def zr(bh:Mc)(s:IM)(x:HP):Ig:=(au s).k==5&&((au s).ts.length==1)&&(aa (jO s)).k==21&&((oi (ug s)).isNone&&Fd bh (ug s)&&nm (ug s)==hb x&&(aA bh.sc x&&jY (dp s)))
def gSi(s:IM)(x:HP)(L:ar)(z:Z)(aU:GK):Prop:=(JO bh.c 40 bh.sc L (dp s)).1 z λv z=>
 bif(aa (qe s)).k==26&&(aa (qe s)).o3.isNone then DD (JO bh.c 40) bh.sc L (aa (qe s)).o1 z λa z=>DD (JO bh.c 40) bh.sc L (aa (qe s)).o2 z λb z=>(match L x with
  |some (.own (.lst B))=>dT (listOfD v.x) z λys z=>bif AW v.fl then cn (B.length+ys.length<10000) z λz=>cn ((pP a b B ys).length<10000) z λz=>aU (L.set x (.own (.lst (pP a b B ys)))) z else Jg
  |_=>Jg)
 else(JO bh.c 40 bh.sc L (qe s)).1 z λk z=>(match L x with
  |some (.own (.lq B))=>dT (cD k.x) z λi z=>dT (fW v.x) z λt z=>cn (B.length<10000) z λz=>aU (L.set x (.own (.lq (nG B i t)))) z
  |_=>Jg)
abbrev siX(s:IM):HP:=(nm (ug s)).getD ""
abbrev aX(s:IM):HP:=(jZ 9 (Fm s)).getD ""
def Gf(s:IM)(x:HP)(L:ar)(z:Z)(aU:GK):Prop:=dT (bL L x) z λd z=>DN bh 9 (Fm s) L d.2 z λp z=>dT (listOfD p.1) z λB z=>(JO bh.c 40 bh.sc L (Gv s)).1 z λk z=>dT (cD k.x) z λj z=>pr V.x z (ec (.list B) (.int j)) λy z=>cn (0<=j) z λz=>dT (cD y) z λa z=>(JO bh.c 40 bh.sc L (dp s)).1 z λv z=>dT (cD v.x) z λb z=>aU (L.set x (.own (.tree d.1 (p.2 (.list (B.set j.toNat (.int (a+b)))))))) z
abbrev cG(s:IM):HP:=(aa (dA s).a).x
abbrev cX(s:IM):HP:=(aa (sd (dA s).es)).x
def gCm(s:IM)(g x:HP)(L:ar)(z:Z)(aU:GK):Prop:=dT (bL L x) z λd z=>(JO bh.c 40 bh.sc L (hd (dA s).es)).1 z λv1 z=>(JO bh.c 40 bh.sc L (sd (dA s).es.tail)).1 z λv3 z=>bif Gb v1.fl then cn (flat v3.x=Hq) z λz=>pr V.x z (bh.c.M g [v1.x,d.2,v3.x]) λd' z=>cn (dD d'=Hq) z λz=>aU (L.set x (.own (.tree d.1 d'))) z else Jg
def tP(m:ar->Hp Out)(x:HP)(d d':Ho):Prop:=∀ro L,bL L x=hb (ro,d)->m L=hb (.next (L.set x (.own (.tree ro d'))))
def Eo(m:ar->Hp Out)(x:HP)(d:Hp Hv×Ho)(L:ar)(z:Z)(aU:GK):Prop:=match z with
 |.f k _ _ v z=>(match k with
  |0=>tP m x d.2 v.x/\aU (L.set x (.own (.tree d.1 v.x))) z
  |_=>Jg)
 |_=>Jg
def Gw(e:HR)(L:ar)(z:Z)(Q:Ho->Z->Prop):Prop:=bif(aa e).k==16&& !vR bh.sc e "list" 1&& !(aa e).es.isEmpty then dT (Dx bh.sc e) z λx z=>xU (JO bh.c 40) bh.sc L (aa e).es z λvs z=>pr V.x z (bh.c.N x (vs.map (·.x))) Q else Jg
def oET(e:HR)(L:ar)(z:Z)(Q:Ho->Z->Prop):Prop:=bif(aa e).k==16 then(bif vR bh.sc e "list" 1 then xU (JO bh.c 40) bh.sc L (aa e).es z λvs z=>pr V.x z (qG vs) Q else Gw bh e L z Q)else
 bif(aa e).k==24&&(aa e).es.isEmpty then Q (.list []) z else bif(aa e).k==6&&(aa e).oe.isEmpty&&(aa e).es.isEmpty then Q (.dict []) z else bif(aa e).k==6||(aa e).k==24 then Jg else(JO bh.c 40 bh.sc L e).1 z λv z=>cn (flat v.x=Hq) z λz=>Q v.x z
abbrev saX(s:IM):HP:=(aa (aa (jO s)).a).x
def apU(s:IM)(x:HP)(ns:Hn HP):Ig:=(au s).k==5&&((au s).ts.length==1)&&(aa (jO s)).k==20&&(nm (aa (jO s)).a==hb x&&(aA bh.sc x&&iP ns (aa (jO s)).x&&wf (.str (aa (jO s)).x)&&jY (dp s)))
def gSa(s:IM)(x:HP)(L:ar)(z:Z)(aU:GK):Prop:=dT bh.c.I z λq z=>bif apU bh s x q.2 then dT (bL L x) z λd z=>oET bh (dp s) L z λy z=>pr V.x z (y9 q.1 (aa (jO s)).x y d.2) λd' z=>aU (L.set x (.own (.tree d.1 d'))) z else Jg
abbrev hX(s:IM):HP:=(oi (ug s)).getD ""
def anT(s:IM)(x:HP):Ig:=(au s).k==5&&((au s).ts.length==1)&&(aa (jO s)).k==21&&oi (ug s)==hb x&&aA bh.sc x
def gHd(s:IM)(x:HP)(L:ar)(z:Z)(aU:GK):Prop:=dT bh.c.S z λq z=>dT (bL L x) z λd z=>
 bif(aa (dp s)).k==21&&(oi (aa (dp s)).a==hb x)&& !gA 26 (aa (dp s)).b then(JO bh.c 40 bh.sc L (aa (dp s)).b).1 z λvj z=>(JO bh.c 40 bh.sc L (qe s)).1 z λvi z=>Eo (gW q.1 q.2.1 x (λ_=>hb vi) λ_=>hb vj) x d L z aU else
 bif jY (dp s)then Gw bh (dp s) L z λy z=>(JO bh.c 40 bh.sc L (qe s)).1 z λvi z=>Eo (i0 q.1 q.2.1 x (λ_=>hb vi) λ_=>hb y) x d L z aU else Jg
abbrev Ar(s:IM):HR:=(aa (au s).t).a
def anS(s:IM)(x:HP):Ig:=(au s).k==7&&xG (au s).op&&(aa (au s).t).k==20&&(aa (au s).t).x=="opened"&&nm (Ar s)==hb x&&aA bh.sc x
def amZ(s:IM)(x:HP):Ig:=(au s).k==7&&xG (au s).op&&(aa (au s).t).k==20&&(aa (au s).t).x=="amount"&&((aa (Ar s)).k==21&& !gA 26 (aa (Ar s)).b&&oi (aa (Ar s)).a==hb x&&aA bh.sc x)
def gOp(s:IM)(x:HP)(L:ar)(z:Z)(aU:GK):Prop:=dT bh.c.S z λq z=>dT (bL L x) z λd z=>(JO bh.c 40 bh.sc L (dp s)).1 z λv z=>Eo (kC q.1 q.2.1 x λ_=>hb v) x d L z aU
def gAm(s:IM)(x:HP)(L:ar)(z:Z)(aU:GK):Prop:=dT bh.c.S z λq z=>dT (bL L x) z λd z=>(JO bh.c 40 bh.sc L (aa (Ar s)).b).1 z λvi z=>(JO bh.c 40 bh.sc L (dp s)).1 z λv z=>Eo (iY q.1 q.2.1 x (λ_=>hb vi) λ_=>hb v) x d L z aU
noncomputable def vP(v:V):Ho×Ho:=match v.x with
 |.tuple [a,b]=>(a,b)
 |_=>(.none,.none)
def Em(q:iK)(L:ar)(z:Z)(aU:Ho->GK):Prop:=dT bh.c.S z λs z=>dT (bL L (aa (aa q.a).a).x) z λd z=>xU (JO bh.c 40) bh.sc L q.es z λvs z=>(match vs with
 |[v]=>cn (gX s.1 s.2.1 d.2=Hq) z λz=>cn (flat v.x=Hq) z λz=>pr vP z (bh.c.R (aa q.a).x [d.2,v.x]) λr z=>cn (dD r.2=Hq) z λz=>cn (flat r.1=Hq) z λz=>aU r.1 (L.set (aa (aa q.a).a).x (.own (.tree d.1 r.2))) z
 |_=>Jg)
def aoG(s:IM):Ig:=(au s).k==24&&(dA s).k==16&&tN bh (dA s)
def an6(s:IM):Ig:=(au s).k==24&&(dA s).k==16&& !tN bh (dA s)&&((dA s).ks.isEmpty&&cV (dA s).es)&& !((aa (dA s).a).k==20)&& !((dA s).es.length==3)
def gCe(s:IM)(L:ar)(z:Z)(aU:GK):Prop:=(JO bh.c 40 bh.sc L (au s).e).1 z λv z=>bif x8 v.x then aU L z else Jg
def anv(s:IM):Ig:=CA bh s (nX s)&&((aa (dp s)).k==16&& !(aa (dp s)).es.isEmpty&&tN bh (aa (dp s)))
abbrev rW(s:IM):iK:=aa (dp s)
def am5(s:IM)(g:HP):Ig:=CA bh s (nX s)&&((rW s).k==16&&(rW s).es.isEmpty&&nm (rW s).a==hb g&&(aY bh.sc g&&(rW s).ks.isEmpty))
def anu(s:IM)(g:HP):Ig:=CA bh s (nX s)&&((rW s).k==16&& !(rW s).es.isEmpty&& !tN bh (rW s)&&bh.ow (nX s)&&nm (rW s).a==hb g&&(aY bh.sc g&&cV (rW s).es&&(rW s).ks.isEmpty&&(bf g).isNone))
def gTc(s:IM)(g:HP)(L:ar)(z:Z)(aU:GK):Prop:=pr V.x z (bh.c.T g) λd z=>aU (L.set (nX s) (.own (.tree Hu d))) z
def gOc(s:IM)(g:HP)(L:ar)(z:Z)(aU:GK):Prop:=xU (JO bh.c 40) bh.sc L (rW s).es z λvs z=>pr V.x z (bh.c.F g (vs.map (·.x))) λy z=>(match y with
 |.list ys=>cn (b7 ys=Hq) z λz=>aU (L.set (nX s) (.own (.lst ys))) z
 |_=>Jg)
def ana(s:IM):Ig:=(au s).k==5&&((au s).ts.length==1)&&(aa (jO s)).k==25&&(!gA 25 (dp s)&&jY (dp s))
def gTu(s:IM)(L:ar)(z:Z)(aU:GK):Prop:=(JO bh.c 40 bh.sc L (dp s)).1 z λv z=>dT (pC (aA bh.sc) (jO s) v L) z aU
def gEn(z:Z)(L:ar)(P:En->Prop):Prop:=match z with
 |.e l _ _=>nv l L=vl l/\P l
 |_=>Jg
def orR(Q:Hp Out->Prop)(P:En->Prop)(o:Hp Out):Prop:=match o with
 |some (.next L)=>∃l,nv l L=vl l/\P l
 |some (.ret y)=>Q (hb (.ret y))
 |some (.fR y L)=>Q (hb (.fR y L))
 |_=>Jg
def Ed(gb:GB)(Q:Hp Out->Prop)(s:IM)(P:En->Prop)(L:ar)(z:Z):Prop:=gb (orR Q P) (yu s) L z λL z=>gEn z L P
def gFo(gb:GB)(k:HG)(Q:Hp Out->Prop)(s:IM)(w:Hn Ho×Fl)(L:ar)(z:Z)(aU:GK):Prop:=match z with
 |.fr _ _ as p B _ _ I aH s0 _ b z=>w.1=B/\nv (I 0 s0) L=vl (I 0 s0)/\(∀j a h x r L,dT (pC (aA bh.sc) (vh s) ⟨p a,.d⟩ (d6 (I j x) L)) (b j a h x r) λL z=>Ed gb Q s (λl=>∃x,aH (j+1) x/\I (j+1) x=l) L z)/\∀x r L,aU (d6 (I as.length x) L) (z x r)
 |z=>Gq bh gb k s w.2 w.1 Q L z aU
def gWh(gb:GB)(Q:Hp Out->Prop)(s:IM)(L:ar)(z:Z)(aU:GK)(G:Prop):Prop:=match z with
 |.wh _ I aH m s0 _ _ t=>nv (I s0) L=vl (I s0)/\m s0<100000/\∀x r L,(JO bh.c 40 bh.sc (d6 (I x) L) (vh s)).2 (t x r) λb z=>bz b z (λz=>Ed gb Q s (λl=>∃y,aH y/\m y<m x/\I y=l) (d6 (I x) L) z) λz=>aU (d6 (I x) L) z
 |_=>G
def gS(gb:GB)(k:HG)(Q:Hp Out->Prop)(s:IM)(L:ar)(z:Z)(aU:GK):Prop:=
 bif C2 s then gIf bh gb Q s L z aU else bif(au s).k==5 then gAs bh s L z aU (bif CC bh s (sX s)then gSt bh s (sX s) L z aU else bif anT bh s (hX s)then gHd bh s (hX s) L z aU else bif zr bh s (siX s)then gSi bh s (siX s) L z aU else bif anv bh s then Em bh (aa (dp s)) L z λy L z=>aU (L.set (nX s) (.val ⟨y,.d⟩)) z else bif am5 bh s (aa (rW s).a).x then gTc bh s (aa (rW s).a).x L z aU else bif anu bh s (aa (rW s).a).x then gOc bh s (aa (rW s).a).x L z aU else bif ana s then gTu bh s L z aU else bif(aa (jO s)).k==20 then gSa bh s (saX s) L z aU else uA Q (bh.sM k s L) z aU)else bif(au s).k==3 then gRt bh Q s L z (uA Q (bh.sM k s L) z aU)else bif(au s).k==24 then gEx bh s L z aU (bif B4 bh s (tX s) (cG s)then F1 bh s (cG s) (tX s) (BL s) L z aU else bif aot bh s (cG s) (cX s)then gCm bh s (cG s) (cX s) L z aU else bif aoG bh s then Em bh (dA s) L z λy L z=>bif isNone y then aU L z else Jg else bif an6 bh s then gCe bh s L z aU else uA Q (bh.sM k s L) z aU)else
 bif aox bh s (aX s)then Gf bh s (aX s) L z aU else bif anS bh s ((nm (Ar s)).getD "")then gOp bh s ((nm (Ar s)).getD "") L z aU else bif amZ bh s ((oi (aa (Ar s)).a).getD "")then gAm bh s ((oi (aa (Ar s)).a).getD "") L z aU else
 bif ajN s then Gx bh.c (JO bh.c 40) bh.sc L 40 (vh s) (frE s) z λw z=>bif Gb w.2 then gFo bh gb k Q s w L z aU else Jg else bif B7 s then gWh bh gb Q s L z aU (uA Q (bh.sM k s L) z aU)else uA Q (bh.sM k s L) z aU
def gL(gb:GB)(k:HG):GB:=λQ ss L z aU=>match ss with
 |[]=>aU L z
 |s::rest=>gS bh gb k (λo=>Q (o.bind (xc (bh.bM k rest)))) s L z λL z=>gb Q rest L z aU
noncomputable def gC(f:Z->Prop):HG->Z->Prop
 |0,z=>f z
 |n+1,z=>match z with
  |.cs _ x y=>(∀h,gC f n (x h))/\∀h,gC f n (y h)
  |z=>f z
noncomputable def gB:HG->GB
 |0,_,_,_,_,_=>Jg
 |k+1,Q,ss,L,z,aU=>gC (λz=>match z with
  |.lv l _ _=>nv l L=vl l/\∀L,Q (bh.bM (k+1) ss (d6 l L))
  |z=>gL bh (gB k) k Q ss L z aU) 3 z
end
abbrev SB(M:Mc)(m:Hn IM->ar->Hp Out)(gb:GB):Prop:=∀Q ss L z aU,gb Q ss L z aU->(∀L z,aU L z->Q (hb (.next L)))->Q (m ss L)
theorem eR{B:Hn α}{k:HI}(h:0<=k):eZ B k=B[k.toNat]? :=H5 h
variable{l:En}
theorem ky(h:nv l L=vl l):L=d6 l L:=adG h
section
theorem rg(h:AW f=Hq):f=.d:=by
 cases f with
 |d=>rfl
 |_=>exact Iu (show HH=Hq from h)
variable{Q:Hp Out->Prop}{z:Z}{aU:GK}
theorem adj{o:Hp Out}(h:uA Q o z aU)(hK:∀L z,aU L z->Q (hb (.next L))):Q o:=by
 cases o with
 |none=>exact h.elim
 |some o=>cases o with
  |next L=>exact hK _ _ h
  |ret y=>exact h
  |fR y L=>exact h
  |_=>exact h.elim
variable(bO:M.r=J M.c 40)(bN:∀L z,aU L z->Q (hb (.next L)))
include bO bN
variable{G:Prop}
theorem alP(g:G->Q (M.sM k s L))(h:gAs M s L z aU G):Q (M.sM k s L):=by
 rcases a9 h with⟨h1,h⟩|⟨_,h⟩
 ·obtain⟨h1,h2⟩:=aj h1;obtain⟨h2,h3⟩:=aj h2;rw[oS h1];obtain⟨vs,_,e,h⟩:=jF (cA 40) _ _ _ h;rcases a9 h with⟨h4,h⟩|⟨_,h⟩
  ·obtain⟨h4,h5⟩:=aj h4;unfold lR;refine h2.symm▸h3.symm▸bO.symm▸?_;refine bQ _ e ?_;rw[H5 ⟨Hs (IE h4) (by decide),rg h5⟩];exact bN _ _ h
  ·exact h.elim
 rcases a9 h with⟨h1,h⟩|⟨_,h⟩
 ·obtain⟨h1,h2⟩:=aj h1;rw[oS h1];obtain⟨v,_,e,h⟩:=vT (cA 40) _ _ _ h;unfold lR;revert e;show((xj.lookup (aa (dp s)).k).bind _=_)->_;refine(aw h2).symm▸bO.symm▸?_;intro e;obtain⟨ys,e1⟩:=dI (show(kU (J M.c 40) M.sc (aa (dp s)).a (aa (dp s)).gs (aa (dp s)).sc L).map _=hb v from e);exact e1.symm▸bN _ _ h
 rcases a9 h with⟨h1,h⟩|⟨_,h⟩
 ·obtain⟨h1,h2⟩:=aj h1;rw[oS h1,ali h2];show Q ((M.r (dp s) M.sc L).1.bind _);obtain⟨v,_,e,h⟩:=(cA 40).v _ _ _ _ _ h;rcases a9 h with⟨h3,h⟩|⟨_,h⟩
  ·refine bO.symm▸?_;rw[e,HT];have:uR L (nX s) v=hb (.next (L.set (nX s) (.val v))):=by
    obtain⟨a,f⟩:=v;clear h;cases f with
    |t=>cases h3
    |_=>rfl
   exact this.symm▸bN _ _ h
  ·exact h.elim
 ·exact g h
omit bN in
theorem ah6:∀es z(Q:Hn Ho->Z->Prop),x6 M L es z Q->dc (zI M es L) Q:=by
 intro es;induction es with
 |nil=>intro z Q h;exact⟨[],z,rfl,h⟩
 |cons e es bY=>
  intro z Q h;replace h:(match(nm e).bind λx=>Mine.gd (aA M.sc x) (pI (L x))with|some d=>x6 M L es z λB z=>Q (d::B) z|none=>(JO M.c 40 M.sc L e).1 z λv z=>dT (sT v) z λd z=>x6 M L es z λB z=>Q (d::B) z):=h;show dc ((mK ((nm e).bind λx=>Mine.gd (aA M.sc x) (pI (L x))) ((M.r e M.sc L).1.bind sT)).bind _) Q;revert h;cases(nm e).bind λx=>Mine.gd (aA M.sc x) (pI (L x))with
  |some d=>intro h;obtain⟨B,z,e,h⟩:=bY z _ h;exact⟨_,z,HL (Jo _) e,h⟩
  |none=>intro h;refine bO.symm▸?_;show dc (((J M.c 40 e M.sc L).1.bind sT).bind _) Q;obtain⟨v,z,e1,h⟩:=(cA 40).v _ _ _ _ _ h;obtain⟨d,z,e2,h⟩:=aT h;obtain⟨B,z,e3,h⟩:=bY z _ h;(refine e1.symm▸?_;rw[HT,e2,HT,e3]);exact⟨_,z,rfl,h⟩
theorem akN(g:G->Q (M.sM k s L))(h:gRt M Q s L z G):Q (M.sM k s L):=by
 rcases a9 h with⟨h1,h⟩|⟨_,h⟩
 ·obtain⟨h1,h6⟩:=aj h1;obtain⟨h1,h5⟩:=aj h1;obtain⟨h1,h4⟩:=aj h1;obtain⟨h2,h3⟩:=aj h1;obtain⟨B,z,e,h⟩:=ah6 bO _ _ _ h;rcases a9 h with⟨U,h⟩|⟨_,h⟩
  ·refine(show M.sM k s L=yN M (au s).oe L from j3 (f:=A4) (aw h2) rfl _).symm▸?_;revert h6 h5 e;unfold Mine.pU;cases e':(au s).oe with
   |none=>rw[e']at h3;cases h3
   |some x=>intro h6 h5 e;show Q (bif M.rt then _ else bif(aa x).k==25&&v8 (aa x).es L then Mine.gd (cV (aa x).es) _ else _);(refine(cE h4).symm▸(show((aa x).k==25&&v8 (aa x).es L)=Hq from h5).symm▸(show cV (aa x).es=Hq from h6).symm▸?_);(refine bQ _ (show zI M (aa x).es L=hb B from e) ?_;rw[H5 (Hs (IE U) (by decide))]);exact h
  ·exact h.elim
 rcases a9 h with⟨h1,h⟩|⟨_,h⟩
 ·obtain⟨h1,h9⟩:=aj h1;obtain⟨v,z,e,h⟩:=(cA 40).v _ _ _ _ _ h;obtain hv:=adj h λ_ _ h=>h.elim;obtain⟨h2,h5⟩:=aj h1;obtain⟨h2,h4⟩:=aj h2;obtain⟨h2,h3⟩:=aj h2;refine(show M.sM k s L=yN M (au s).oe L from j3 (f:=A4) (aw h2) rfl _).symm▸?_;revert h9 h5 e;unfold Mine.pU;cases e':(au s).oe with
  |none=>rw[e']at h3;cases h3
  |some x=>intro h9 e h5;show Q (bif M.rt then _ else bif(aa x).k==25&&v8 (aa x).es L then _ else mK ((nm x).bind _) ((M.r x M.sc L).1.bind Bk));(refine(cE h4).symm▸(cE (show(!((aa x).k==25&&v8 (aa x).es L))=Hq from h9)).symm▸(Jc.mp (show(nm x).isNone=Hq from h5)).symm▸bO.symm▸(show(J M.c 40 x M.sc L).1=hb v from e).symm▸?_);exact hv
 rcases a9 h with⟨h1,h⟩|⟨_,h⟩
 ·obtain⟨v,z,e,h⟩:=(cA 40).v _ _ _ _ _ h;obtain⟨hc,z,h⟩:=d8 h;obtain⟨h2,h4⟩:=aj h1;obtain⟨h2,h3⟩:=aj h2;refine(show M.sM k s L=yN M (au s).oe L from j3 (f:=A4) (aw h2) rfl _).symm▸?_;revert e;unfold Mine.pU;cases e':(au s).oe with
  |none=>rw[e']at h3;cases h3
  |some x=>intro e;show Q (bif M.rt then(M.r x M.sc L).1.bind _ else _);(refine h4.symm▸bO.symm▸?_);(refine bQ _ (show(J M.c 40 x M.sc L).1=hb v from e) ?_;rw[H5 hc]);exact h
 ·exact g h
theorem akK(g:G->Q (M.sM k s L))(h:gEx M s L z aU G):Q (M.sM k s L):=by
 rcases a9 h with⟨h1,h⟩|⟨_,h⟩
 ·revert h;cases hx:L (xX s)with
  |none=>exact g
  |some o=>cases o with
   |val v=>exact g
   |own o=>cases o with
    |lst B=>
     intro h;obtain⟨v,_,e,h⟩:=(cA 40).v _ _ _ _ _ h;rcases a9 h with⟨h2,h⟩|⟨_,h⟩
     ·obtain⟨h3,_,h⟩:=d8 h;rw[agy h1];show Q (mK (zG (xX s) _ _) _);unfold zG;refine hx.symm▸?_;show Q (mK ((M.r (hd (dA s).es) M.sc L).1.bind _) _);refine bO.symm▸?_;rw[e,HT,H5 ⟨rg h2,Hs h3 (by decide)⟩];exact bN _ _ h
     ·exact h.elim
    |_=>exact g
 rcases a9 h with⟨h1,h⟩|⟨_,h⟩
 ·revert h;cases hx:L (xX s)with
  |none=>exact g
  |some o=>cases o with
   |val v=>exact g
   |own o=>cases o with
    |lst B=>
     intro h;obtain⟨⟨x,f⟩,_,e,h⟩:=(cA 40).v _ _ _ _ _ h;cases x with
     |list ys=>
      rcases a9 h with⟨h2,h⟩|⟨_,h⟩
      ·obtain⟨h3,_,h⟩:=d8 h;rw[agy h1];show Q (mK (zo (xX s) _ _) _);unfold zo;rw[hx];show Q (mK ((M.r (hd (dA s).es) M.sc L).1.bind _) _);rw[bO,e,HT];dsimp only;rw[H5 ⟨rg h2,IK (I0 h3 (by decide))⟩];exact bN _ _ h
      ·exact h.elim
     |_=>exact h.elim
    |_=>exact g
 ·exact g h
variable{gb:GB}
theorem aml(U:SB M (M.bM k) gb)(hs:C2 s=Hq)(h:gIf M gb Q s L z aU):Q (M.sM k s L):=by
 obtain⟨b,z,e,h⟩:=(cA 40).t _ _ _ _ _ h;rw[anV hs,bO,e];show Q (if b=Hq then M.bM k (BG s) L else M.bM k (BN s) L);have one:∀z,bz b z (λz=>gb Q (BG s) L z aU) (λz=>gb Q (BN s) L z aU)->Q (if b=Hq then M.bM k (BG s) L else M.bM k (BN s) L):=λz h=>by
  rcases sI h with⟨e,z,h1⟩|⟨e,z,h1⟩
  ·exact e.symm▸U _ _ _ _ _ h1 bN
  ·exact e.symm▸U _ _ _ _ _ h1 bN
 clear hs e;cases z with
 |mg l c x y z=>
  obtain⟨rfl,h1,h2,h⟩:=h;have hn:Du l (if b=Hq then M.bM k (BG s) L else M.bM k (BN s) L):=by
   cases b with
   |true=>exact U (Du l) _ _ _ _ (h1 rfl) λL _ q=>by exact(ky q).symm▸⟨_⟩
   |false=>exact U (Du l) _ _ _ _ (h2 rfl) λL _ q=>by exact(ky q).symm▸⟨_⟩
  revert hn;generalize(if b=Hq then M.bM k (BG s) L else M.bM k (BN s) L)=o;intro hn;clear U h2 h1;cases hn with
  |mk ft=>exact bN _ _ (h ft)
 |_=>exact one _ h
omit bN in
theorem alR(U:SB M (M.bM k) gb):∀B(Q:Hp Out->Prop)L z,(∀L z,aU L z->Q (hb (.next L)))->Gq M gb k s f B Q L z aU->Q (rV (pC (aA M.sc) (vh s)) (M.bM k (yu s)) f B L):=by
 intro B;induction B with
 |nil=>intro Q L z bN h;exact bN L z h
 |cons x B bY=>intro Q L z bN h;obtain⟨vk,z,e,h⟩:=aT h;have:=U _ _ _ _ _ h λL z q=>bY Q L z bN q;exact bQ _ e this
omit bO bN in
theorem agc{P:En->Prop}(U:SB M (M.bM k) gb)(h:Ed gb Q s P L z):orR Q P (M.bM k (yu s) L):=U _ _ _ _ _ h λL z h=>by
 cases z with
 |e l p q=>exact⟨l,h⟩
 |_=>exact h.elim
omit bO bN in
theorem am1{σ:Type}{as:Hn α}{p:α->Ho}{I:HG->σ->En}{aH:HG->σ->Prop}{b:(j:HG)->(a:α)->as[j]? =hb a->(s:σ)->aH j s->Z}(U:SB M (M.bM k) gb)(hp:∀a,flat (p a)=Hq)(h:∀j a h x r L,dT (pC (aA M.sc) (vh s) ⟨p a,.d⟩ (d6 (I j x) L)) (b j a h x r) λL z=>Ed gb Q s (λl=>∃x,aH (j+1) x/\I (j+1) x=l) L z)(he:∀x,aH as.length x->∀L,Q (hb (.next (d6 (I as.length x) L)))):
  ∀(n j:HG)(x:σ)(L:ar),n+j=as.length->aH j x->Q (rV (pC (aA M.sc) (vh s)) (M.bM k (yu s)) f ((as.drop j).map p) (d6 (I j x) L)):=by
 intro n;induction n with
 |zero=>intro j x L e r;rw[QY]at e;subst e;exact KN.symm▸he x r L
 |succ n ih=>
  intro j x L e r;have hl:=e▸Nat.lt_add_of_pos_left (KW _);refine(J6 hl).symm▸?_;obtain⟨vk,z,e1,h1⟩:=aT (h j as[j] (HQ hl) x r L);obtain h1:=agc U h1;refine bQ _ ((HL (λv=>pC (aA M.sc) (vh s) v (d6 (I j x) L)) (qI (hp _))).trans e1) ?_;revert h1;generalize M.bM k (yu s) vk=o;intro h1;cases o with
  |none=>exact h1.elim
  |some o=>cases o with
   |next L=>obtain⟨l,h1,y,r,rfl⟩:=h1;exact(ky h1).symm▸ih (j+1) y L ((LA _ _).symm.trans e) r
   |ret y=>exact h1
   |fR y L=>exact h1
   |_=>exact h1.elim
theorem alg{w:Hn Ho×Fl}(U:SB M (M.bM k) gb)(h:gFo M gb k Q s w L z aU):Q (rV (pC (aA M.sc) (vh s)) (M.bM k (yu s)) w.2 w.1 L):=by
 cases z with
 |fr α σ as p B ex hp I aH s0 r b z=>refine Bh h λh1 h2 h3 h4=>?_;(refine h1.symm▸ex.symm▸(ky h2).symm▸?_);exact am1 U hp h3 (λx r L=>bN _ _ (h4 x r L)) as.length 0 s0 L rfl r
 |_=>exact alR bO U _ _ _ _ bN h
theorem am2{σ:Type}{I:σ->En}{aH:σ->Prop}{m:σ->HG}{t:(s:σ)->aH s->Z}(U:SB M (M.bM k) gb)(h:∀x r L,(JO M.c 40 M.sc (d6 (I x) L) (vh s)).2 (t x r) λb z=>bz b z (λz=>Ed gb Q s (λl=>∃y,aH y/\m y<m x/\I y=l) (d6 (I x) L) z) λz=>aU (d6 (I x) L) z):
  ∀(n:HG)(x:σ)(L:ar),m x<n->aH x->Q (mW (λL=>(M.r (vh s) M.sc L).2) (M.bM k (yu s)) n (d6 (I x) L)):=by
 intro n;induction n with
 |zero=>intro x L R;exact IG R (Nat.not_lt_zero _)
 |succ n ih=>
  intro x L R r;obtain⟨b,z,e1,h1⟩:=(cA 40).t _ _ _ _ _ (h x r L);show Q ((M.r (vh s) M.sc (d6 (I x) L)).2.bind _);refine bO.symm▸?_;rw[e1,HT];rcases sI h1 with⟨e,z,h1⟩|⟨e,z,h1⟩
  ·refine e.symm▸(H5 rfl).symm▸?_;obtain h1:=agc U h1;revert h1;generalize M.bM k (yu s) (d6 (I x) L)=o;intro h1;cases o with
   |none=>exact h1.elim
   |some o=>cases o with
    |next L=>obtain⟨l,h1,y,r,hy,rfl⟩:=h1;refine(ky h1).symm▸?_;have:=ih y L (Hs hy (LS R)) r;rw[bO]at this;exact this
    |ret y=>exact h1
    |fR y L=>exact h1
    |_=>exact h1.elim
  ·exact e.symm▸bN _ _ h1
theorem alK(g:G->Q (M.sM k s L))(U:SB M (M.bM k) gb)(hs:B7 s=Hq)(h:gWh M gb Q s L z aU G):Q (M.sM k s L):=by
 cases z with
 |wh σ I aH m s0 r R t=>refine xg h λh2 h1 h3=>?_;rw[aok hs,ky h2];exact am2 bO bN U h3 100000 s0 L h1 r
 |_=>exact g h
omit bO bN in
theorem alV{Q:Ho×(Ho->Ho)->Z->Prop}(h:plc x Bp z Q):dc (place x Bp) Q:=by
 cases x with
 |list B=>cases Bp with
  |int i=>obtain⟨y,z,h1,h⟩:=dq (show pr V.x z (ec (.list B) (.int i)) (λy z=>cn (0<=i) z λz=>Q (y,λz=>.list (B.set i.toNat z)) z)from h);obtain⟨h2,z,h⟩:=d8 h;refine⟨_,z,?_,h⟩;(refine iT h2 ?_;rw[<-eR h2,show eZ _ _=hb y from h1]);rfl
  |_=>exact aT (z:=z) h
 |_=>exact aT (z:=z) h
omit bN in
theorem tT:∀k e d z Q,DN M k e L d z Q->dc (uf M k e L d) Q:=by
 intro k;induction k with
 |zero=>intro _ _ _ _ h;exact Oe h
 |succ k bY=>
  intro e d z Q h;show dc (bif _ then _ else _) _;rcases a9 h with⟨U,h⟩|⟨U,h⟩
  ·exact U.symm▸⟨_,z,rfl,h⟩
  refine U.symm▸?_;rcases a9 h with⟨U,h⟩|⟨U,h⟩
  ·refine U.symm▸(bY _ _ _ _ h).bind λp z h=>?_;show dc ((M.r _ M.sc L).1.bind _) Q;exact bO.symm▸((cA 40).v _ _ _ _ _ h).bind λq z h=>(alV h).rec λw z e h=>⟨_,z,by refine e.symm▸?_;rfl,h⟩
  ·refine U.symm▸?_;exact(aT h).bind λs z h=>(bY _ _ _ _ h).bind λp z h=>by
    obtain⟨i,z,e1,h⟩:=aT h;obtain⟨w,z,e2,h⟩:=dq h;obtain⟨r,e3,e4⟩:=ao e2;refine⟨_,z,?_,h⟩;unfold tD;refine e1.symm▸?_;rw[HT,e3,HT,e4];rfl
omit bO bN in
theorem AY{o:Hp Out}{P:Z->Prop}(h:dc o λr z=>Q (hb r)):Q o:=by obtain⟨v,_,rfl,h⟩:=h;exact h
omit bO bN in
theorem oJ{c:Prop}[La c]{r:Out}{z:Z}(hc:c)(h:Q (hb r)):dc (if c then hb r else Hu) λr _=>Q (hb r):=⟨r,z,H5 hc,h⟩
omit bO bN in
theorem Dv{a:HG}(h:a<10000):a+1<=sizeLine:=Hs h (by decide)
theorem amt(ht:B4 M s (tX s) (cG s)=Hq)(h:F1 M s (cG s) (tX s) (BL s) L z aU):Q (M.sM k s L):=by
 rw[aoH ht];generalize cG s=y at h;generalize tX s=x at h;refine AY (P:=λ_=>N9) ?_;unfold F1 at h;obtain⟨d,z,h1,h⟩:=aT h;obtain⟨p,z,h2,h⟩:=tT bO _ _ _ _ _ h;rcases a9 h with⟨U,h⟩|⟨U,h⟩
 ·refine U.symm▸?_;rcases a9 h with⟨hs,h⟩|⟨_,h⟩
  ·refine dc.gd hs ?_;refine dc.bd h1<|dc.bd h2 ?_;rw[bO];exact(aT h).bind λB z h=>(jF (cA 40) _ _ _ h).bind λvs z h=>(a9 h).rec (λU h=>(d8 h).elim λhc h=>h.elim λz h=>oJ (z:=z) ⟨(aj U).1,Hs (IE (aj U).2) (by decide),Dv hc⟩ (bN _ _ h)) λ_ h=>h.elim
  ·exact h.elim
 refine U.symm▸?_;rcases a9 h with⟨U,h⟩|⟨U,h⟩
 ·refine U.symm▸?_;show dc (qd _ _ (λL=>(M.r _ M.sc L).1) L) _;refine dc.bd h1<|dc.bd h2 ?_;rw[bO];exact(aT h).bind λB z h=>((cA 40).v _ _ _ _ _ h).bind λv z h=>(a9 h).rec (λU h=>(d8 h).elim λhc h=>h.elim λz h=>oJ (z:=z) ⟨U,Dv hc⟩ (bN _ _ h)) λ_ h=>h.elim
 refine U.symm▸?_;rcases a9 h with⟨U,h⟩|⟨U,h⟩
 ·refine U.symm▸?_;show dc (ql _ _ (λL=>(M.r _ M.sc L).1) L) _;refine dc.bd h1<|dc.bd h2 ?_;rw[bO];refine(aT h).bind λB z h=>((cA 40).v _ _ _ _ _ h).bind λv z h=>(aT h).bind λys z h=>?_;rcases a9 h with⟨hd,h⟩|⟨_,h⟩
  ·exact(d8 h).elim λha h=>h.elim λz h=>(d8 h).elim λhc h=>h.elim λz h=>oJ (z:=z) ⟨ha,IK (Dv hc),rg hd⟩ (bN _ _ h)
  ·exact h.elim
 refine U.symm▸?_;rcases a9 h with⟨U,h⟩|⟨U,h⟩
 ·refine dc.gd U ?_;show dc (AX _ _ (λL=>(M.r _ M.sc L).1) L) _;refine dc.bd h1<|dc.bd h2 ?_;rw[bO];exact(xh h).bind λaW z h=>((cA 40).v _ _ _ _ _ h).bind λk z h=>(aT h).bind λkey z h=>(dq h).bind λw z h=>(d8 h).elim λhc h=>h.elim λz h=>oJ (z:=z) hc (bN _ _ h)
 ·exact h.elim
theorem alI(ht:CC M s (sX s)=Hq)(h:gSt M s (sX s) L z aU):Q (M.sM k s L):=by
 rw[aoD ht];generalize sX s=x at h;refine AY (P:=λ_=>N9) ?_;rcases a9 h with⟨h8,h⟩|⟨h8,h⟩
 ·refine h8.symm▸?_;obtain⟨d,z,h1,h⟩:=aT h;show dc (uF x _ (λL=>(M.r _ M.sc L).1) _ L) _;refine dc.bd h1 ?_;rw[bO];obtain⟨v,z,e,h⟩:=vT (cA 40) _ _ _ h;obtain⟨ys,e1⟩:=dI (show(kU (J M.c 40) M.sc (aa (dp s)).a (aa (dp s)).gs (aa (dp s)).sc L).map (λys=>(⟨.list ys,.d⟩:V))=hb v by refine e▸?_;show _=(xj.lookup (aa (dp s)).k).bind _;refine(aw h8).symm▸?_;rfl);exact dc.bd e1<|(tT bO _ _ _ _ _ h).bind λp z h=>(xh h).bind λaW z h=>((cA 40).v _ _ _ _ _ h).bind λk z h=>(aT h).bind λkey z h=>(d8 h).elim λha h=>h.elim λz h=>(d8 h).elim λhc h=>h.elim λz h=>oJ (z:=z) ⟨ha,Dv hc⟩ (bN _ _ h)
 ·refine h8.symm▸?_;rcases a9 h with⟨hn,h⟩|⟨_,h⟩
  ·obtain⟨d,z,h1,h⟩:=aT h;refine dc.gd hn ?_;show dc (AV x _ (λL=>(M.r _ M.sc L).1) (λL=>(M.r _ M.sc L).1) L) _;refine dc.bd h1 ?_;rw[bO];exact((cA 40).v _ _ _ _ _ h).bind λv z h=>(tT bO _ _ _ _ _ h).bind λp z h=>(xh h).bind λaW z h=>((cA 40).v _ _ _ _ _ h).bind λk z h=>(aT h).bind λkey z h=>(d8 h).elim λha h=>h.elim λz h=>(d8 h).elim λhc h=>h.elim λz h=>oJ (z:=z) ⟨ha,Dv hc⟩ (bN _ _ h)
  ·exact h.elim
variable{x:HP}
omit bO bN in
theorem anK(h:zr M s x=Hq):M.sM k s L=(M.eM (dp s) L).bind λv=>(bif(aa (qe s)).k==26&&(aa (qe s)).o3.isNone then(u7 M.r M.sc (aa (qe s)).o1 L).bind λa=>(u7 M.r M.sc (aa (qe s)).o2 L).bind λb=>(qL (L x) v a b).map λz=>Out.next (L.set x z)else(M.eM (qe s) L).bind λk=>(um (L x) v k).map λz=>Out.next (L.set x z)):=by obtain⟨h,g⟩:=aj h;obtain⟨h,h3⟩:=aj h;obtain⟨h1,h2⟩:=aj h;obtain⟨g,g3⟩:=aj g;obtain⟨g,g2⟩:=aj g;obtain⟨g1,g0⟩:=aj g;refine(j3 (f:=uG) (aw h1) rfl L).trans ?_;show gd ((au s).ts.length==1) (pT M (jO s) (dp s) L)=_;refine h2.symm▸?_;unfold pT;refine(aw h3).symm▸?_;show tf M (ug s) (qe s) (dp s) L=_;unfold tf;refine(Jc.mp g1).symm▸g0.symm▸?_;show(nm (ug s)).bind _=_;refine(aw g2).symm▸?_;show gd (aA M.sc x&&jY (dp s)) _=_;refine g3.symm▸?_;cases(aa (qe s)).k==26&&(aa (qe s)).o3.isNone<;>rfl
theorem alH(ht:zr M s x=Hq)(h:gSi M s x L z aU):Q (M.sM k s L):=by
 obtain⟨v,z,e,h⟩:=(cA 40).v _ _ _ _ _ h;rw[anK ht];show Q ((M.r (dp s) M.sc L).1.bind _);refine bO.symm▸?_;rw[e,HT];rcases a9 h with⟨U,h⟩|⟨U,h⟩
 ·obtain⟨a,z,e1,h⟩:=qM (cA 40) _ _ _ h;obtain⟨b,z,e2,h⟩:=qM (cA 40) _ _ _ h;refine U.symm▸?_;refine bQ _ e1<|bQ _ e2 ?_;revert h;cases hx:L x with
  |none=>exactλh=>h.elim
  |some o=>cases o with
   |val _=>exactλh=>h.elim
   |own o=>cases o with
    |lst B=>
     intro h;obtain⟨ys,z,e3,h⟩:=aT h;rcases a9 h with⟨h2,h⟩|⟨_,h⟩
     ·obtain⟨h3,_,h⟩:=d8 h;obtain⟨h4,_,h⟩:=d8 h;show Q (((listOfD v.x).bind _).map _);refine e3.symm▸?_;rw[HT,H5 ⟨rg h2,Hs (IK h3) (by decide),Hs (IK h4) (by decide)⟩];exact bN _ _ h
     ·exact h.elim
    |_=>exactλh=>h.elim
 ·obtain⟨j,z,e1,h⟩:=(cA 40).v _ _ _ _ _ h;refine U.symm▸?_;show Q ((M.r (qe s) M.sc L).1.bind _);refine bO.symm▸?_;rw[e1,HT];revert h;cases hx:L x with
  |none=>exactλh=>h.elim
  |some o=>cases o with
   |val _=>exactλh=>h.elim
   |own o=>cases o with
    |lq B=>intro h;obtain⟨i,z,e3,h⟩:=aT h;obtain⟨t,z,e4,h⟩:=aT h;obtain⟨h3,_,h⟩:=d8 h;show Q (((cD j.x).bind _).map _);(refine e3.symm▸?_;rw[HT,e4,HT,H5 (Dv h3)]);exact bN _ _ h
    |_=>exactλh=>h.elim
theorem amn(ht:aox M s (aX s)=Hq)(h:Gf M s (aX s) L z aU):Q (M.sM k s L):=by
 obtain⟨h',g⟩:=aj ht;obtain⟨h',h5⟩:=aj h';obtain⟨h',h4⟩:=aj h';obtain⟨h2,h3⟩:=aj h';obtain⟨g1,g2⟩:=aj g;obtain e:M.sM k s L=B5 (aX s) (uf M 9 (Fm s)) (λL=>(M.r (Gv s) M.sc L).1) (λL=>(M.r (dp s) M.sc L).1) L:=by refine(j3 (f:=Be) (aw h2) rfl _).trans ?_;show uw M (au s).t (au s).op (dp s) _=_;unfold uw;refine h3.symm▸(aw h4).symm▸?_;refine h5.symm▸(aw g1).symm▸?_;show gd (aA M.sc (aX s)) _=_;refine g2.symm▸?_;rfl
 refine e.symm▸?_;generalize aX s=x at h;refine AY (P:=λ_=>N9) ?_;unfold Gf at h;obtain⟨d,z,h1,h⟩:=aT h;refine dc.bd h1 ?_;rw[bO];refine(tT bO _ _ _ _ _ h).bind λp z h=>(aT h).bind λB z h=>((cA 40).v _ _ _ _ _ h).bind λk z h=>(aT h).bind λj z h=>?_;obtain⟨y,z,h2,h⟩:=dq h;obtain⟨h3,z,h⟩:=d8 h;refine dc.iT h3 ?_;rw[<-eR h3,show eZ _ _=hb y from h2,HT];exact(aT h).bind λa z h=>((cA 40).v _ _ _ _ _ h).bind λv z h=>(aT h).bind λb z h=>⟨_,z,rfl,bN _ _ h⟩
theorem alv(ht:aot M s (cG s) (cX s)=Hq)(h:gCm M s (cG s) (cX s) L z aU):Q (M.sM k s L):=by
 obtain⟨h',g'⟩:=aj ht;obtain⟨h',h9⟩:=aj h';obtain⟨h',h8⟩:=aj h';obtain⟨h',h7⟩:=aj h';obtain⟨h',h6⟩:=aj h';obtain⟨h4,h5⟩:=aj h';obtain⟨g1,g3⟩:=aj g';obtain⟨g1,g2⟩:=aj g1;obtain e:M.sM k s L=sv (cX s) (λL=>(M.r (hd (dA s).es) M.sc L).1) (λL=>(M.r (sd (dA s).es.tail) M.sc L).1) (M.c.M (cG s)) L:=by refine(j3 (f:=DE) (aw h4) rfl _).trans ?_;show gd ((dA s).k==16) (bif tN M (dA s)then _ else gd ((dA s).ks.isEmpty&&cV (dA s).es) (bif(aa (dA s).a).k==20 then _ else bif(dA s).es.length==3 then(nm (dA s).a).bind λg=>(nm (sd (dA s).es)).bind λx=>gd (aY M.sc g&&aA M.sc x) (sv x (M.eM (hd (dA s).es)) (M.eM (sd (dA s).es.tail)) (M.c.M g) _)else _))=_;refine h5.symm▸(cE h6).symm▸h7.symm▸(cE h8).symm▸h9.symm▸(aw g1).symm▸(aw g2).symm▸?_;show gd (aY M.sc (cG s)&&aA M.sc (cX s)) (sv (cX s) _ _ _ _)=_;refine g3.symm▸?_;rfl
 refine e.symm▸?_;generalize cX s=x at h;refine AY (P:=λ_=>N9) ?_;obtain⟨d,z,h1,h⟩:=aT h;refine dc.bd h1 ?_;rw[bO];refine((cA 40).v _ _ _ _ _ h).bind λv1 z h=>((cA 40).v _ _ _ _ _ h).bind λv3 z h=>?_;rcases a9 h with⟨hf,h⟩|⟨_,h⟩
 ·obtain⟨h3,z,h⟩:=d8 h;obtain⟨d',z,h4,h⟩:=dq h;obtain⟨h5,z,h⟩:=d8 h;exact⟨_,z,by(refine iT ⟨λe=>(by rw[e]at hf;cases hf),h3⟩ ?_;rw[h4,HT,H5 h5]);rfl,bN _ _ h⟩
 ·exact h.elim
omit bO in
theorem te{d:Hp Hv×Ho}(hd:bL L x=hb d)(h:Eo m x d L z aU):Q (m L):=by
 cases z with
 |f k p q v z=>cases k with
  |zero=>rw[h.1 d.1 L hd];exact bN _ _ h.2
  |succ k=>exact h.elim
 |_=>exact h.elim
omit bN in
theorem ahd{P:Ho->Z->Prop}(h:Gw M e L z P):dc (Av M 5 e L) P:=by
 rcases a9 h with⟨h1,h⟩|⟨_,h⟩
 ·obtain⟨h1,h3⟩:=aj h1;obtain⟨h1,h2⟩:=aj h1;obtain⟨x,z,e1,h⟩:=aT h;obtain⟨vs,z,e2,h⟩:=jF (cA 40) _ _ _ h;obtain⟨y,z,e3,h⟩:=dq h;refine⟨y,z,?_,h⟩;show(bif _ then _ else _)=_;refine(aw h1).symm▸?_;show(bif vR M.sc e "list" 1 then _ else _)=_;refine(cE h2).symm▸?_;show mK (yX M e L) _=_;unfold yX;refine e1.symm▸?_;rw[HT,h3,bO];show mK ((rR (J M.c 40) M.sc _ L).bind _) _=_;refine e2.symm▸?_;rw[HT,e3];rfl
 ·exact h.elim
theorem alo(ht:anT M s x=Hq)(h:gHd M s x L z aU):Q (M.sM k s L):=by
 obtain⟨h0,h5⟩:=aj ht;obtain⟨h0,h4⟩:=aj h0;obtain⟨h0,h3⟩:=aj h0;obtain⟨h1,h2⟩:=aj h0;obtain e:M.sM k s L=y4 M x (qe s) (dp s) L:=by refine(j3 (f:=uG) (aw h1) rfl L).trans ?_;show gd ((au s).ts.length==1) (pT M (jO s) (dp s) L)=_;refine h2.symm▸?_;unfold pT;refine(aw h3).symm▸?_;show tf M (ug s) (qe s) (dp s) L=_;unfold tf;exact(aw h4)▸rfl
 refine e.symm▸?_;unfold y4;obtain⟨q,z,e1,h⟩:=aT h;obtain⟨d,z,e2,h⟩:=aT h;refine e1.symm▸h5.symm▸?_;rcases a9 h with⟨U,h⟩|⟨U,h⟩
 ·obtain⟨vj,z,e3,h⟩:=(cA 40).v _ _ _ _ _ h;obtain⟨vi,z,e4,h⟩:=(cA 40).v _ _ _ _ _ h;refine U.symm▸?_;show Q (gW q.1 q.2.1 x (λ_=>(M.r (qe s) M.sc L).1) (λ_=>(M.r (aa (dp s)).b M.sc L).1) L);refine bO.symm▸e3.symm▸e4.symm▸?_;exact te bN e2 h
 ·rcases a9 h with⟨hn,h⟩|⟨_,h⟩
  ·obtain⟨y,z,e3,h⟩:=ahd bO h;obtain⟨vi,z,e4,h⟩:=(cA 40).v _ _ _ _ _ h;refine U.symm▸?_;show Q (gd (jY (dp s)) (i0 q.1 q.2.1 x (λ_=>(M.r (qe s) M.sc L).1) (λ_=>Av M 5 (dp s) L) L));refine hn.symm▸bO.symm▸e3.symm▸e4.symm▸?_;exact te bN e2 h
  ·exact h.elim
omit bN in
theorem amv{P:Ho->Z->Prop}(h:oET M e L z P):dc (Av M 5 e L) P:=by
 rcases a9 h with⟨h1,h⟩|⟨h1,h⟩
 ·rcases a9 h with⟨h2,h⟩|⟨_,h⟩
  ·show dc (bif _ then _ else _) _;refine(aw h1).symm▸h2.symm▸bO.symm▸?_;exact(jF (cA 40) _ _ _ h).bind λvs z h=>dq h
  ·exact ahd bO h
 ·rcases a9 h with⟨h2,h⟩|⟨_,h⟩
  ·show dc (bif _ then _ else _) _;exact h2.symm▸⟨_,z,rfl,h⟩
  rcases a9 h with⟨h2,h⟩|⟨_,h⟩
  ·show dc (bif _ then _ else _) _;refine h2.symm▸(aw (aj (aj h2).1).1).symm▸?_;exact⟨_,z,rfl,h⟩
  rcases a9 h with⟨_,h⟩|⟨h2,h⟩
  ·exact h.elim
  ·obtain h3:=Jn.mp h2;show dc (bif _ then _ else _) _;unfold vR yX Dx;rw[h3.1,h3.2,h1];show dc (mK Hu ((M.r e M.sc L).1.bind _)) P;refine bO.symm▸?_;exact((cA 40).v _ _ _ _ _ h).bind λv z h=>by
    obtain⟨hc,z,h⟩:=d8 h;exact⟨_,z,H5 hc,h⟩
theorem amx(h:gSa M s x L z aU):Q (M.sM k s L):=by
 obtain⟨q,z,e1,h⟩:=aT h;rcases a9 h with⟨ht,h⟩|⟨_,h⟩
 ·obtain⟨h0,h5⟩:=aj ht;obtain⟨h0,h4⟩:=aj h0;obtain⟨h0,h3⟩:=aj h0;obtain⟨h5,h7⟩:=aj h5;obtain⟨d,z,e2,h⟩:=aT h;obtain⟨y,z,e3,h⟩:=amv bO h;obtain⟨d',z,e4,h⟩:=dq h;rw[show M.sM k s L=zm q.1 x (aa (jO s)).x (Av M 5 (dp s)) L by refine(j3 (f:=uG) (aw h0) rfl _).trans ?_;show gd ((au s).ts.length==1) (pT M (jO s) (dp s) _)=_;refine h3.symm▸?_;unfold pT;refine(aw h4).symm▸?_;show xf M (aa (jO s)).a (aa (jO s)).x (dp s) _=_;unfold xf;refine e1.symm▸(aw h5).symm▸?_;show gd (aA M.sc x&&iP q.2 (aa (jO s)).x&&wf (.str (aa (jO s)).x)&&jY (dp s)) _=_;refine h7.symm▸?_;rfl];refine bQ _ e2<|bQ _ e3 ?_;rw[e4];exact bN _ _ h
 ·exact h.elim
theorem alB(ht:anS M s x=Hq)(h:gOp M s x L z aU):Q (M.sM k s L):=by
 obtain⟨h0,h6⟩:=aj ht;obtain⟨h0,h5⟩:=aj h0;obtain⟨h0,h4⟩:=aj h0;obtain⟨h0,h3⟩:=aj h0;obtain⟨h1,h2⟩:=aj h0;obtain⟨q,z,e1,h⟩:=aT h;obtain⟨d,z,e2,h⟩:=aT h;obtain⟨v,z,e3,h⟩:=(cA 40).v _ _ _ _ _ h;obtain e:M.sM k s L=kC q.1 q.2.1 x (λ_=>(M.r (dp s) M.sc L).1) L:=by refine(j3 (f:=Be) (aw h1) rfl _).trans ?_;show uw M (au s).t (au s).op (dp s) _=_;unfold uw;refine h2.symm▸(aw h3).symm▸?_;show sC M (aa (au s).t) (dp s) L=_;unfold sC;refine e1.symm▸(aw h4).symm▸?_;refine(aw h5).symm▸?_;show gd (aA M.sc x) _=_;refine h6.symm▸?_;rfl
 refine e.symm▸bO.symm▸e3.symm▸?_;exact te bN e2 h
theorem alk(ht:amZ M s x=Hq)(h:gAm M s x L z aU):Q (M.sM k s L):=by
 obtain⟨h0,g⟩:=aj ht;obtain⟨h0,h4⟩:=aj h0;obtain⟨h0,h3⟩:=aj h0;obtain⟨h1,h2⟩:=aj h0;obtain⟨g,g4⟩:=aj g;obtain⟨g,g3⟩:=aj g;obtain⟨g1,g2⟩:=aj g;obtain⟨q,z,e1,h⟩:=aT h;obtain⟨d,z,e2,h⟩:=aT h;obtain⟨vi,z,e4,h⟩:=(cA 40).v _ _ _ _ _ h;obtain⟨v,z,e3,h⟩:=(cA 40).v _ _ _ _ _ h;obtain e:M.sM k s L=iY q.1 q.2.1 x (λ_=>(M.r (aa (Ar s)).b M.sc L).1) (λ_=>(M.r (dp s) M.sc L).1) L:=by refine(j3 (f:=Be) (aw h1) rfl _).trans ?_;show uw M (au s).t (au s).op (dp s) _=_;unfold uw;refine h2.symm▸(aw h3).symm▸?_;show sC M (aa (au s).t) (dp s) L=_;unfold sC;refine e1.symm▸(aw h4).symm▸?_;refine g1.symm▸g2.symm▸(aw g3).symm▸?_;show gd (aA M.sc x) _=_;refine g4.symm▸?_;rfl
 refine e.symm▸bO.symm▸e3.symm▸e4.symm▸?_;exact te bN e2 h
omit bN in
theorem afM{q:iK}{aU:Ho->GK}(hk:∀y L z,aU y L z->Q (kk L y))(h:Em M q L z aU):Q (BD M q kk L):=by
 obtain⟨s,z,e1,h⟩:=aT h;obtain⟨d,z,e2,h⟩:=aT h;obtain⟨vs,z,e3,h⟩:=jF (cA 40) _ _ _ h;refine bQ _ e1<|bQ _ e2 ?_;rw[bO,e3,HT]
 match vs with
 |[]=>exact h.elim
 |_::_::_=>exact h.elim
 |[v]=>obtain⟨h1,z,h⟩:=d8 h;obtain⟨h2,z,h⟩:=d8 h;obtain⟨r,z,e4,h⟩:=dq h;obtain⟨h3,z,h⟩:=d8 h;obtain⟨h4,z,h⟩:=d8 h;refine Dz _ ⟨h1,h2⟩ ?_;show Q ((M.c.R _ _).bind _);(refine bQ _ e4 ?_;rw[H5 ⟨h3,h4⟩]);exact hk _ _ _ h
theorem alx(ht:aoG M s=Hq)(h:Em M (dA s) L z λy L z=>bif isNone y then aU L z else Jg):Q (M.sM k s L):=by
 obtain⟨h0,h3⟩:=aj ht;obtain⟨h1,h2⟩:=aj h0;rw[show M.sM k s L=BD M (dA s) (λL z=>if isNone z=Hq then hb (.next L)else Hu) L by refine(j3 (f:=DE) (aw h1) rfl _).trans ?_;show gd ((dA s).k==16) (bif tN M (dA s)then _ else _)=_;(refine h2.symm▸h3.symm▸?_);rfl];refine afM bO (λy L z h=>?_) h;rcases a9 h with⟨U,h⟩|⟨_,h⟩
 ·exact Dz _ U<|bN _ _ h
 ·exact h.elim
theorem akC(ht:an6 M s=Hq)(h:gCe M s L z aU):Q (M.sM k s L):=by
 obtain⟨h0,h6⟩:=aj ht;obtain⟨h0,h5⟩:=aj h0;obtain⟨h0,h4⟩:=aj h0;obtain⟨h0,h3⟩:=aj h0;obtain⟨h1,h2⟩:=aj h0;obtain⟨v,_,e,h⟩:=(cA 40).v _ _ _ _ _ h;rw[show M.sM k s L=(M.eM (au s).e L).bind λv=>gd (x8 v.x) (hb (.next L)) by refine(j3 (f:=DE) (aw h1) rfl _).trans ?_;show gd ((dA s).k==16) (bif tN M (dA s)then _ else gd ((dA s).ks.isEmpty&&cV (dA s).es) (bif(aa (dA s).a).k==20 then _ else bif(dA s).es.length==3 then _ else _))=_;(refine h2.symm▸(cE h3).symm▸h4.symm▸(cE h5).symm▸(cE h6).symm▸?_);rfl];rcases a9 h with⟨U,h⟩|⟨_,h⟩
 ·show Q ((M.r (au s).e M.sc L).1.bind _);refine bO.symm▸?_;rw[e,HT,U];exact bN _ _ h
 ·exact h.elim
theorem alF(ht:anv M s=Hq)(h:Em M (aa (dp s)) L z λy L z=>aU (L.set (nX s) (.val ⟨y,.d⟩)) z):Q (M.sM k s L):=by obtain⟨h0,h1⟩:=aj ht;obtain⟨h1,h4⟩:=aj h1;obtain⟨h2,h3⟩:=aj h1;rw[show M.sM k s L=BD M (aa (dp s)) (λL z=>hb (.next (L.set (nX s) (.val ⟨z,.d⟩)))) L by rw[oS h0];unfold lR;refine(aw h2).symm▸?_;show mG M (nX s) (dp s) (aa (dp s)) L=_;unfold mG;(refine(cE h3).symm▸h4.symm▸?_);rfl];exact afM bO (λy L z h=>bN _ _ h) h
omit bO in
theorem alO(ht:am5 M s Ay=Hq)(h:gTc M s Ay L z aU):Q (M.sM k s L):=by obtain⟨h0,h1⟩:=aj ht;obtain⟨h1,h5⟩:=aj h1;obtain⟨h1,h4⟩:=aj h1;obtain⟨h2,h3⟩:=aj h1;obtain⟨d,z,e,h⟩:=dq h;rw[oS h0];unfold lR;refine(aw h2).symm▸?_;show Q (mG M (nX s) (dp s) (rW s) L);unfold mG aj1;(refine h3.symm▸(aw h4).symm▸?_);show Q (gd (aY M.sc Ay&&(rW s).ks.isEmpty) _);(refine h5.symm▸e.symm▸?_);exact bN _ _ h
theorem al3(ht:anu M s Ay=Hq)(h:gOc M s Ay L z aU):Q (M.sM k s L):=by
 obtain⟨h0,h1⟩:=aj ht;obtain⟨h1,h7⟩:=aj h1;obtain⟨h1,h6⟩:=aj h1;obtain⟨h1,h5⟩:=aj h1;obtain⟨h1,h4⟩:=aj h1;obtain⟨h2,h3⟩:=aj h1;obtain⟨vs,z,e1,h⟩:=jF (cA 40) _ _ _ h;obtain⟨y,z,e2,h⟩:=dq h;rw[oS h0];unfold lR;refine(aw h2).symm▸?_;show Q (mG M (nX s) (dp s) (rW s) L);unfold mG ajS;refine(cE h3).symm▸(cE h4).symm▸h5.symm▸(aw h6).symm▸?_;show Q ((gd (aY M.sc Ay&&cV (rW s).es&&(rW s).ks.isEmpty&&(bf Ay).isNone) ((rR M.r M.sc (rW s).es L).bind _)).bind _);refine h7.symm▸?_;rw[bO,e1,HT,e2];clear ht e2 e1 h3 h2 h4 h5 h6 h7 h1 h0;cases y with
 |list ys=>obtain⟨hc,z,h⟩:=d8 h;exact Dz _ hc<|bN _ _ h
 |_=>exact h.elim
theorem ame(ht:ana s=Hq)(h:gTu M s L z aU):Q (M.sM k s L):=by obtain⟨h0,h4⟩:=aj ht;obtain⟨h0,h3⟩:=aj h0;obtain⟨h1,h2⟩:=aj h0;obtain⟨v,z,e,h⟩:=(cA 40).v _ _ _ _ _ h;obtain⟨ft,z,e2,h⟩:=aT h;refine(show M.sM k s L=_ from j3 (f:=uG) (aw h1) rfl _).symm▸?_;show Q (gd ((au s).ts.length==1) (pT M (jO s) (dp s) _));refine h2.symm▸?_;unfold pT;refine(aw h3).symm▸?_;show Q (gd (!gA 25 (dp s)&&jY (dp s)) ((M.r (dp s) M.sc L).1.bind _));(refine h4.symm▸bO.symm▸e.symm▸?_);show Q ((pC (aA M.sc) (jO s) v L).map .next);exact e2.symm▸bN _ _ h
theorem am6(U:SB M (M.bM k) gb)(h:gS M gb k Q s L z aU):Q (M.sM k s L):=by
 obtain g:uA Q (M.sM k s L) z aU->Q (M.sM k s L):=λh=>adj h bN;rcases a9 h with⟨hs,h⟩|⟨_,h⟩
 ·exact aml bO bN U hs h
 rcases a9 h with⟨_,h⟩|⟨_,h⟩
 ·refine alP bO bN (λh=>?_) h;rcases a9 h with⟨ht,h⟩|⟨_,h⟩
  ·exact alI bO bN ht h
  rcases a9 h with⟨ht,h⟩|⟨_,h⟩
  ·exact alo bO bN ht h
  rcases a9 h with⟨ht,h⟩|⟨_,h⟩
  ·exact alH bO bN ht h
  rcases a9 h with⟨ht,h⟩|⟨_,h⟩
  ·exact alF bO bN ht h
  rcases a9 h with⟨ht,h⟩|⟨_,h⟩
  ·exact alO bN ht h
  rcases a9 h with⟨ht,h⟩|⟨_,h⟩
  ·exact al3 bO bN ht h
  rcases a9 h with⟨ht,h⟩|⟨_,h⟩
  ·exact ame bO bN ht h
  rcases a9 h with⟨_,h⟩|⟨_,h⟩
  ·exact amx bO bN h
  ·exact g h
 rcases a9 h with⟨_,h⟩|⟨_,h⟩
 ·exact akN bO bN g h
 rcases a9 h with⟨_,h⟩|⟨_,h⟩
 ·refine akK bO bN (λh=>?_) h;rcases a9 h with⟨ht,h⟩|⟨_,h⟩
  ·exact amt bO bN ht h
  rcases a9 h with⟨ht,h⟩|⟨_,h⟩
  ·exact alv bO bN ht h
  rcases a9 h with⟨ht,h⟩|⟨_,h⟩
  ·exact alx bO bN ht h
  rcases a9 h with⟨ht,h⟩|⟨_,h⟩
  ·exact akC bO bN ht h
  ·exact g h
 rcases a9 h with⟨ht,h⟩|⟨_,h⟩
 ·exact amn bO bN ht h
 rcases a9 h with⟨ht,h⟩|⟨_,h⟩
 ·exact alB bO bN ht h
 rcases a9 h with⟨ht,h⟩|⟨_,h⟩
 ·exact alk bO bN ht h
 rcases a9 h with⟨hs,h⟩|⟨_,h⟩
 ·obtain⟨w,z,e,h⟩:=afP (cA 40) _ _ _ _ h;rcases a9 h with⟨hf,h⟩|⟨_,h⟩
  ·rw[amc hs,bO,e,HT,Ir (by intro e;rw[e]at hf;cases hf)];exact alg bO bN U h
  ·exact h.elim
 rcases a9 h with⟨hs,h⟩|⟨_,h⟩
 ·exact alK bO bN g U hs h
 ·exact g h
omit bO bN in
theorem aoe{f:Z->Prop}{P:Prop}(one:∀z,f z->P):∀n z,gC f n z->P:=by
 intro n;induction n with
 |zero=>intro z h;exact one z h
 |succ n bY=>
  intro z h;cases z with
  |cs c x y=>cases c with
   |true=>exact bY _ (h.1 rfl)
   |false=>exact bY _ (h.2 rfl)
  |_=>exact one _ h
omit bN in
theorem zf:∀k,SB M (M.bM k) (gB M k):=by
 intro k;induction k with
 |zero=>exactλ_ _ _ _ _ h=>Oe h
 |succ k ih=>
  intro Q ss L z aU h bN;have one:∀z,gL M (gB M k) k Q ss L z aU->Q (M.bM (k+1) ss L):=λz h=>by
   cases ss with
   |nil=>exact bN _ _ h
   |cons s rest=>exact am6 (Q:=λo=>Q (o.bind (xc (M.bM k rest)))) bO (λL z q=>ih Q rest L z aU q bN) ih h
  refine aoe (λz h=>?_) 3 z h;cases z with
  |lv l p q=>exact(ky h.1).symm▸h.2 _
  |_=>exact one _ h
end
variable{Q:Hp Out->Prop}
theorem vgK(hM:M.r=J M.c 40)(aU:ar->Prop)(hK:∀L,aU L->Q (hb (.next L)))(z:Z)(h:(∀L,gB M k Q (ss.drop i) (d6 l L) z λL _=>aU L)=∀_:ar,z.sp:=by kernel_rfl):M.G k ss i l Q:=λL=>zf hM k Q _ _ z _ (h.mpr (λ_=>z.ok) L) λ_ _ h=>hK _ h
variable{f:HP}
theorem vg(z:Z)(h:(∀L,gB (Mf P c f) k Q (ss.drop i) (d6 l L) z λL _=>Q (hb (.next L)))=∀_:ar,z.sp:=by kernel_rfl):(Mf P c f).G k ss i l Q:=λL=>zf rfl k Q _ _ z _ (h.mpr (λ_=>z.ok) L) λ_ _ h=>h
section
variable(BC:JP)(qw:JC)(apl:Ig)(mu:Hp Df)(qc:Hn Ho)
def dM:Mc:=BH BC qw apl (match mu with|some q=>q.2.2|none=>default)
noncomputable def dB:Hn IM:=match mu with|some q=>q.2.1|none=>[]
noncomputable def dP:Hn HP:=match mu with|some q=>q.1|none=>[]
def CG:Ig:=mu.isSome&&qc.length==(dP mu).length
def dG(Q:Hp Out->Prop)(l:En)(z:Z)(aU:ar->Prop):Prop:=∀L,gB (dM BC qw apl mu) 60 Q (dB mu) (d6 l L) z λL _=>aU L
def eA(aH:Ho->Prop)(z:((y:Ho)->aH y->Z)->Z):Prop:=CG mu qc=Hq/\dG BC qw HH mu (λmu=>∃y,mu.bind sE=hb y/\aH y) (Fx (dP mu) qc) (z λy h=>.q (∃x,hb y=hb x/\aH x) ⟨y,rfl,h⟩) λ_=>∃x,hb .none=hb x/\aH x
def eB(aH:Ho->Prop)(z:((y:Ho)->aH y->Z)->Z):Prop:=Hq=Hq/\∀_:ar,(z λy h=>.q (∃x,hb y=hb x/\aH x) ⟨y,rfl,h⟩).sp
def rA(y:Ho)(z:((x:Ho)->x=y->Z)->Z):Prop:=CG mu qc=Hq/\dG BC qw HH mu (λmu=>mu.bind sE=hb y) (Fx (dP mu) qc) (z λ_ h=>.q _ (HL hb h)) λ_=>hb .none=hb y
def rB(y:Ho)(z:((x:Ho)->x=y->Z)->Z):Prop:=Hq=Hq/\∀_:ar,(z λ_ h=>.q _ (HL hb h)).sp
def sA(w:I2)(z:((x:I2)->w=x->Z)->Z):Prop:=rA BC qw mu qc (.str (HA w)) λe=>z λx h=>e _ (HL (λx=>JF (HA x)) h.symm)
def sB(w:I2)(z:((x:I2)->w=x->Z)->Z):Prop:=rB (.str (HA w)) λe=>z λx h=>e _ (HL (λx=>JF (HA x)) h.symm)
noncomputable def tL(a:Hv)(d:Ho):((x:Ho)->x=d->Z):=λ_ h=>.q _ (HL (λx=>hb (VV.own (.tree (hb a) x))) h)
def mA(g:Hn HP->Ig)(px:HP)(d d':Ho)(z:Hv->((x:Ho)->x=d'->Z)->Z):Prop:=(CG mu qc&&g (dP mu))=Hq/\((dP mu).zip qc).lookup px=hb d/\∀a,dG BC qw HH mu (λmu=>∃L,mu=hb (.next L)/\L px=hb (.own (.tree (hb a) d'))) (Dt (dP mu) qc px a d) (z a (tL a d')) λL=>L px=hb (.own (.tree (hb a) d'))
def mB(d d':Ho)(z:Hv->((x:Ho)->x=d'->Z)->Z):Prop:=Hq=Hq/\hb d=hb d/\∀(a:Hv)(_:ar),(z a (tL a d')).sp
noncomputable def tR(a:Hv)(y d:Ho):(x e:Ho)->x=y->e=d->Z:=λ_ _ h1 h2=>.q _ (congr (HL (λx y=>(x,hb (VV.own (.tree (hb a) y)))) h1) h2)
def qR(px:HP)(a:Hv)(y d:Ho)(mu:Hp Out):Prop:=match mu with
 |some (.fR x L)=>(x,L px)=(y,hb (.own (.tree (hb a) d)))
 |some (.next L)=>(OI,L px)=(y,hb (.own (.tree (hb a) d)))
 |_=>Jg
def nA(px:HP)(d y d':Ho)(z:Hv->((x e:Ho)->x=y->e=d'->Z)->Z):Prop:=(CG mu qc&&Fh (dP mu)&&p1 (dP mu)==px)=Hq/\((dP mu).zip qc).lookup px=hb d/\∀a,dG BC qw Hq mu (qR px a y d') (Dt (dP mu) qc px a d) (z a (tR a y d')) λL=>(OI,L px)=(y,hb (.own (.tree (hb a) d')))
def nB(d y d':Ho)(z:Hv->((x e:Ho)->x=y->e=d'->Z)->Z):Prop:=Hq=Hq/\hb d=hb d/\∀(a:Hv)(_:ar),(z a (tR a y d')).sp
end
variable{o:Hp Df}
theorem wG{rt:Ig}{aU:ar->Prop}(h:dG P c rt o Q l FG aU)(hK:∀L,aU L->Q (hb (.next L)))(L:ar):Q (jB (dM P c rt o) 60 (dB o) (d6 l L)):=zf rfl 60 _ _ _ _ _ (h L) λL _ h=>hK L h
theorem nP(h:CG o B=Hq):∃q,o=hb q/\B.length=q.1.length:=by
 cases o with
 |none=>cases h
 |some q=>exact i12 q rfl (aw (aj h).2)
theorem xE0{aH:Ho->Prop}(z:((y:Ho)->aH y->Z)->Z)(h:eA P c o B aH z=eB aH z):∃y,(o.bind λq=>BI q.1 (mU P c HH q) B)=hb y/\aH y:=by refine ew (h.mpr ⟨rfl,λ_=>Z.ok _⟩) λha h=>aQ (nP ha) λq o1 hl=>?_;subst o1;refine aQ (wG h (λ_ h=>h) λ_=>Hu) λy h r=>i12 y ?_ r;(refine iT hl ?_;rw[j1]);exact h
variable{y:Ho}
theorem Fv(z:((x:Ho)->x=y->Z)->Z)(h:rA P c o B y z=rB y z):(o.bind λq=>BI q.1 (mU P c HH q) B)=hb y:=by refine ew (h.mpr ⟨rfl,λ_=>Z.ok _⟩) λha h=>aQ (nP ha) λq o1 hl=>?_;subst o1;obtain h:=wG h (λ_ h=>h) λ_=>Hu;(refine iT hl ?_;rw[j1]);exact h
theorem xD{g:Hn HP->Ig}{z:Hv->((x:Ho)->x=d'->Z)->Z}(h:mA P c o B g px d d' z=mB d d' z):∃q,o=hb q/\g q.1=Hq/\lK q.1 px (mU P c HH q) B=hb d':=by refine xg (h.mpr ⟨rfl,rfl,λ_ _=>Z.ok _⟩) λh1 h2 h3=>?_;obtain⟨h0,h1⟩:=aj h1;refine aQ (nP h0) λq o1 hl=>?_;subst o1;exact rM q rfl h1 (aej λa=>aQ (wG (h3 a) (λ_ h=>⟨_,rfl,h⟩) λ_=>Hu) λL e1 e2=>ahb hl h2 e1 e2)
theorem xM0(z:Hv->((x:Ho)->x=d'->Z)->Z)(h:mA P c o B E6 (p2 (dP o)) d d' z=mB d d' z):(o.bind λq=>ajl q.1 (mU P c HH q) B)=hb d':=by refine kK (xD h) λq o1 h1 h2=>?_;subst o1;show gd (E6 q.1) _=_;exact h1.symm▸h2
theorem xR0(z:Hv->((x e:Ho)->x=y->e=d'->Z)->Z)(h:nA P c o B "self" d y d' z=nB d y d' z):(o.bind λq=>ajF q.1 (mU P c Hq q) B)=hb (y,d'):=by
 refine xg (h.mpr ⟨rfl,rfl,λ_ _=>Z.ok _⟩) λh1 h2 h3=>?_;obtain⟨h0,h4⟩:=aj h1;obtain⟨h0,h1⟩:=aj h0;refine aQ (nP h0) λq o1 hl=>?_;subst o1;show gd (Fh q.1) _=_;refine(show Fh q.1=Hq from h1).symm▸ae0 λa=>?_;obtain h:=wG (h3 a) (λ_ h=>h) λ_=>Hu;rw[show p1 q.1="self"from aw h4];refine iT hl ?_;rw[show(q.1.zip B).lookup (HA "self")=hb d from h2,HT,j1,qD];show(mU P c Hq q (d6 (Dt q.1 B "self" a d) λ_=>Hu)).bind _=_;revert h;show qR _ _ _ _ (mU P c Hq q (d6 (Dt q.1 B "self" a d) λ_=>Hu))->_;generalize mU P c Hq q (d6 (Dt q.1 B "self" a d) λ_=>Hu)=o;intro h;have fin:∀{x:Ho}{L:ar},(x,L "self")=(y,hb (VV.own (.tree (hb a) d')))->((bL L "self").bind λq=>if q.1=hb a then hb (x,q.2)else Hu)=hb (y,d'):=λh=>by
  refine ew (Prod.mk.inj h) λh1 h2=>?_;unfold bL;refine h2.symm▸h1.symm▸?_;exact H5 rfl
 cases o with
 |none=>exact h.elim
 |some o=>cases o with
  |next L=>exact fin h
  |fR x L=>exact fin h
  |_=>exact h.elim
variable{b:Ig}
theorem xE{aH:Ho->Prop}(z:((y:Ho)->aH y->Z)->Z)(h:eA P c (mT P.p f) B aH z=eB aH z:=by kernel_rfl):∃y,(gH P c b).F f B=hb y/\aH y:=xE0 z h
theorem xF(z:((x:Ho)->x=y->Z)->Z)(h:rA P c (mT P.p f) B y z=rB y z:=by kernel_rfl):(gH P c b).F f B=hb y:=Fv z h
theorem xS{w:I2}(z:((x:I2)->w=x->Z)->Z)(h:sA P c (mT P.p f) B w z=sB w z:=by kernel_rfl):(gH P c b).F f B=hb (.str (HA w)):=Fv _ h
theorem pF(z:((x:Ho)->x=y->Z)->Z)(h:rA P c (vV P f) B y z=rB y z:=by kernel_rfl):(gH P c b).P f B=hb y:=Fv z h
theorem pS{w:I2}(z:((x:I2)->w=x->Z)->Z)(h:sA P c (vV P f) B w z=sB w z:=by kernel_rfl):(gH P c b).P f B=hb (.str (HA w)):=Fv _ h
theorem xM(z:Hv->((x:Ho)->x=d'->Z)->Z)(h:mA P c (mT P.p f) B E6 (p2 (dP (mT P.p f))) d d' z=mB d d' z:=by kernel_rfl):(gH P c b).M f B=hb d':=xM0 z h
theorem xN{q:Hv×Hn HP}(hA:P.A f=hb q)(z:Hv->((x:Ho)->x=d'->Z)->Z)(h:mA P {AS P with I:=hb q} (n9 P.p f "__init__") (d9 q.1 [] []::B) (λps=>p1 ps=="self"&& !ps.isEmpty) "self" (d9 q.1 [] []) d' z=mB (d9 q.1 [] []) d' z:=by kernel_rfl):(gH P c Hq).N f B=hb d':=by show gd Hq ((P.A f).bind _)=_;refine hA.symm▸kK (xD h) λd e h1 h2=>bI e ?_;unfold wQ;exact h1.symm▸h2
theorem xR(z:Hv->((x e:Ho)->x=y->e=d'->Z)->Z)(h:nA P c (vV P f) B "self" d y d' z=nB d y d' z:=by kernel_rfl):(gH P c b).R f B=hb (y,d'):=xR0 z h
noncomputable abbrev fB(k:HG){l:Hp Ig}(h:l=hb b)(z:Z):Z:=.f k _ h ⟨.bool b,.d⟩ z
noncomputable abbrev fX(k:HG){l:Hp Ho}(h:l=hb x)(z:Z):Z:=.f k _ h ⟨x,.d⟩ z
noncomputable abbrev fV(k:HG){l:Hp V}(h:l=hb v)(z:Z):Z:=.f k _ h v z
noncomputable abbrev fI(k:HG){l:Hp (Hn Ho×Fl)}{f:Fl}(h:l=hb (B,f))(z:Z):Z:=.f k _ h ⟨.list B,f⟩ z
noncomputable abbrev fC(k:HG){c:Prop}[La c](h:c)(z:Z):Z:=.f k _ (H5 h:(if c then hb (V.mk .none .d)else Hu)=_) ⟨.none,.d⟩ z
noncomputable abbrev fT(k:HG){x:HP}(h:tP m x d d')(z:Z):Z:=.f k _ h ⟨d',.d⟩ z
noncomputable abbrev fP(k:HG){l:Hp (Ho×Ho)}{a b:Ho}(h:l=hb (a,b))(z:Z):Z:=.f k _ h ⟨.tuple [a,b],.d⟩ z
noncomputable abbrev fN(k:HG){p:Prop}(h:p)(z:Z):Z:=.f k p h ⟨.none,.d⟩ z
noncomputable abbrev fL{p:Prop}(h:p)(z:Z):Z:=.fl p h z
noncomputable abbrev fS(k:HG)(z:Z):Z:=.f k N9 trivial ⟨.none,.d⟩ z
abbrev bB(k:HG){l:Hp Ig}(h:l=hb b)(x:b=Hq->Z)(y:b=HH->Z):Z:=fB k h (.br b x y)
noncomputable abbrev fr{σ:Type}(as:Hn α){p:α->Ho}(hp:∀a,flat (p a)=Hq)(I:HG->σ->En)(aH:HG->σ->Prop)(s:σ)(r:aH 0 s)(b:(j:HG)->(a:α)->as[j]? =hb a->(s:σ)->aH j s->((l:En)->(∃s,aH (j+1) s/\I (j+1) s=l)->Z)->Z)(z:(s:σ)->aH as.length s->Z)(ex:B=as.map p:=by rfl):Z:=.fr α σ as p B ex hp I aH s r (λj a h s r=>b j a h s r λl h=>.e l _ h) z
noncomputable abbrev fo(as:Hn α){p:α->Ho}(hp:∀a,flat (p a)=Hq)(I:HG->En)(b:(j:HG)->(a:α)->as[j]? =hb a->((l:En)->I (j+1)=l->Z)->Z)(z:Z):Z:=fr (B:=as.map p) as hp (λj (_:Nq)=>I j) (λ_ _=>N9) () trivial (λj a h s _ e=>b j a h λl h=>e l ⟨(),trivial,h⟩) λ_ _=>z
noncomputable abbrev wh{σ:Type}(I:σ->En)(aH:σ->Prop)(m:σ->HG)(s:σ)(r:aH s)(h:m s<100000)(t:(s:σ)->aH s->((l:En)->(∃x,aH x/\m x<m s/\I x=l)->Z)->Z):Z:=.wh σ I aH m s r h λs r=>t s r λl h=>.e l _ h
noncomputable abbrev wi(α:Type)(as:Hn α)(p:α->Ho)(hp:∀a,flat (p a)=Hq)(g:α->Hp Ho)(ys:Hn Ho)(e:as.filterMap g=ys)(b:(a:α)->a∈as->Z)(z:Z):Z:=.lc α as p _ rfl (λa=>⟨p a,.d⟩) (λa=>qI (hp a)) g ys e b z
noncomputable abbrev lM(as:Hn α){p:α->Ho}(hp:∀a,flat (p a)=Hq)(g:α->Ho)(z:Z):Z:=wi α as p hp (λa=>hb (g a)) _ (Kx Je as) (λa _=>.q _ (Mg (hb (g a)))) z
noncomputable abbrev lN{as:Hn α}{p:α->Ho}(hp:∀a,flat (p a)=Hq){g:α->Ho}(e:as.map g=ys)(z:Z):Z:=wi α as p hp (λa=>hb (g a)) ys ((Kx Je as).trans e) (λa _=>.q _ (Mg (hb (g a)))) z
end X
open X
set_option genCtorIdx false in
inductive Row where
 |op (p:Hn HG)
 |lay (n p:Hn HG) (i:HI)
 |copy (n o p:Hn HG)
 |same (n o:Hn HG)
 |add (n o:Hn HG)
 |tell (n:Hn HG)
 |give (p:Hn HG)
 |fork (k:HI)
 |go (k:HI)
 |fin
abbrev aP:=Hn (Hn HG×Hp (Hn HG))
noncomputable def scan:aP->Hp (Hn HG)->Hn (Hn HG)
 |[],_=>[]
 |x::B,cur=>if hb x.1=cur then x.1::scan B x.2 else scan B cur
theorem gZ{x:Hn HG×Hp (Hn HG)}{c:Hp (Hn HG)}:scan (x::dU) c=if hb x.1=c then x.1::scan dU x.2 else scan dU c:=rfl
theorem aeV(B:aP):scan B Hu=[]:=by
 induction B with
 |nil=>exact rfl
 |cons x B bY=>(rw[gZ];refine iF (by nofun) ?_);exact bY
theorem aa2{q:Hn HG}{B:aP}:q∉B.map (·.1)->scan (B++su) (hb q)=scan su (hb q):=by
 induction B with
 |nil=>intro _;exact rfl
 |cons x B bY=>intro h;rw[HS,Hw,LR]at h;(rw[Lj,gZ];refine iF (λe=>h.1 (H4 e).symm) ?_);exact bY h.2
theorem scan_len(B:aP):∀(o:Hp (Hn HG)),(scan B o).length<=B.length:=by
 induction B with
 |nil=>intro _;exact Io _
 |cons x B bY=>
  intro o;rw[gZ];split
  ·exact Jv (bY x.2)
  ·exact Hs (bY o) (J1 _)
structure bV(n:Hn HG):Prop where
 one:1<=n.length
 DA:n.length<=8
 abc:∀x∈n,97<=x/\x<=122
structure aZ(ps:aP):Prop where
 nd:(ps.map (·.1)).Nodup
 out:∀(A fq:aP)(n q:Hn HG),ps=A++(n,hb q)::fq->q∈A.map (·.1)
 len:ps.length<=12
 nm:∀p∈ps,bV p.1
abbrev up(ps:aP)(n:Hn HG):Hn (Hn HG):=scan ps.reverse (hb n)
variable{ps:aP}
theorem vE(H:aZ ps)(n:Hn HG):(up ps n).length<=12:=by have:=scan_len ps.reverse (hb n);rw[JG]at this;exact Hs this H.len
inductive At(ps:aP)(n:Hn HG):Prop
 |mk (A fq:aP) (o:Hp (Hn HG)) (e:ps=A++(n,o)::fq)
variable{n:Hn HG}
theorem Aq:n∈ps.map (·.1)->At ps n:=by
 induction ps with
 |nil=>intro h;exact nomatch h
 |cons p ps bY=>
  intro h;rcases Hw.mp h with rfl|h
  ·exact⟨[],ps,p.2,rfl⟩
  ·obtain⟨A,fq,o,e⟩:=bY h;exact⟨p::A,fq,o,by refine e.symm▸?_;rfl⟩
theorem w6{A fq:aP}{o:Hp (Hn HG)}(H:aZ ps)(e:ps=A++(n,o)::fq):up ps n=n::(match o with|some q=>up ps q|none=>[])/\ps.lookup n=hb o:=by
 obtain nd:=H.nd;rw[e,HJ,HS,H8]at nd;obtain⟨_,h2,h3⟩:=nd;rw[HZ]at h2;have hn:n∉A.map (·.1):=λh=>h3 n h n (.head _) rfl;have hr:ps.reverse=fq.reverse++((n,o)::A.reverse):=by refine e.symm▸?_;simp
 obtain hB:n∉fq.reverse.map (·.1):=by rw[Kn,MP];exact h2.1
 refine⟨?_,?_⟩
 ·unfold up;refine hr.symm▸?_;((refine(aa2 hB).trans ?_;rw[gZ]);refine iT rfl ?_);clear hB hr h2;cases o with
  |none=>rw[aeV]
  |some q=>
   obtain hq:=H.out A fq n q e;obtain h4:q∉fq.reverse.map (·.1):=by rw[Kn,MP];exactλh=>h3 q hq q (.tail _ h) rfl
   obtain h5:n≠q:=λh=>hn (by exact h.symm▸hq);show _=n::scan (fq.reverse++((n,hb q)::A.reverse)) (hb q);refine(aa2 h4).symm▸?_;rw[gZ,Ir (λh=>h5 (H4 h))]
 ·refine e.symm▸?_;have:∀{A:aP},n∉A.map (·.1)->(A++(n,o)::fq).lookup n=hb o:=by
   intro A;clear e H hB hr h3 h2;induction A with
   |nil=>intro _;(dsimp only[KX,HK];rw[Ih])
   |cons x A ih=>intro h;rw[HS,Hw,LR]at h;exact Lj.symm▸HK.trans<|(HO.mpr h.1).symm▸ih h.2
  exact this hn
theorem agI{A fq:aP}(H:aZ ps)(e:ps=A++(n,hb q)::fq):q∈ps.map (·.1):=by(refine e.symm▸HJ.symm▸?_);exact HF _ (H.out A fq n q e)
def zS(ps:aP)(c:Hn (Hn HG)):Prop:=∀i n,c[i]? =hb n->ps.lookup n=hb c[i+1]?
theorem afO(H:aZ ps)(m:HG):∀{n:Hn HG},(up ps n).length<=m->n∈ps.map (·.1)->zS ps (up ps n)/\(up ps n)[0]? =hb n:=by
 induction m with
 |zero=>intro n R hn;obtain⟨A,fq,o,e⟩:=Aq hn;rw[(w6 H e).1]at R;exact IG R (Nat.not_succ_le_zero _)
 |succ m bY=>
  intro n R hn;obtain⟨A,fq,o,e⟩:=Aq hn;refine ew (w6 H e) λh1 h2=>?_;rw[h1]at R⊢;refine⟨?_,rfl⟩;intro i z hz;clear hn h1;cases o with
  |none=>
   cases i with
   |zero=>obtain hz:n=z:=H4 hz;refine hz▸h2.symm▸?_;rfl
   |succ i=>exact nomatch hz
  |some q=>
   refine ew (bY (Nat.le_of_succ_le_succ R) (agI H e)) λc1 c2=>?_;clear H R;cases i with
   |zero=>obtain hz:n=z:=H4 hz;(refine hz▸h2.symm▸?_);exact HL hb c2.symm
   |succ i=>exact c1 i z hz
theorem qo(H:aZ ps)(hn:n∈ps.map (·.1)):∃t,up ps n=n::t:=by obtain⟨A,fq,o,e⟩:=Aq hn;exact⟨_,(w6 H e).1⟩
theorem amQ{z:Hn HG}(h:z∈up ps n):z∈ps.map (·.1):=by
 have:∀{B:aP}{o:Hp (Hn HG)},z∈scan B o->z∈B.map (·.1):=by
  intro B;induction B with
  |nil=>intro o h;exact nomatch h
  |cons x B ih=>
   intro o h;rw[gZ]at h;split at h
   ·rcases Hw.mp h with rfl|h
    ·exact .head _
    ·exact .tail _ (ih h)
   ·exact .tail _ (ih h)
 have:=this h;rwa[Kn,MP]at this
structure eP where
 bG:Hn (Hn HG×HI)
 held:Hn (Hn HG×HI)
 aC:Hn (HI×HI)
 told:Hn HI
 given:Hn HI
 many:HI
noncomputable def vQ:eP:=⟨[],[],[],[],[],0⟩
noncomputable def eG(st:eP)(i:HI):HI:=((st.aC[i.toNat]?).getD (0,0)).2
noncomputable def df(st:eP)(i:HI):HI:=((st.aC[i.toNat]?).getD (0,0)).1
def d1(st:eP)(n:Hn HG):I2:=match st.held.lookup n with
 |none=>"nothing"
 |some i=>bif decide (eG st i∈st.bG.map (·.2))then""else"gone"
noncomputable def di(st:eP):Hn (Hn HG):=st.bG.map (·.1)
def aS(ps:aP)(st:eP)(r:Row):I2:=match r with
 |.op p=>bif decide (p∈di st)then"open already"else match(up ps p)[1]?with
  |some q=>bif decide (q∈di st)then""else"not open"
  |none=>""
 |.lay _ p _=>bif decide (p∈di st)then""else"not open"
 |.copy _ o p=>bif d1 st o==""then(bif decide (p∈di st)then""else"not open")else d1 st o
 |.same _ o=>bif(st.held.lookup o).isSome then""else"nothing"
 |.add n o=>bif d1 st n==""then d1 st o else d1 st n
 |.tell n=>d1 st n
 |.give p=>bif decide (p∈di st)then""else"not open"
 |.fin=>bif st.bG.isEmpty then""else"left"
 |.fork _=>""
 |.go _=>""
variable{st:eP}{p:Hn HG}{i:HI}
theorem we:aS ps st (.lay n p i)=bif decide (p∈di st)then""else"not open":=rfl
variable{o:Hn HG}
theorem kP:aS ps st (.copy n o p)=bif d1 st o==""then(bif decide (p∈di st)then""else"not open")else d1 st o:=rfl
theorem tG:aS ps st (.same n o)=bif(st.held.lookup o).isSome then""else"nothing":=rfl
theorem lG:aS ps st (.add n o)=bif d1 st n==""then d1 st o else d1 st n:=rfl
theorem tA:aS ps st (.give p)=bif decide (p∈di st)then""else"not open":=rfl
theorem wa:aS ps st .fin=bif st.bG.isEmpty then""else"left":=rfl
noncomputable def tZ(n:Hn HG)(i:HI):Hn (Hn HG×HI)->Hn (Hn HG×HI)
 |[]=>[]
 |p::h=>if p.1=n then(p.1,i)::h else p::tZ n i h
def mn(h:Hn (Hn HG×HI))(n:Hn HG)(i:HI):Hn (Hn HG×HI):=if(h.lookup n).isSome then tZ n i h else h++[(n,i)]
noncomputable def bg(st:eP)(n:Hn HG):HI:=(st.held.lookup n).getD 0
noncomputable def jh(st:eP)(p:Hn HG):HI:=((st.bG.filter λq=>decide (q.1=p)).map (·.2)).headD 0
def dC(ps:aP)(p:Hn HG)(q:Hn HG×HI):Ig:=decide (p∈up ps q.1)
def d7(ps:aP)(st:eP)(r:Row):eP:=match r with
 |.op p=>{st with bG:=st.bG++[(p,st.many)],many:=st.many+1}
 |.lay n p i=>{st with held:=mn st.held n st.aC.length,aC:=st.aC++[(i,jh st p)]}
 |.copy n o p=>{st with held:=mn st.held n st.aC.length,aC:=st.aC++[(df st (bg st o),jh st p)]}
 |.same n o=>{st with held:=mn st.held n (bg st o)}
 |.add n o=>{st with aC:=st.aC.set (bg st n).toNat (df st (bg st n)+df st (bg st o),eG st (bg st n))}
 |.tell n=>{st with told:=st.told++[df st (bg st n)]}
 |.give p=>{st with given:=st.given++((st.bG.filter (dC ps p)).map (·.2)).reverse,bG:=st.bG.filter λq=> !dC ps p q}
 |.fork _=>st
 |.go _=>st
 |.fin=>st
def dR(st:eP)(n:Hn HG):Prop:=∃i,st.held.lookup n=hb i/\0<=i/\i.toNat<st.aC.length
def eX(st:eP)(n:Hn HG):Prop:=∀i,st.held.lookup n=hb i->0<=i/\i.toNat<st.aC.length
def w0(st:eP)(r:Row):Prop:=match r with
 |.op p=>p∉di st
 |.lay _ p _=>p∈di st
 |.copy _ o p=>dR st o/\p∈di st
 |.same _ o=>dR st o
 |.add n o=>dR st n/\dR st o
 |.tell n=>dR st n
 |_=>N9
structure Inv(ps:aP)(k:HG)(st:eP):Prop where
 up:∀p∈di st,p∈ps.map (·.1)
 wV:(di st).Nodup
 low:∀q∈st.bG,q.2<st.many
 jr:∀n,eX st n
 hn:(st.held.map (·.1)).Nodup
 asc:(st.bG.map (·.2)).Pairwise (·<·)
 held:st.held.length<=k
 aC:st.aC.length<=k
 told:st.told.length<=k
 gv:st.given.length+st.bG.length<=k
theorem Inv.mono(h:Inv ps k st)(hk:k<=k'):Inv ps k' st:=⟨h.up,h.wV,h.low,h.jr,h.hn,h.asc,Hs h.held hk,Hs h.aC hk,Hs h.told hk,Hs h.gv hk⟩
theorem yR(ps:aP):Inv ps 0 vQ:=⟨λ_ h=>(nomatch h),I9,λ_ h=>(nomatch h),λ_ _ h=>(nomatch h),I9,QZ,Io _,Io _,Io _,Io _⟩
variable{h:Hn (Hn HG×HI)}
theorem oN{p:Hn HG×HI}:tZ n i (p::h)=if p.1=n then(p.1,i)::h else p::tZ n i h:=rfl
theorem abV:∀{m:Hn HG},(tZ n i h).lookup m=if m=n then(h.lookup n).map λ_=>i else h.lookup m:=by
 induction h with
 |nil=>intro m;split<;>rfl
 |cons p h bY=>
  intro m;rw[oN];by_cases e:p.1=n
  ·rw[H5 e];refine HK.trans ?_;rw[HK,HK];subst e;by_cases e2:m=p.1
   ·subst e2;simp
   ·simp[e2,HO.mpr e2]
  ·rw[Ir e];refine HK.trans ?_;rw[HK,HK,bY];refine(HO.mpr (K9 e)).symm▸?_;by_cases e2:m=p.1
   ·subst e2;simp[e]
   ·exact(HO.mpr e2).symm▸rfl
theorem ab2:(mn h n i).lookup G3=if G3=n then hb i else h.lookup G3:=by
 unfold mn;cases hl:h.lookup n with
 |some j=>(rw[H5 O2];refine abV.trans ?_;rw[hl]);rfl
 |none=>
  rw[Ir (by exact ID)];refine List.lookup_append.trans ?_;by_cases e:G3=n
  ·subst e;simp[hl]
  ·refine Fw _ e ?_;dsimp only[HK];exact(HO.mpr e).symm▸Option.or_none
theorem aaR(h:Hn (Hn HG×HI)):(tZ n i h).map (·.1)=h.map (·.1):=by
 induction h with
 |nil=>exact rfl
 |cons p h bY=>
  rw[oN];split
  ·rfl
  ·refine HS.trans ?_;(exact HS.symm▸bY.symm▸rfl)
theorem qz(h:Hn (Hn HG×HI)):(mn h n i).length<=h.length+1:=by
 unfold mn;by_cases e:(h.lookup n).isSome=Hq
 ·have:=HL Km (aaR (n:=n) (i:=i) h);rw[Hr,Hr]at this;exact(H5 e).symm▸this.symm▸J1 _
 ·exact(Ir e).symm▸HN.symm▸Io _
theorem acs:h.lookup n=Hu->n∉h.map (·.1):=by
 induction h with
 |nil=>intro _;exact nofun
 |cons p h bY=>
  intro e;rw[HK]at e;split at e
  ·cases e
  ·rename_i q;rw[HS,Hw,LR];exact⟨HO.mp q,bY e⟩
theorem mZ(hn:(h.map (·.1)).Nodup):((mn h n i).map (·.1)).Nodup:=by
 unfold mn;cases e:h.lookup n with
 |some j=>rw[H5 O2,aaR];exact hn
 |none=>
  rw[Ir (by exact ID),HJ,H8];refine l6 hn (HZ.mpr ⟨Ia,I9⟩) (λa ha b U q=>acs e ?_);obtain U:b=n:=by simpa using U
  exact U▸q▸ha
theorem acN(h:p∈di st):(p,jh st p)∈st.bG:=by
 refine aQ (HX.mp h) λq hq e=>?_;have R:q∈st.bG.filter λq=>decide (q.1=p):=KB.mpr ⟨hq,by simpa using e⟩;unfold jh;clear h e hq;cases hl:(st.bG.filter λq=>decide (q.1=p))with
 |nil=>rw[hl]at R;cases R
 |cons z zs=>
  have hz:z∈st.bG.filter λq=>decide (q.1=p):=by exact hl.symm▸.head _
  refine ew (KB.mp hz) λh1 h2=>?_;obtain h2:z.1=p:=by simpa using h2
  clear hz R q;subst h2;exact h1
theorem oF(hi:∀n,eX st n)(hh:DV.held=mn st.held n i)(hw:st.aC.length<=DV.aC.length)(h0:0<=i/\i.toNat<DV.aC.length):∀m,eX DV m:=by
 intro m j hj;rw[hh,ab2]at hj;split at hj
 ·cases hj;exact h0
 ·have:=hi m j hj;exact⟨this.1,I0 this.2 hw⟩
theorem nu(h:dR st n):0<=bg st n/\(bg st n).toNat<st.aC.length:=by
 refine aQ h λi h1 h2=>?_;have:bg st n=i:=by unfold bg;refine h1.symm▸?_;rfl
 exact this.symm▸h2
theorem aeE(f:α->Ig)(l:Hn α):(l.filter f).length+(l.filter λa=> !f a).length=l.length:=by
 induction l with
 |nil=>exact rfl
 |cons a l bY=>have:=bY;refine JN.symm▸JN.symm▸?_;cases f a<;>simp<;>lia -abstractProof
theorem Ch{l:Hn α}{a:α}(h:l.length<=k):(l++[a]).length<=k+1:=by exact HN.symm▸Jv h
variable{r:Row}
theorem qY(hi:Inv ps k st)(hn:w0 st r)(hop:∀p,r=.op p->p∈ps.map (·.1)):Inv ps (k+1) (d7 ps st r):=by
 have h':=hi.mono (J1 k);cases r with
 |op p=>
  obtain hu:di (d7 ps st (.op p))=di st++[p]:=HJ;refine⟨?_,?_,?_,hi.jr,hi.hn,?_,h'.held,h'.aC,h'.told,?_⟩
  ·refine hu.symm▸?_;intro q hq;rcases HD.mp hq with hq|hq
   ·exact hi.up q hq
   ·exact(HB.mp hq).symm▸(hop p rfl)
  ·refine hu.symm▸?_;rw[H8];exact l6 hi.wV (HZ.mpr ⟨Ia,I9⟩) (λa ha b U e=>hn (by rw[HB.mp U]at e;exact e▸ha))
  ·intro q hq;rcases HD.mp hq with hq|hq
   ·have:=hi.low q hq;exact M3 this (JT (LH _))
   ·exact(HB.mp hq).symm▸Int.lt_succ _
  ·show((st.bG++[(p,st.many)]).map (·.2)).Pairwise (·<·);rw[HJ,List.pairwise_append];refine l6 hi.asc (by simp) (λa ha b U=>aQ (HX.mp ha) λq hq o1=>?_);subst o1;obtain U:b=st.many:=by simpa using U
   exact U.symm▸hi.low q hq
  ·exact HN.symm▸List.length_singleton.symm▸Jv hi.gv
 |lay n p i=>exact⟨hi.up,hi.wV,hi.low,oF hi.jr rfl (by unfold d7;simp) (by unfold d7;simp),mZ hi.hn,hi.asc,Hs (qz _) (Jv hi.held),Ch hi.aC,h'.told,h'.gv⟩
 |copy n o p=>exact⟨hi.up,hi.wV,hi.low,oF hi.jr rfl (by unfold d7;simp) (by unfold d7;simp),mZ hi.hn,hi.asc,Hs (qz _) (Jv hi.held),Ch hi.aC,h'.told,h'.gv⟩
 |same n o=>exact⟨hi.up,hi.wV,hi.low,oF hi.jr rfl (Io _) (nu (show dR st o from hn)),mZ hi.hn,hi.asc,Hs (qz _) (Jv hi.held),h'.aC,h'.told,h'.gv⟩
 |add n o=>
  have a8:(d7 ps st (.add n o)).aC.length=st.aC.length:=by exact N6
  exact⟨hi.up,hi.wV,hi.low,λm j hj=>by exact a8.symm▸hi.jr m j hj,hi.hn,hi.asc,h'.held,by exact a8.symm▸h'.aC,h'.told,h'.gv⟩
 |tell n=>exact⟨hi.up,hi.wV,hi.low,hi.jr,hi.hn,hi.asc,h'.held,h'.aC,Ch hi.told,h'.gv⟩
 |give p=>obtain hs:=Np;refine⟨λq hq=>hi.up q ((hs.map _).subset hq),List.Nodup.sublist (hs.map _) hi.wV,λq hq=>hi.low q (hs.subset hq),hi.jr,hi.hn,hi.asc.sublist (hs.map _),h'.held,h'.aC,h'.told,?_⟩;show(st.given++((st.bG.filter (dC ps p)).map (·.2)).reverse).length+(st.bG.filter λq=> !dC ps p q).length<=k+1;rw[HN,JG,Hr,Ma,aeE];exact h'.gv
 |fork k=>exact h'
 |go k=>exact h'
 |fin=>exact h'
theorem ad2(hi:Inv ps k st)(h:(st.held.lookup n).isSome=Hq):dR st n:=by exact dz (IV.mp h) λi hl=>i12 i hl (hi.jr n i hl)
theorem qt(hi:Inv ps k st)(h:d1 st n=""):dR st n:=by
 refine ad2 hi ?_;unfold d1 at h;cases hl:st.held.lookup n with
 |none=>rw[hl]at h;exact IG (show"nothing"=""from h) (by decide)
 |some i=>rfl
theorem tx{p:Ig}{a b:I2}(U:b≠"")(h:(bif p then a else b)=""):p=Hq:=by
 cases p with
 |true=>rfl
 |false=>exact IG h U
theorem lu(hi:Inv ps k st)(h:aS ps st r=""):w0 st r:=by
 cases r with
 |op p=>intro hp;unfold aS at h;dsimp only at h;rw[Ip hp]at h;exact IG (show"open already"=""from h) (by decide)
 |lay n p i=>show p∈di st;exact IW (tx (by decide) h)
 |copy n o p=>
  by_cases hl:d1 st o=""
  ·unfold aS at h;dsimp only at h;rw[hl]at h;exact⟨qt hi hl,IW (tx (by decide) h)⟩
  ·unfold aS at h;dsimp only at h;rw[HO.mpr hl]at h;exact IG h hl
 |same n o=>exact ad2 hi (tx (by decide) h)
 |add n o=>
  by_cases hl:d1 st n=""
  ·unfold aS at h;dsimp only at h;rw[hl]at h;exact⟨qt hi hl,qt hi h⟩
  ·unfold aS at h;dsimp only at h;rw[HO.mpr hl]at h;exact IG h hl
 |tell n=>exact qt hi h
 |give p=>trivial
 |fork k=>trivial
 |go k=>trivial
 |fin=>trivial
def c0(ps:aP)(size:HI):Row->Prop
 |.op p=>p∈ps.map (·.1)
 |.lay n p i=>bV n/\p∈ps.map (·.1)/\ -1000000000000000000<=i/\i<=1000000000000000000
 |.copy n o p=>bV n/\bV o/\p∈ps.map (·.1)
 |.same n o=>bV n/\bV o
 |.add n o=>bV n/\bV o
 |.tell n=>bV n
 |.give p=>p∈ps.map (·.1)
 |.fork k=>0<=k/\k<=size
 |.go k=>0<=k/\k<=size
 |.fin=>N9
noncomputable def wZ:Row->Ig
 |.fork _=>HH
 |.go _=>HH
 |.fin=>HH
 |_=>Hq
theorem c0.any{a b:HI}(h:c0 ps a r)(R:wZ r=Hq):c0 ps b r:=by cases r<;>first|exact h|cases R
theorem c0.more{a b:HI}(h:c0 ps a r)(R:a<=b):c0 ps b r:=by cases r<;>first|exact h|exact⟨h.1,HY h.2 R⟩
structure uH(ps:aP)(st:eP)(r:Row):Prop where
 wr:aS ps st r=""
 mv:wZ r=Hq
 ok:c0 ps 0 r
theorem agg{p:Hn HG×Hp (Hn HG)}(H:aZ (p::ps)):up (p::ps) p.1=[p.1]:=by
 obtain⟨n,o⟩:=p;refine((w6 (A:=[]) (fq:=ps) H rfl).1).trans ?_;cases o with
 |none=>rfl
 |some q=>exact nomatch H.out [] ps n q rfl
noncomputable def pw:IB:=PySem.Challenge.pw_uf010022_10
noncomputable def ow0(x:HP):Ig:=x=="_law_rows"||x=="do"||x=="give"||x=="_law_homes"
def K0(x:HP):Hp Ho:=
 bif x=="LETTERS"then hb (.str "abcdefghijklmnopqrstuvwxyz")else bif x=="MOST_LETTERS"then hb (.int 8)else bif x=="MOST_PLOTS"then hb (.int 12)else bif x=="MOST_ROWS"then hb (.int 60)else
 bif x=="MOST_NUMBER"then hb (.int 1000000000000000000)else bif x=="MOST_STEPS"then hb (.int 1000000)else bif x=="SHAPES"then hb (dictOf [("open",.tuple [.str "plot"]),("lay",.tuple [.str "name",.str "plot",.str "number"]),("copy",.tuple [.str "name",.str "name",.str "plot"]),("same",.tuple [.str "name",.str "name"]),
  ("add",.tuple [.str "name",.str "name"]),("tell",.tuple [.str "name"]),("give",.tuple [.str "plot"]),("fork",.tuple [.str "place"]),("go",.tuple [.str "place"]),("end",.tuple [])])else Hu
def PP(S:Hp (Hv×Hv×Hv×Hn Ho))(A:HP->Hp (Hv×Hn HP)):JP:=⟨pw,K0,ow0,S,A⟩
noncomputable abbrev D(x:Ho):VV:=.val ⟨x,.d⟩
noncomputable abbrev sh(x:Ho):VV:=.val ⟨x,.s⟩
noncomputable abbrev iV(i:HI):V:=⟨.int i,.d⟩
noncomputable def cK(l:Hn HI)(k:HI):HI:=(l[k.toNat]?).getD 0
noncomputable def aq(l:Hn HI):Hn Ho:=l.map .int
variable{S0:Hp (Hv×Hv×Hv×Hn Ho)}{A0:HP->Hp (Hv×Hn HP)}{b0:Ig}
theorem apJ(l:Hn HI)(k:HI)(hk:0<=k):(gH (PP S0 A0) c b0).F "_law_at" [.list (aq l),.int k]=hb (.int (cK l k)):=by
 have e:(aq l).length=l.length:=Hr _;have g:decide (k<((aq l).length:HI))=Hq->ec (.list (aq l)) (.int k)=hb (.int (cK l k)):=λh=>by
  have h:=IW h;unfold cK aq at*;show eZ _ k=_;refine(eR hk).trans ?_;(refine Iz.trans ?_;rw[HQ (by lia -abstractProof)]);rfl
 exact xF λt=>.br (decide (k<((aq l).length:HI))) (λh=>fX 0 (g h)<|t _ rfl) λh=>t (.int 0) (by unfold cK;rw[Jw (by have:=Ji h;lia -abstractProof)];rfl)
theorem ahP(i:HI):(gH (PP S0 A0) c b0).F "_law_whole" [.int i]=hb (.bool Hq):=by kernel_rfl
noncomputable def gD(c k:HI):HI:=c+31*k*(c%2)
def fU(c k:HI)(n:HG):HI:=gD c k/26%(9-n)
def eQ(c k:HI)(n:HG):Hn HG:=(H0 (fU c k n).toNat).map λ(j:HG)=>97+((gD c k+5*(j:HI)*(1+gD c k%3))%26).toNat
def lQ(c k:HI)(n:HG):HI:=bif c%2==0 then c/4%(fU c k n+1)else fU c k n
def eJ(c k:HI)(s:Hn HG):Hn HG:=(eQ c k s.length).take (lQ c k s.length).toNat++s++(eQ c k s.length).drop (lQ c k s.length).toNat
variable{n:HG}
theorem nW(x k:HI)(h2:n<=8):0<=fU x k n/\fU x k n<9:=by obtain hn:(0:HI)<9-(n:HG):=LU (Jj.mpr (K6 h2));exact⟨Ic _ (Kb (LU (Jj.mpr (K6 h2)))),by have:=H9 (gD x k/26) hn;exact IJ this (Mj 9 (H3 _))⟩
theorem amy(x k:HI)(h2:n<=8):0<=lQ x k n/\lQ x k n<=fU x k n:=by
 obtain hz:=nW x k h2;unfold lQ;cases x%2==0 with
 |true=>exact⟨Ic _ (by exact Kb (JT hz.1)),by have:=H9 (x/4) (show 0<fU x k n+1 by exact JT hz.1);simp only[Ku];exact(OF 1).mp this⟩
 |false=>exact⟨hz.1,LH _⟩
theorem aet(x k:HI)(h2:n<=8):pG (HA "") (List.map (λj:HG=>JF (S [97+((gD x k+5*(j:HI)*(1+gD x k%3))%26).toNat])) (H0 (fU x k n).toNat))=hb (.str (S (eQ x k n))):=by
 obtain hz:=nW x k h2;obtain e:=ahC (ts:=(H0 (fU x k n).toNat).map λj:HG=>[97+((gD x k+5*(j:HI)*(1+gD x k%3))%26).toNat]) (by rw[aj0];simp;exact HY (IZ hz.2) (by decide)) (by simp;exact HY (IZ hz.2) (by decide)) (λt ht x hx=>by
  refine aQ (HX.mp ht) λj o1 o2=>?_;subst o2;exact(HB.mp hx).symm▸HC (Ij (DK (n:=25) _ (by decide) (by decide)) 97) (by decide))
 refine ahB.symm▸?_;rw[Ii,aj0]at e;exact e
theorem afo{l:Hn HG}:vF lo hi Hu ⟨.str (S l),f⟩=hb ⟨.str (S ((l.take (fh hi l.length)).drop (eH lo l.length))),.d⟩:=by obtain e:vF lo hi Hu ⟨.str (S l),f⟩=e7 lo hi Hu ⟨.str (S l),f⟩:=rfl;refine e.trans ?_;unfold e7;refine(show kr lo hi Hu (V.x ⟨.str (S l),f⟩)=_ from aeA lo hi l).symm▸?_;rfl
theorem aeH(h0:0<=i)(h1:i<26):ec (.str (S qg)) (.int i)=hb (.str (S [97+i.toNat])):=by show Jo _ (eZ qg _)=_;refine(ac3 h0 h1).symm▸?_;rfl
theorem aid(x k:HI)(h2:n<=8):(eQ x k n).length<=9:=by unfold eQ;rw[Hr,Iy];exact JE.mpr (IZ (nW x k h2).2)
theorem ajK{a:Hn HG}(ha:a.length<=400)(U:b.length<=400):gE .Add ⟨.str (S a),f⟩ ⟨.str (S b),g⟩=hb ⟨.str (S (a++b)),.d⟩:=afe (Hs (Js ha U) (by decide))
theorem kB{l:Hn α}(h:l.length<=n):(l.take k).length<=n:=Hs (O3 k l) h
theorem adP{l:Hn α}(h:l.length<=n):(l.drop k).length<=n:=Hs (by exact Li.symm▸M1 _ _) h
variable{a:HG}
theorem alY{l m:Hn α}{b:HG}(h:l.length<=a)(k:m.length<=b):(l++m).length<=a+b:=by exact HN.symm▸Js h k
theorem ahs(x k:HI)(s:Hn HG)(hk:0<=k)(h1:1<=s.length)(h2:s.length<=8):(gH (PP S0 A0) c b0).F "_law_called" [.int x,.int k,.str (S s)]=hb (.str (S (eJ x k s))):=by
 have hz:=nW x k h2;have Bw:=amy x k h2;have ht:=aid x k h2;have Ah:(smallInt (31*k)||smallInt (x%2))=Hq:=by rw[show smallInt (x%2)=Hq from ab1 (IJ (by decide) (Ic _ (by decide))) (M3 (H9 _ (by decide)) (by decide)),NK]
 have R:smallInt (1+gD x k%3)=Hq:=ab1 (IJ (by decide) (w7 (a:=1) (b:=3) _ (by decide) (by decide) (by decide)).1) (Ka (w7 (a:=1) (b:=3) _ (by decide) (by decide) (by decide)).2 (by decide));have hl:((eQ x k s.length).length:HI)=fU x k s.length:=by simp[eQ];exact Qg hz.1
 have e1:∀q,lQ x k s.length=q->vF Hu (hb q) Hu ⟨.str (S (eQ x k s.length)),.d⟩=hb ⟨.str (S ((eQ x k s.length).take q.toNat)),.d⟩:=λq h=>by
  subst h;refine afo.trans<|(ai2 Bw.1 (hl▸Bw.2)).symm▸?_;rfl
 have e2:∀q,lQ x k s.length=q->vF (hb q) Hu Hu ⟨.str (S (eQ x k s.length)),.d⟩=hb ⟨.str (S ((eQ x k s.length).drop q.toNat)),.d⟩:=λq h=>by
  subst h;refine afo.trans<|(adZ Bw.1 (hl▸Bw.2)).symm▸?_;exact JD▸rfl
 let aH (q:HI) (h:lQ x k s.length=q) (t:(y:Ho)->y=.str (S (eJ x k s))->Z):Z:=fV 0 (e1 q h)<|fV 0 (ajK (a:=(eQ x k s.length).take q.toNat) (b:=s) (f:=.d) (g:=.d) (Hs (kB ht) (by decide)) (Hs h2 (by decide)))<|fV 0 (e2 q h)<|fV 0 (ajK (a:=(eQ x k s.length).take q.toNat++s) (b:=(eQ x k s.length).drop q.toNat) (f:=.d) (g:=.d) (Hs (alY (kB ht) h2) (by decide)) (Hs (adP ht) (by decide)))<|t (.str (S ((eQ x k s.length).take q.toNat++s++(eQ x k s.length).drop q.toNat))) (by subst h;rfl);exact xF λt=>fV 1 (ajR Ah)<|fV 4 (ji (a:=gD x k/26) (b:=9-(s.length:HG)) (LU (Jj.mpr (K6 h2))))<|fI 0 (fZ (k:=fU x k s.length) hz.1 (HY (IZ hz.2) (by decide)))<|wi _ (H0 (fU x k s.length).toNat) (λj=>.int (j:HG)) (λ_=>rfl) (λj=>hb (.str (S [97+((gD x k+5*(j:HI)*(1+gD x k%3))%26).toNat]))) _ (Kx Je _) (λj _=>fV 2 (ajR (a:=5*j) (b:=1+gD x k%3) (by rw[R,NK]))<|fX 2 (aeH (i:=(gD x k+5*j*(1+gD x k%3))%26) (Ic _ (by decide)) (H9 _ (by decide)))<|.q _ (Mg (hb (JF (S [97+((gD x k+5*j*(1+gD x k%3))%26).toNat])))))<|fX 0 (aet x k h2)<|.br (x%2==0) (λh=>fV 2 (ji (a:=x/4) (b:=fU x k s.length+1) (JT hz.1))<|aH (x/4%(fU x k s.length+1)) (by unfold lQ;refine h.symm▸?_;rfl) t) λh=>aH (fU x k s.length) (by unfold lQ;refine h.symm▸?_;rfl) t
section
def mF(l:Hn HI):HI:=bif cK l 0/4%8==1 then 12-cK l 0/32%8 else 1+cK l 0%4
def mE(l:Hn HI)(k:HG):HI:=bif cK l 1%4==3&&decide (k>0)then k-1 else(cK l 1+7*k)*48271%10007%(k+1)
def lx(l:Hn HI)(k:HG):Hn HG:=eJ (cK l 1/3) k [97+k]
def mS(l:Hn HI)(k:HG):Hp (Hn HG):=bif decide (mE l k<k)then hb (lx l (mE l k).toNat)else Hu
def j6:Hp (Hn HG)->Ho
 |none=>.none
 |some n=>.str (S n)
def aF(p:Hn HG×Hp (Hn HG)):Ho:=.tuple [.str (S p.1),j6 p.2]
def uI(l:Hn HI)(k:HG):Hn HG×Hp (Hn HG):=(lx l k,mS l k)
def en(l:Hn HI):Hn (Hn HG×Hp (Hn HG)):=(H0 (mF l).toNat).map (uI l)
theorem adV(l:Hn HI):1<=mF l/\mF l<=12:=by
 unfold mF;cases cK l 0/4%8==1 with
 |true=>simp only[Ku];exact emc _ (by decide) (by decide) (by decide)
 |false=>simp only[Kg];exact w7 _ (by decide) (by decide) (by decide)
theorem adD(l:Hn HI)(k:HG):0<=mE l k/\mE l k<=k:=by
 unfold mE;by_cases hk:k>0
 ·cases cK l 1%4==3 with
  |true=>refine(Ip hk).symm▸?_;(rw[MG];dsimp only[Ku]);exact⟨O4 (I4.mpr hk),Mj _ (by decide)⟩
  |false=>exact⟨Ic _ (by exact K9 (Nk rfl)),by have:=H9 ((cK l 1+7*k)*48271%10007) (show 0<(k:HI)+1 by exact LG _);simp only[Og,Kg];exact KF this⟩
 ·refine(Iw hk).symm▸?_;rw[Bool.and_false];exact⟨Ic _ (by exact K9 (Nk rfl)),by have:=H9 ((cK l 1+7*k)*48271%10007) (show 0<(k:HI)+1 by exact LG _);simp only[Kg];exact KF this⟩
def qT(c:JC):Prop:=∀(l:Hn HI)(k:HI),0<=k->c.F "_law_at" [.list (aq l),.int k]=hb (.int (cK l k))
def lP(c:JC):Prop:=∀(x k:HI)(s:Hn HG),0<=k->1<=s.length->s.length<=8->c.F "_law_called" [.int x,.int k,.str (S s)]=hb (.str (S (eJ x k s)))
theorem agV(p:α->Ho)(g:HG->α)(h0:0<=i)(h1:i<n):ec (.list (((H0 n).map g).map p)) (.int i)=hb (p (g i.toNat)):=by show eZ _ i=_;(refine(eR h0).symm▸Iz.symm▸?_;refine(jK _ ((Lk h0).mpr h1)).symm▸?_);rfl
theorem gt_int(j:HG):decide (j>0)=decide ((j:HI)>0):=by
 by_cases h:j>0
 ·exact(Ip h).trans<|(Ip (Jt.mpr h)).symm
 ·exact(Iw h).trans<|(Iw (λq=>h (Jj.mp q))).symm
theorem aeT(h:j<12):ec (.str (S ((H0 12).map (97+·)))) (.int j)=hb (.str (S [97+j])):=by show Jo _ (eZ ((H0 12).map (97+·)) (j:HI))=_;rw[eR (by exact H3 _),jK _ (by exact NR h)];rfl
theorem cZ(p:Hn HG×Hp (Hn HG)):flat (aF p)=Hq:=by obtain⟨_,_|_⟩:=p<;>rfl
theorem yz(h:(H0 n)[j]? =hb a):a=j/\j<n:=by obtain⟨h1,h2⟩:=H2.mp h;rw[Ps]at h2;rw[Iy]at h1;exact⟨h2.symm,h1⟩
def AL(l:Hn HI)(s:Hn Ho):En:=[("_law_script",sh (.list (aq l))),("_law_plots_here",.own (.lst s))]
def Bd(l:Hn HI)(j:HG)(s:Hn Ho):Prop:=s=((H0 j).map (uI l)).map aF
section
variable{l:Hn HI}{s:Hn Ho}(zP:qT c)(CY:lP c)(dn:a=j/\j<12)(dF:Bd l j s)
theorem aif(dn:a=j)(dF:Bd l j s):Bd l (j+1) (s++[aF (lx l a,mS l a)]):=by subst dn;unfold Bd at dF⊢;rw[kM,HJ,<-dF];rfl
theorem alW(dn:a=j/\j<12)(dF:Bd l j s):s.length<10000:=by rw[dF,Hr,Hr,Iy];exact I0 dn.2 (by decide)
theorem anj{q:HI}(dn:a=j/\j<12)(dF:Bd l j s)(hq:mE l a=q)(hl:decide (q<(a:HI))=Hq):ec (.list s) (.int q)=hb (aF (uI l q.toNat)):=by obtain⟨rfl,_⟩:=dn;subst hq;exact dF.symm▸agV aF (uI l) (adD l a).1 (IW hl)
def zPk{q:HI}(hq:mE l a=q)(e:(l':En)->(∃y,Bd l (j+1) y/\AL l y=l')->Z):Z:=
 let aH (k:HG) (o:Hp (Hn HG)) (ho:mS l a=o):Z:=fX k (zP l 1 (by decide))<|fX 1 (aeT (j:=a) (dn.1.symm▸dn.2))<|fX 0 (CY (cK l 1/3) a [97+a] (H3 _) (Io 1) (by show 1<=8;decide))<|fC 1 (alW dn dF)<|e (AL l (s++[aF (lx l a,o)])) ⟨s++[aF (lx l a,o)],ho▸aif dn.1 dF,rfl⟩
 .br (decide (q<(a:HI))) (λg=>fX 0 (anj dn dF hq g)<|fL (cZ (uI l q.toNat))<|aH 1 (hb (lx l q.toNat)) (by unfold mS;(refine hq.symm▸g.symm▸?_);rfl)) λg=>aH 0 Hu (by unfold mS;(refine hq.symm▸g.symm▸?_);rfl)
def zPl(e:(l':En)->(∃y,Bd l (j+1) y/\AL l y=l')->Z):Z:=
 fX 0 (zP l 1 (by decide))<|fV 3 (ji (a:=(cK l 1+7*a)*48271%10007) (b:=a+1) (LG _))<|fS 0<|fX 0 (zP l 1 (by decide))<|.br (cK l 1%4==3&&decide ((a:HI)>0)) (λg=>zPk zP CY dn dF (q:=a-1) (by unfold mE;rw[gt_int,g];rfl) e) λg=>zPk zP CY dn dF (q:=(cK l 1+7*a)*48271%10007%(a+1)) (by unfold mE;rw[gt_int,g];rfl) e
end
theorem ahE(ha:qT c)(hc:lP c)(l:Hn HI):(gH (PP S0 A0) c b0).F "_law_plots" [.list (aq l)]=hb (.list ((en l).map aF)):=by have a0:=ha l 0 (by decide);have R:=adV l;let aH (k:HG) (n:HI) (h:mF l=n) (t:(y:Ho)->y=.list ((en l).map aF)->Z):Z:=fI k (fZ (k:=n) (h▸HY (by decide) R.1) (h▸HY R.2 (by decide)))<|fr (H0 n.toNat) (p:=λj=>.int (j:HG)) (λ_=>rfl) (λ_ s=>AL l s) (λk s=>Bd l k s) [] rfl (λj a h s r e=>zPl ha hc (a:=a) (by have:=yz h;lia -abstractProof) r e) λs r=>t (.list s) (by(refine r.symm▸Iy.symm▸h▸?_);rfl);exact xF λt=>fX 0 a0<|fX 2 a0<|.br (cK l 0/4%8==1) (λh=>fX 0 a0<|aH 3 (12-cK l 0/32%8) (by unfold mF;refine h.symm▸?_;rfl) t) λh=>aH 0 (1+cK l 0%4) (by unfold mF;refine h.symm▸?_;rfl) t
end
def iB(l:Hn HI):HI:=bif cK l 2/5%16==3 then 60 else 1+cK l 2%5
noncomputable def nU(k:HG):Hn HG:=[97+k/26,122-k%26]
abbrev aB(n:Hn HG):Ho:=.str (S n)
def jz(l:Hn HI)(ps:Hn (Hn HG×Hp (Hn HG))):Hn (Hn HG):=
 bif cK l 2/5%4==1 then(ps.map (·.1)).take (iB l).toNat else(H0 (iB l).toNat).map λ(k:HG)=>eJ (cK l 2/80) k (nU k)
theorem acg(l:Hn HI):1<=iB l/\iB l<=60:=by
 unfold iB;cases cK l 2/5%16==3 with
 |true=>simp only[Ku];exact⟨by decide,by decide⟩
 |false=>simp only[Kg];exact w7 _ (by decide) (by decide) (by decide)
theorem kD(ns:Hn (Hn HG)):b7 (ns.map aB)=Hq:=by
 induction ns with
 |nil=>exact rfl
 |cons n ns bY=>exact HS.symm▸bY
theorem alw(h:k<78):eZ [97,98,99] ((k:HI)/26)=hb (97+k/26):=by
 refine(eR (by exact Qh (H3 _) (by decide))).trans ?_;refine(show((k:HI)/26).toNat=k/26 by exact rfl).symm▸?_;have:k/26<3:=Pd h;generalize k/26=j at this
 match j,this with
 |0,_=>rfl
 |1,_=>rfl
 |2,_=>rfl
theorem ahI(k:HG):eZ ((H0 26).map (122-·)) ((k:HI)%26)=hb (122-k%26):=by exact(eR (H3 _)).trans<|jK _ (Ru _ (by decide))
theorem aa4{n:HI}(h:0<=n)(hf:b7 B=Hq):vF Hu (hb n) Hu ⟨.list B,f⟩=hb ⟨.list (B.take n.toNat),.d⟩:=by
 obtain e:vF Hu (hb n) Hu ⟨.list B,f⟩=e7 Hu (hb n) Hu ⟨.list B,f⟩:=rfl;refine e.trans ?_;unfold e7;refine(show kr Hu (hb n) Hu (V.x ⟨.list B,f⟩)=_ from slice_list Hu (hb n) B).symm▸?_;obtain h2:(B.take (fh (hb n) B.length)).drop (eH Hu B.length)=B.take n.toNat:=by
  refine aiK.symm▸Oi.symm▸?_;simp only[fh];refine(Ir (MQ h)).symm▸?_;by_cases hle:n.toNat<=B.length
  ·exact Kx (HL _ (Jk hle)) _
  ·refine(KP (P7 hle)).symm▸?_;(refine(Kl (Io _)).trans ?_;rw[Kl (P7 hle)])
 refine h2.symm▸?_;obtain h3:b7 (B.take n.toNat)=Hq:=by
  have:∀(ys:Hn Ho)(m:HG),b7 ys=Hq->b7 (ys.take m)=Hq:=by
   intro ys;induction ys with
   |nil=>intro m _;refine List.take_nil.symm▸?_;rfl
   |cons y ys ih=>
    intro m hy;cases m with
    |zero=>rfl
    |succ m=>rw[b7,HU]at hy;(dsimp only[List.take_succ_cons];rw[b7,hy.1,ih m hy.2]);rfl
  exact this B _ hf
 show hb (V.eL _ _)=_;unfold V.eL;refine h3.symm▸?_;rfl
theorem adR(h:j<78):gE .Add ⟨.str (S [97+j/26]),.d⟩ ⟨.str (S [122-j%26]),.d⟩=hb ⟨.str (S (nU j)),.d⟩/\ec (.str (S [97,98,99])) (.int ((j:HI)/26))=hb (.str (S [97+j/26]))/\ec (.str (S ((H0 26).map (122-·)))) (.int ((j:HI)%26))=hb (.str (S [122-j%26])):=by
 refine l6 (afe (IE rfl)) ?_ ?_
 ·show Jo _ (eZ [97,98,99] ((j:HI)/26))=_;refine(alw h).symm▸?_;rfl
 ·show Jo _ (eZ ((H0 26).map (122-·)) ((j:HI)%26))=_;rw[ahI];rfl
theorem aie(ha:qT c)(hc:lP c)(l:Hn HI)(ps:Hn (Hn HG×Hp (Hn HG))):(gH (PP S0 A0) c b0).F "_law_names" [.list (aq l),.list (ps.map aF)]=hb (.list ((jz l ps).map aB)):=by have R:=acg l;have ht:∀n,iB l=n->_:=λn h=>aa4 (B:=ps.map λp=>aB p.1) (n:=n) (f:=.d) (h▸HY (by decide) R.1) (by(refine(show(ps.map λp=>aB p.1)=(ps.map λp=>p.1).map aB by refine Ii.symm▸?_;rfl).symm▸?_);exact kD _);have hs {n:HI} (hn:iB l=n) {j:HG} (h:j∈H0 n.toNat):=adR (j:=j) (by have:=JK.mp h;exact DC (hn▸R) this (by decide));let aH (n:HI) (hn:iB l=n) (t:(y:Ho)->y=.list ((jz l ps).map aB)->Z):Z:=.br (cK l 2/5%4==1) (λg=>lM ps cZ (λp=>aB p.1)<|fV 0 (ht n hn)<|t (.list ((ps.map λp=>aB p.1).take n.toNat)) (by unfold jz;(refine g.symm▸?_;(rw[hn];dsimp only[Ku];rw[Lw,Ii]));rfl)) λg=>fI 0 (fZ (k:=n) (hn▸HY (by decide) R.1) (hn▸HY R.2 (by decide)))<|wi _ (H0 n.toNat) (λj=>.int (j:HG)) (λ_=>rfl) (λj=>hb (aB (eJ (cK l 2/80) j (nU j)))) _ (Kx Je _) (λj h=>fX 2 (hs hn h).2.1<|fX 1 (hs hn h).2.2<|fV 0 (hs hn h).1<|fX 0 (hc (cK l 2/80) j (nU j) (H3 _) (IE rfl) (IE rfl))<|.q _ (Mg (hb (aB (eJ (cK l 2/80) j (nU j))))))<|t (.list ((H0 n.toNat).map λ(k:HG)=>aB (eJ (cK l 2/80) k (nU k)))) (by unfold jz;(refine g.symm▸?_;(rw[hn];dsimp only[Kg];rw[Ii]));rfl);exact xF λt=>fX 0 (ha l 2 (by decide))<|.br (cK l 2/5%16==3) (λh=>aH 60 (by unfold iB;refine h.symm▸?_;rfl) t) λh=>aH (1+cK l 2%5) (by unfold iB;refine h.symm▸?_;rfl) t
def Row.parts:Row->I2×Hn Ho
 |.op p=>("open",[aB p])
 |.lay n p i=>("lay",[aB n,aB p,.int i])
 |.copy n o p=>("copy",[aB n,aB o,aB p])
 |.same n o=>("same",[aB n,aB o])
 |.add n o=>("add",[aB n,aB o])
 |.tell n=>("tell",[aB n])
 |.give p=>("give",[aB p])
 |.fork k=>("fork",[.int k])
 |.go k=>("go",[.int k])
 |.fin=>("end",[])
noncomputable def av(r:Row):Ho:=.tuple (.str (HA r.parts.1)::r.parts.2)
noncomputable def cP(c:HI):HI:=(c/10*48271+11)%1000003
def vz(c:HI):HI:=bif cP c%4==1 then c/10%2000000000000000001-1000000000000000000 else c/10%19-9
noncomputable def dv(ns:Hn (Hn HG))(i:HI):Hn HG:=(ns[(i%ns.length).toNat]?).getD []
noncomputable def gw(ps:Hn (Hn HG×Hp (Hn HG)))(i:HI):Hn HG:=((ps[(i%ps.length).toNat]?).getD ([],Hu)).1
noncomputable def ank(k:HG)(nm ot pl:Hn HG)(num at':HI):Row:=
 match k with
 |0=>.op pl
 |1=>.lay nm pl num
 |2=>.copy nm ot pl
 |3=>.same nm ot
 |4=>.add nm ot
 |5=>.tell nm
 |6=>.give pl
 |7=>.fork at'
 |8=>.go at'
 |_=>.fin
def lg(c:HI)(ps:Hn (Hn HG×Hp (Hn HG)))(ns:Hn (Hn HG))(size:HI):Row:=
 ank (c%10).toNat (dv ns (cP c)) (dv ns (cP c/7)) (gw ps (cP c/61)) (vz c) (cP c/1013%(size+1))
variable{ns:Hn (Hn HG)}
theorem ab6(h:0<ns.length)(i:HI):eZ (ns.map aB) (i%ns.length)=hb (aB (dv ns i)):=by obtain h1:=Ic i (show(ns.length:HI)≠0 by exact K7.mpr h);obtain h2:=H9 i (show 0<(ns.length:HI) by exact Jt.mpr h);refine(eR h1).trans (Iz.trans ?_);unfold dv;refine(HQ ((Lz h).mpr h2)).symm▸?_;rfl
theorem abK{ps:Hn (Hn HG×Hp (Hn HG))}(h:0<ps.length)(i:HI):∃o,eZ (ps.map aF) (i%ps.length)=hb (aF (gw ps i,o)):=by obtain h1:=Ic i (show(ps.length:HI)≠0 by exact K7.mpr h);obtain h2:=H9 i (show 0<(ps.length:HI) by exact Jt.mpr h);refine⟨((ps[(i%ps.length).toNat]?).getD ([],Hu)).2,?_⟩;refine(eR h1).trans (Iz.trans ?_);unfold gw;refine(HQ ((Lz h).mpr h2)).symm▸?_;rfl
theorem ten{P:HG->Prop}(h0:P 0)(h1:P 1)(h2:P 2)(h3:P 3)(h4:P 4)(h5:P 5)(h6:P 6)(h7:P 7)(h8:P 8)(h9:P 9):∀k,k<10->P k:=by
 intro k hk;rcases k with _|_|_|_|_|_|_|_|_|_|k
 ·exact h0
 ·exact h1
 ·exact h2
 ·exact h3
 ·exact h4
 ·exact h5
 ·exact h6
 ·exact h7
 ·exact h8
 ·exact h9
 ·exact IG hk (JH.mpr (Jl 10 k))
theorem agO(rs:Hn Row)(h0:0<=i)(h1:i<rs.length):ec (.list (rs.map av)) (.int i)=hb (av ((rs[i.toNat]?).getD .fin)):=by show eZ _ i=_;(refine(eR h0).symm▸Iz.symm▸?_;refine(HQ ((Lk h0).mpr h1)).symm▸?_);rfl
theorem fe(r:Row):flat (av r)=Hq:=by cases r<;>rfl
section
variable(p5:0<ns.length)
include p5
theorem akT(i:HI):gE .Mod ⟨.int i,.d⟩ ⟨.int ((ns.map aB).length:HG),.d⟩=hb ⟨.int (i%((ns.map aB).length:HG)),.d⟩:=ji (by rw[Hr];exact Jt.mpr p5)
theorem aof(i:HI):ec (.list (ns.map aB)) (.int (i%((ns.map aB).length:HG)))=hb (aB (dv ns i)):=by rw[Hr];exact ab6 p5 i
abbrev BF(k:HG)(i:HI)(z:Z):Z:=fV k (akT p5 i)<|fX 0 (aof p5 i) z
end
variable{o:Hp (Hn HG)}
def zRk{x:HI}{ps:Hn (Hn HG×Hp (Hn HG))}{size:HI}(hp:0<ps.length)(hn:0<ns.length)(hz:0<size+1)(ek:x%10=k)(p1:ec (.list (ps.map aF)) (.int (cP x/61%((ps.map aF).length:HG)))=hb (aF (gw ps (cP x/61),o)))(t:(y:Ho)->y=av (lg x ps ns size)->Z):Z:=
 let aH (m:HG) (n:HI) (h:vz x=n):Z:=fV m (ji (a:=cP x/1013) (b:=size+1) hz)<|fV 0 (show gE .Mod ⟨.int x,.d⟩ ⟨.int 10,.d⟩=hb ⟨.int (k:HG),.d⟩from ek▸ji (by decide))<|t (av (ank k (dv ns (cP x)) (dv ns (cP x/7)) (gw ps (cP x/61)) n (cP x/1013%(size+1)))) (by unfold lg;(refine ek.symm▸h.symm▸?_);rfl)
 BF hn 4 (cP x)<|BF hn 2 (cP x/7)<|fV 2 (ji (a:=cP x/61) (b:=((ps.map aF).length:HG)) (by rw[Hr];exact Jt.mpr hp))<|fX 0 p1<|fL (cZ (gw ps (cP x/61),o))<|.br (cP x%4==1) (λh=>aH 5 (x/10%2000000000000000001-1000000000000000000) (by unfold vz;refine h.symm▸?_;rfl)) λh=>aH 2 (x/10%19-9) (by unfold vz;refine h.symm▸?_;rfl)
theorem anU(x:HI)(ps:Hn (Hn HG×Hp (Hn HG)))(ns:Hn (Hn HG))(size:HI)(hp:0<ps.length)(hn:0<ns.length)(hz:0<=size):
  (gH (PP S0 A0) c b0).F "_law_row" [.int x,.list (ps.map aF),.list (ns.map aB),.int size]=hb (av (lg x ps ns size)):=by
 obtain⟨o,p1⟩:=abK hp (cP x/61);rw[<-Hr aF]at p1;obtain⟨k,hk,ek⟩:∃k:HG,k<10/\x%10=k:=⟨(x%10).toNat,(Lk (Ic _ (by decide))).mpr (H9 _ (by decide)),(Lu (Ic _ (by decide))).symm⟩;revert k;refine ten ?_ ?_ ?_ ?_ ?_ ?_ ?_ ?_ ?_ ?_<;>exactλe=>xF λt=>zRk hp hn (JT hz) e p1 t
def hV(l:Hn HI):Ig:=cK l 0/4%16==9
theorem aaD(ha:qT c)(l:Hn HI):(gH (PP S0 A0) c b0).F "_law_is_plain" [.list (aq l)]=hb (.bool (hV l)):=xF λt=>fX 0 (ha l 0 (by decide))<|t _ rfl
theorem ac6(i:HI):(gH (PP S0 A0) c b0).F "is_whole" [.int i]=hb (.bool Hq):=by kernel_rfl
noncomputable def vL(n:HI):HI:=if n<0 then -n else n
def mR(n:HI):HI:=bif vL n/14%4==1 then vL n/56%61 else vL n%14
noncomputable def Cr(n:HI):HG->HI
 |0=>n/14
 |j+1=>Cr n j/8
noncomputable def oR(m:HI):HI:=(([0,1,0,2,0-1,0,0-6,1000000000000]:Hn HI)[m.toNat]?).getD 0
def ag6(n:HI)(j:HG):HI:=oR ((Cr n j+5*j)%8)
def iL(n:HI):Hn HI:=(H0 (mR n).toNat).map (ag6 n)
theorem agG(n:HI):0<=mR n/\mR n<=60:=by
 unfold mR;cases vL n/14%4==1 with
 |true=>simp only[Ku];exact Bj _ (by decide) (by decide)
 |false=>simp only[Kg];exact Bj _ (by decide) (by decide)
theorem afs{m:HI}(h0:0<=m)(h1:m<8):eZ (([0,1,0,2,0-1,0,0-6,1000000000000]:Hn HI).map IL) m=hb (.int (oR m)):=by refine(eR h0).trans (Iz.trans ?_);unfold oR;rw[HQ (by simp;exact Int.lt_of_add_one_le h1)];rfl
def inE(m:HI)(s:Hn Ho):En:=[("_law_number",D (.int m)),("_law_found",.own (.lst s))]
def Fz(n:HI)(j:HG)(s:HI×Hn Ho):Prop:=s.1=Cr n j/\s.2=aq ((H0 j).map (ag6 n))
theorem aiL{n:HI}{s:HI×Hn Ho}(h:a=j)(r:Fz n j s):Fz n (j+1) (s.1/8,s.2++[.int (oR ((s.1+5*a)%8))]):=by subst h;refine⟨HL (·/8) r.1,?_⟩;rw[kM,r.2,r.1];unfold aq;rw[HJ];rfl
theorem agM(n:HI):(gH (PP S0 A0) c b0).F "_law_inputs" [.int n]=hb (.list (aq (iL n))):=by
 have R:=agG n;have hl {j:HG} {s:HI×Hn Ho} (r:Fz n j s) (h:j<100):s.2.length<10000:=by rw[r.2];unfold aq;rw[Hr,Hr,Iy];exact Nat.lt_add_left _ h
 let aH (k:HG) (m:HI) (h:mR n=m) (t:(y:Ho)->y=.list (aq (iL n))->Z):Z:=
  fI k (fZ (k:=m) (h▸R.1) (h▸HY R.2 (by decide)))<|fr (H0 m.toNat) (p:=λj=>.int (j:HG)) (λ_=>rfl) (λ_ s=>inE s.1 s.2) (Fz n) (n/14,[]) ⟨rfl,rfl⟩
  (λj a g s r e=>fX 5 (show ec (.list (([0,1,0,2,0-1,0,0-6,1000000000000]:Hn HI).map IL)) (.int ((s.1+5*a)%8))=hb (.int (oR ((s.1+5*a)%8)))from afs (Ic _ (by decide)) (H9 _ (by decide)))<|fC 0 (hl r (by have:=(yz g).2;exact DC (h▸R) this (by decide)))<|e (inE (s.1/8) (s.2++[.int (oR ((s.1+5*a)%8))])) ⟨_,aiL (yz g).1 r,rfl⟩) λs r=>t (.list s.2) (by(refine r.2.symm▸?_;refine Iy.symm▸h▸?_);rfl)
 exact xF λt=>.br (vL n/14%4==1) (λh=>aH 4 (vL n/56%61) (by unfold mR;refine h.symm▸?_;rfl) t) λh=>aH 1 (vL n%14) (by unfold mR;refine h.symm▸?_;rfl) t
def d5(l:Hn HI):HI:=12+cK l 5%40
def q8(l:Hn HI):Row:=bif cK l 4/2%3==1 then .go (d5 l+1)else .tell [122,122]
def qJ(l:Hn HI):Hn Row:=((H0 (d5 l).toNat).map λ(k:HG)=>Row.fork (k+1))++[.fork (d5 l+2),.fin,q8 l]
theorem eK(rs:Hn Row):b7 (rs.map av)=Hq:=by
 induction rs with
 |nil=>exact rfl
 |cons r rs bY=>rw[HS,b7,fe,bY];rfl
theorem zk(h:B.length+ys.length<=1000)(hf:b7 (B++ys)=Hq):gE .Add ⟨.list B,f⟩ ⟨.list ys,g⟩=hb ⟨.list (B++ys),.d⟩:=by show Jo _ (if B.length+ys.length<=sizeLine then hb (Mw (B++ys))else Hu)=_;rw[H5 (Hs h (by decide))];show hb (V.eL _ _)=_;unfold V.eL;refine hf.symm▸?_;rfl
theorem oK(rs:Hn Row)(f:Fl):V.eL (rs.map av) f=⟨.list (rs.map av),.d⟩:=by unfold V.eL;rw[eK];rfl
theorem aa0(l:Hn HI)(r:Row):(((H0 (d5 l).toNat).map λ(k:HG)=>Row.fork (k+1))++[.fork (d5 l+2),.fin,r]).map av=((H0 (d5 l).toNat).map λ(k:HG)=>av (.fork (k+1)))++[.fork (d5 l+2),.fin,r].map av:=by(refine HJ.trans ?_;rw[Ii]);rfl
theorem aii(ha:qT c)(l:Hn HI):(gH (PP S0 A0) c b0).F "_law_forks" [.list (aq l)]=hb (.list ((qJ l).map av)):=by
 have R:12<=d5 l/\d5 l<=51:=by exact w7 _ (by decide) (by decide) (by decide)
 let aH (k:HG) (r:Row) (h:q8 l=r) (t:(y:Ho)->y=.list ((qJ l).map av)->Z):Z:=fV k (show(if 3<=sizeLine then hb (V.eL ([.fork (d5 l+2),.fin,r].map av) .d)else Hu)=hb ⟨.list ([.fork (d5 l+2),.fin,r].map av),.d⟩ by(refine iT (by decide) ?_;rw[oK]))<|fV 0 (zk (B:=(H0 (d5 l).toNat).map λ(k:HG)=>av (.fork (k+1))) (ys:=[.fork (d5 l+2),.fin,r].map av) (f:=.d) (g:=.d) (by rw[Hr,Iy];exact Im (DP (n:=997) R (by decide)) 3) (aa0 l r▸eK _))<|t (.list (((H0 (d5 l).toNat).map λ(k:HG)=>av (.fork (k+1)))++[.fork (d5 l+2),.fin,r].map av)) (by rw[<-aa0,<-h];rfl);exact xF λt=>fX 0 (ha l 5 (by decide))<|fI 2 (fZ (k:=d5 l) (HY (by decide) R.1) (HY R.2 (by decide)))<|lM (H0 (d5 l).toNat) (p:=λj=>.int (j:HG)) (λ_=>rfl) (λk=>av (.fork (k+1)))<|fX 1 (ha l 4 (by decide))<|.br (cK l 4/2%3==1) (λh=>aH 5 (.go (d5 l+1)) (by unfold q8;refine h.symm▸?_;rfl) t) λh=>aH 3 (.tell [122,122]) (by unfold q8;refine h.symm▸?_;rfl) t
def dJ(l:Hn HI):HI:=20+cK l 4/2%36
def g7(l:Hn HI)(k:HG):Hn HG:=eJ (cK l 5) k (nU k)
def lC(l:Hn HI):Hn HG:=bif cK l 4/72%3==1 then g7 l (cK l 4/216%dJ l).toNat else g7 l (dJ l).toNat
def ko(l:Hn HI)(p:Hn HG):Hn Row:=.op p::(H0 (dJ l).toNat).map λ(k:HG)=>Row.lay (g7 l k) p k
theorem abY(l:Hn HI):20<=dJ l/\dJ l<=55:=by exact w7 _ (by decide) (by decide) (by decide)
theorem aa9(l:Hn HI)(p:Hn HG):(ko l p).map av=[av (.op p)]++(H0 (dJ l).toNat).map λ(k:HG)=>av (.lay (g7 l k) p k):=by(refine HS.trans ?_;rw[Ii]);rfl
theorem akY(ha:qT c)(hc:lP c)(l:Hn HI)(p:Hn HG×Hp (Hn HG))(pt:Hn (Hn HG×Hp (Hn HG))):
  (gH (PP S0 A0) c b0).F "_law_many" [.list (aq l),.list ((p::pt).map aF)]=hb (.list ((ko l p.1++[Row.tell (lC l),Row.give p.1]).map av)):=by
 have R:=abY l;have a4:=ha l 4 (by decide);have q:=H9 (cK l 4/216) (show 0<dJ l by exact IJ (by decide) R.1);have at' (i:HI) (h0:0<=i) (h1:i<=dJ l):=agV aB (g7 l) (n:=(dJ l+1).toNat) (i:=i) h0 (IJ (JT h1) (LO _));have hs {j:HG} (h:j∈H0 (dJ l+1).toNat):=adR (j:=j) (by have:=JK.mp h;exact I0 this (JE.mpr (HY (Md R.2 1) (by decide))));have r2:=zk (B:=[av (.op p.1)]) (ys:=(H0 (dJ l).toNat).map λ(k:HG)=>av (.lay (g7 l k) p.1 k)) (f:=.d) (g:=.d) (by rw[Hr,Iy];exact Ij (DP (n:=999) R (by decide)) 1) (aa9 l p.1▸eK _);rw[<-aa9]at r2;have r3 (n:Hn HG):=zk (B:=(ko l p.1).map av) (ys:=[Row.tell n,Row.give p.1].map av) (f:=.d) (g:=.d) (by unfold ko;rw[Hr,Ju,Hr,Iy];show _+2<=1000;exact Im (DP (n:=997) R (by decide)) 3) (by exact HJ▸eK _);let aH (n:Hn HG) (h:lC l=n) (t:(y:Ho)->y=.list ((ko l p.1++[Row.tell (lC l),Row.give p.1]).map av)->Z):Z:=fV 5 (r3 n)<|t (.list ((ko l p.1).map av++[Row.tell n,Row.give p.1].map av)) (by(refine h.symm▸?_;exact HJ.symm▸rfl));exact xF λt=>fX 0 a4<|fX 3 (ha l 5 (by decide))<|fI 1 (fZ (k:=dJ l+1) (Mz (HY (by decide) R.1) (by decide)) (Ka R.2 (by decide)))<|wi _ (H0 (dJ l+1).toNat) (λj=>.int (j:HG)) (λ_=>rfl) (λj=>hb (aB (g7 l j))) (((H0 (dJ l+1).toNat).map (g7 l)).map aB) ((Kx Je _).trans (by refine Ii.symm▸?_;rfl)) (λj h=>fX 1 (hs h).2.1<|fX 1 (hs h).2.2<|fV 0 (hs h).1<|fX 0 (hc (cK l 5) j (nU j) (H3 _) (IE rfl) (IE rfl))<|.q _ (Mg (hb (aB (g7 l j)))))<|fI 4 (fZ (k:=dJ l) (HY (by decide) R.1) (HY R.2 (by decide)))<|wi _ (H0 (dJ l).toNat) (λj=>.int (j:HG)) (λ_=>rfl) (λj=>hb (av (.lay (g7 l j) p.1 j))) _ (Kx Je _) (λj h=>fX 0 (at' j (H3 _) (by have:=JK.mp h;exact IZ (NU.mp this)))<|.q _ (Mg (hb (av (.lay (g7 l j) p.1 j)))))<|fV 0 r2<|fX 0 (at' (dJ l) (HY (by decide) R.1) (LH _))<|fX 0 a4<|.br (cK l 4/72%3==1) (λh=>fX 0 a4<|fV 1 (ji (a:=cK l 4/216) (b:=dJ l) (IJ (by decide) R.1))<|fX 0 (at' (cK l 4/216%dJ l) (Ic _ (Kb (IJ (by decide) R.1))) (IZ q))<|aH (g7 l (cK l 4/216%dJ l).toNat) (by unfold lC;refine h.symm▸?_;rfl) t) λh=>aH (g7 l (dJ l).toNat) (by unfold lC;refine h.symm▸?_;rfl) t
theorem aew(f:β->α->β)(b:β){B:Hn α}{x:α}(h:B[j]? =hb x):(B.take (j+1)).foldl f b=f ((B.take j).foldl f b) x:=by(refine KD.symm▸h.symm▸List.foldl_append.symm▸?_);rfl
theorem ain(n:HG):de Hu Hu (hb (-1)) n=(H0 n).map λk=>n-1-k:=by
 delta de Jr
 simp only[LW,show¬((-1:HI)>0) by decide,K8];unfold ON;simp only[show¬((-1:HI)>0) by decide,K8];obtain e:(if(n:HI)-1> -1 then((n:HI)-1- -1- -1-1)/(- -1)else 0).toNat=n:=by
  split
  ·rw[show(- -1:HI)=1 by decide,OQ];rw[O5,O5,PD,Mu];rfl
  ·exact(n0 ‹_›).symm
 refine e.symm▸J0 λk hk=>?_;have:=JK.mp hk;exact apF _ _
theorem agu{f g:α->Hp β}{B:Hn α}:(∀x∈B,f x=g x)->B.filterMap f=B.filterMap g:=by
 induction B with
 |nil=>intro _;exact rfl
 |cons x B bY=>intro h;(exact I1.symm▸I1.symm▸(h x (.head _)).symm▸(bY λy hy=>h y (.tail _ hy)).symm▸rfl)
theorem afS(B:Hn α):((H0 B.length).map λk=>B.length-1-k).filterMap (B[·]?)=B.reverse:=by
 refine Pq.symm▸?_;have:∀k∈H0 B.length,((λx=>B[x]?)∘λk=>B.length-1-k) k=B.reverse[k]? :=by intro k hk;have:=JK.mp hk;refine(List.getElem?_reverse this).symm▸?_;rfl
 refine(agu this).symm▸?_;obtain h2:=pick_run B.reverse 0 B.length (by simp);obtain h3:(H0 B.length).map (λk=>0+k)=H0 B.length:=by simp
 rw[h3]at h2;exact h2.trans (Oi.trans ((Kl (by simp))))
theorem vX{l:Hn Ho}(h:b7 l.reverse=Hq):vF Hu Hu (hb (-1)) ⟨.list l,f⟩=hb ⟨.list l.reverse,.d⟩:=by show e7 Hu Hu (hb (-1)) ⟨.list l,f⟩=_;show Jo _ (if(hb (-1):Hp HI)=hb 0 then Hu else hb (Mw ((de Hu Hu (hb (-1)) l.length).filterMap (l[·]?))))=_;rw[Ir (by decide),ain,afS];show hb (V.eL l.reverse f)=_;unfold V.eL;refine h.symm▸?_;rfl
theorem fv{p:α->Ho}(h:∀a,flat (p a)=Hq)(B:Hn α):b7 (B.map p)=Hq:=by rw[aeX];intro x hx;refine aQ (HX.mp hx) λa o1 o2=>?_;subst o2;exact h a
theorem ajT(a b:Hn HG):(S a==S b)=decide (a=b):=by(rw[N7];refine KA.trans ?_;rw[Ik]);exact apX
variable{n:Hn HG}
theorem anq:bW .Eq (aB n) (j6 o)=hb (decide (hb n=o)):=by
 cases o with
 |none=>rfl
 |some x=>show hb (S n==S x)=_;rw[ajT];simp
noncomputable def sg(s:Hn (Hn HG)×Hp (Hn HG))(p:Hn HG×Hp (Hn HG)):Hn (Hn HG)×Hp (Hn HG):=bif decide (hb p.1=s.2)then(s.1++[p.1],p.2)else s
theorem aaN:∀(B:aP)(fs:Hn (Hn HG))(cur:Hp (Hn HG)),(B.foldl sg (fs,cur)).1=fs++scan B cur:=by
 intro B;induction B with
 |nil=>exactλfs cur=>(IA fs).symm
 |cons x B ih=>
  intro fs cur;rw[gZ];show(List.foldl sg (bif decide (hb x.1=(fs,cur).2)then((fs,cur).1++[x.1],x.2)else(fs,cur)) B).1=_;by_cases e:hb x.1=cur
  ·refine(Ip (show hb x.1=(fs,cur).2 from e)).symm▸?_;rw[H5 e,Ku,ih,I6];rfl
  ·refine(Iw (show¬hb x.1=(fs,cur).2 from e)).symm▸?_;(rw[Ir e];dsimp only[Kg];rw[ih])
theorem agB(fs:Hn (Hn HG)×Hp (Hn HG)):∀B:aP,(B.foldl sg fs).1.length<=fs.1.length+B.length:=by intro B;obtain⟨fs,cur⟩:=fs;rw[aaN,HN];exact Ij (scan_len B cur) _
def El(fs:Hn Ho)(o:Hp (Hn HG)):En:=[("_law_found",.own (.lst fs)),("_law_plot",D (j6 o))]
def Ee(ps:aP)(n:Hn HG)(j:HG)(s:Hn (Hn HG)×Hp (Hn HG)):Prop:=s=(ps.take j).foldl sg ([],hb n)
section
variable{p:Hn HG×Hp (Hn HG)}{s:Hn (Hn HG)×Hp (Hn HG)}(gP:ps[j]? =hb p)(dF:Ee ps n j s)
include gP dF
theorem ad1:Ee ps n (j+1) (sg s p):=by unfold Ee at dF⊢;(exact(aew sg ([],hb n) gP).symm▸dF.symm▸rfl)
theorem alb(hl:ps.length<=900):(s.1.map aB).length<10000:=by rw[Hr,dF];exact HC (Hs (agB ([],hb n) (ps.take j)) (Hs (JY (QY _)) (kB hl))) (by decide)
def zOu(hl:ps.length<=900)(e:(l:En)->(∃y,Ee ps n (j+1) y/\El (y.1.map aB) y.2=l)->Z):Z:=
 bB 0 (anq (n:=p.1) (o:=s.2)) (λh=>fC 0 (alb gP dF hl)<|e (El (s.1.map aB++[aB p.1]) p.2) ⟨sg s p,ad1 gP dF,by unfold sg;(refine h.symm▸?_;dsimp only[Ku]);show El (List.map aB (s.1++[p.1])) p.2=_;refine HJ.symm▸?_;rfl⟩) λh=>e (El (s.1.map aB) s.2) ⟨sg s p,ad1 gP dF,by unfold sg;refine h.symm▸?_;rfl⟩
end
theorem aaI(ps:aP)(hl:ps.length<=900)(n:Hn HG):(gH (PP S0 A0) c b0).F "_law_outward" [.list (ps.map aF),aB n]=hb (.list ((up ps n).map aB)):=by
 have fl:b7 (ps.reverse.map aF)=Hq:=fv cZ _;have hr:ps.reverse.length<=900:=by exact JG.symm▸hl
 exact xF λt=>fV 0 (show vF Hu Hu (hb (-1)) ⟨.list (ps.map aF),.s⟩=hb ⟨.list (ps.reverse.map aF),.d⟩ by rw[Kn]at fl⊢;exact vX fl)<|fr ps.reverse cZ (λ_ s=>El (s.1.map aB) s.2) (Ee ps.reverse n) ([],hb n) rfl (λj p h s r e=>zOu h r hr e) λs r=>t (.list (s.1.map aB)) (by(refine r.symm▸?_;(refine JD.symm▸?_;rw[aaN]));rfl)
def B9(p:Hn HG×Hp (Hn HG)):HP×Ho:=(S p.1,j6 p.2)
theorem akO:ps.lookup n=hb o->ec (dictOf (ps.map B9)) (.str (S n))=hb (j6 o):=by
 induction ps with
 |nil=>intro h;exact no h
 |cons p ps bY=>
  intro h;rw[HK]at h;show atKey (S n) ((.str (S p.1),j6 p.2)::(ps.map B9).map λp=>(.str p.1,p.2))=_;dsimp only[atKey];by_cases e:n=p.1
  ·subst e;rw[Ih]at h;exact(H5 rfl).symm▸(H4 h)▸rfl
  ·rw[HO.mpr e]at h;exact(Ir λq=>e (jt q).symm).symm▸bY h
theorem aau{l:Hn α}(h:l.Nodup){i:HG}{a:α}(hi:l[i]? =hb a):a∉l.take i:=by
 intro R;refine dz (Nf R) λj hj=>?_;have hj':j<i:=by have:=(H2.mp hj).1;rw[J9]at this;exact I0 this (Mm _ _)
 rw[List.getElem?_take,H5 hj']at hj;have:=(PE (H2.mp hj).1 h).mp (hj.trans hi.symm);exact IG this (Jq hj')
def m0(ps:aP):Hn (Ho×Ho):=(ps.map B9).map λp=>(.str p.1,p.2)
theorem ahF:n∉ps.map (·.1)->dw (S n) (m0 ps)=HH:=by
 induction ps with
 |nil=>intro _;exact rfl
 |cons p ps bY=>intro h;rw[HS,Hw,LR]at h;show(decide (S p.1=S n)||dw (S n) (m0 ps))=_;refine(bY h.2).symm▸(Iw λe=>h.1 (jt e).symm).symm▸?_;rfl
theorem aiO{p:Hn HG×Hp (Hn HG)}(h:p.1∉ps.map (·.1)):lh (S p.1) (j6 p.2) (m0 ps)=m0 (ps++[p]):=by unfold lh;refine(ahF h).symm▸?_;unfold m0;(refine HJ.symm▸HJ.symm▸?_);rfl
theorem ac2(ps:aP):dQ (m0 ps)=Hq:=gf _ _ _
theorem ae9(o:Hp (Hn HG)):bW .IsNot (j6 o) .none=hb o.isSome:=by cases o<;>rfl
theorem abD(o:Hp (Hn HG)):flat (j6 o)=Hq:=by cases o<;>rfl
def Gh(n:Hn HG)(d:Hn (Ho×Ho)):En:=[("outer",.own (.tree Hu (.dict d))),("plot",D (aB n))]
def owE(d:Hn (Ho×Ho))(o:Hp (Hn HG))(fs:Hn Ho):En:=[("outer",.own (.tree Hu (.dict d))),("plot",D (j6 o)),("found",.own (.lst fs))]
theorem aiW(H:aZ ps){p:Hn HG×Hp (Hn HG)}(hp:ps[j]? =hb p):lh (S p.1) (j6 p.2) (m0 (ps.take j))=m0 (ps.take (j+1)):=by(refine(aiO (ps:=ps.take j) (p:=p) (by exact Lw.symm▸aau H.nd (by(refine Iz.trans ?_;rw[hp]);rfl))).trans ?_;(refine KD.symm▸hp.symm▸?_));rfl
theorem aio(H:aZ ps)(j:HG):(m0 (ps.take j)).length<10000:=by unfold m0;rw[Hr,Hr];exact HC (kB H.len) (by decide)
abbrev Gl:=Hn (Ho×Ho)×Hp (Hn HG)×Hn Ho×HG
def Gr(ps:aP)(u:Hn (Hn HG))(x:Gl):Prop:=x.1=m0 ps/\x.2.1=u[x.2.2.2]? /\x.2.2.1=(u.take x.2.2.2).map aB
section
variable{u:Hn (Hn HG)}{x:Gl}(dF:Gr ps u x)
include dF
theorem aiu(h:x.2.1.isSome=Hq):Gr ps u (x.1,u[x.2.2.2+1]?,x.2.2.1++[j6 x.2.1],x.2.2.2+1):=by obtain⟨h1,h2,h3⟩:=dF;refine⟨h1,rfl,?_⟩;obtain⟨z,hz⟩:=IV.mp h;(refine h3.symm▸KD.symm▸h2▸hz.symm▸HJ.symm▸?_);rfl
theorem anz(EI:zS ps u)(h:x.2.1.isSome=Hq):ec (.dict x.1) (j6 x.2.1)=hb (j6 u[x.2.2.2+1]?):=by obtain⟨z,hz⟩:=IV.mp h;rw[hz,dF.1];exact akO (EI _ z (dF.2.1▸hz))
theorem anM(h:x.2.1.isSome=Hq):x.2.2.2<u.length:=by obtain⟨z,hz⟩:=IV.mp h;exact(H2.mp (dF.2.1▸hz)).1
theorem akV(h:u.length<=12):x.2.2.1.length<10000:=by rw[dF.2.2,Hr];exact HC (kB h) (by decide)
theorem amG(h:x.2.1.isSome=HH):x.2.2.1=u.map aB:=by
 rw[dF.2.2,Kl];cases e:x.2.1 with
 |none=>exact MD.mp (dF.2.1▸e)
 |some z=>rw[e]at h;cases h
end
def zOw{u:Hn (Hn HG)}{d:Hn (Ho×Ho)}(hd:d=m0 ps)(EI:zS ps u)(qb:u.length<=12)(h0:u[0]? =hb n)(t:(y:Ho)->y=.list (u.map aB)->Z):Z:=
 wh (λx:Gl=>owE x.1 x.2.1 x.2.2.1) (Gr ps u) (λx=>u.length-x.2.2.2) (d,hb n,[],0) ⟨hd,h0.symm,rfl⟩ (HC (Hs (M1 _ _) qb) (by decide)) λx r e=>bB 0 (ae9 x.2.1) (λh=>fC 0 (akV r qb)<|fX 0 (anz r EI h)<|fL (abD u[x.2.2.2+1]?)<|e (owE x.1 u[x.2.2.2+1]? (x.2.2.1++[j6 x.2.1])) ⟨_,aiu r h,Nat.sub_succ_lt_self _ _ (anM r h),rfl⟩) λh=>t (.list x.2.2.1) (HL _ (amG r h))
theorem ad9(H:aZ ps)(hn:n∈ps.map (·.1)):(gH (PP S0 A0) c b0).F "outward" [.list (ps.map aF),aB n]=hb (.list ((up ps n).map aB)):=by obtain⟨EI,h0⟩:=afO H _ (Io _) hn;exact xF λt=>fr ps cZ (λ_ (s:HG)=>Gh n (m0 (ps.take s))) (λj s=>s=j) 0 rfl (λj p h s r e=>fC 1 (ac2 (ps.take s))<|fC 1 (abD p.2)<|fC 0 (aio H s)<|e (Gh n (lh (S p.1) (j6 p.2) (m0 (ps.take s)))) ⟨s+1,HL (·+1) r,HL (Gh n) (aiW H (r▸h)).symm⟩) λs r=>zOw (d:=m0 (ps.take s)) (by(refine(show s=ps.length from r).symm▸?_;exact JD.symm▸rfl)) EI (vE H n) h0 t
noncomputable abbrev dr(x:I2):Ho:=.str (HA x)
def dm(p:Hn HG×HI):Ho:=.tuple [aB p.1,.int p.2]
noncomputable def xY(p:HI×HI):Ho:=.list [.int p.1,.int p.2]
def Cf(p:Hn HG×HI):HP×Ho:=(S p.1,.int p.2)
abbrev mc(h:Hn (Hn HG×HI)):Hn (Ho×Ho):=(h.map Cf).map λp=>(.str p.1,p.2)
abbrev eu(h:Hn (Hn HG×HI)):Ho:=.dict (mc h)
def fG(st:eP):Ho:=dictOf [("open",.list (st.bG.map dm)),("held",eu st.held),("worth",.list (st.aC.map xY)),("told",.list (aq st.told)),("given",.list (aq st.given)),("many",.int st.many)]
theorem ri(n:Hn HG)(h:Hn (Hn HG×HI)):ec (eu h) (aB n)=(h.lookup n).map .int:=by
 induction h with
 |nil=>exact rfl
 |cons p h bY=>
  rw[HK];by_cases e:n=p.1
  ·subst e;refine iT rfl ?_;rw[Ih];rfl
  ·refine iF (λq=>e (jt q).symm) ((HO.mpr e).symm▸?_);exact bY
theorem s8(n:Hn HG)(h:Hn (Hn HG×HI)):dw (S n) (mc h)=(h.lookup n).isSome:=by
 induction h with
 |nil=>exact rfl
 |cons p h bY=>
  show(decide (S p.1=S n)||dw (S n) (mc h))=_;refine bY.symm▸?_;rw[HK];by_cases e:n=p.1
  ·subst e;rw[Ip rfl,Ih];rfl
  ·refine(Iw λq=>e (jt q).symm).symm▸(HO.mpr e).symm▸?_;rfl
theorem og(n:Hn HG)(h:Hn (Hn HG×HI)):bW .In (aB n) (eu h)=hb (h.lookup n).isSome:=by show FJ (S n) (mc h)=_;rw[adC (λp:HP×Ho=>p.1) (λp=>p.2),s8]
theorem iN(n:Hn HG)(h:Hn (Hn HG×HI)):bW .NotIn (aB n) (eu h)=hb (!(h.lookup n).isSome):=by show(bW .In (aB n) (eu h)).map _=_;rw[og];rfl
theorem aip{f:α->Ho}(hf:∀a,plain k (f a))(B:Hn α):xV (B.map f)=Hq:=(tu _).mpr λx hx=>by
 refine aQ (HX.mp hx) λa o1 o2=>?_;subst o2;exact(hf a).1
theorem qN{p:α->Ho}(hp:∀a,plain k (p a))(hk:k<=60)(he:∀a b,IX (p b) (p a)=Hq↔a=b)(a:α)(l:Hn α)[La (a∈l)]:bW .In (p a) (.list (l.map p))=hb (decide (a∈l)):=by
 obtain h:(nd (p a)&&xV (l.map p)&&decide (min (Mb (l.map p)) (p a).depth<=60))=Hq:=by(refine((hp a).1).symm▸(aip hp l).symm▸?_);exact Ip (Hs (I7 _ _) (Hs (hp a).2 hk))
 refine iT h ?_;congr 1;rw[N7];refine NY.trans ?_;rw[decide_eq_true_iff];refine⟨λ⟨x,hx,e⟩=>?_,λh=>⟨p a,HX.mpr ⟨a,h,rfl⟩,(he a a).mpr rfl⟩⟩;refine aQ (HX.mp hx) λb U o1=>?_;subst o1;exact((he a b).mp e).symm▸U
theorem aan{p:α->Ho}(hp:∀a,plain k (p a))(hk:k<=60)(he:∀a b,IX (p b) (p a)=Hq↔a=b)(a:α)(l:Hn α)[La (a∈l)]:bW .NotIn (p a) (.list (l.map p))=hb (!decide (a∈l)):=by show(bW .In (p a) (.list (l.map p))).map _=_;rw[qN hp hk he];rfl
theorem q0(a b:Hn HG):IX (aB b) (aB a)=Hq↔a=b:=by(rw[aB,aB,IX];refine KA.trans ?_);exact⟨λh=>(jt h).symm,λh=>h▸rfl⟩
theorem adJ(a b:HI):IX (.int b) (.int a)=Hq↔a=b:=by(rw[IX];refine KA.trans ?_);exact⟨PV,PV⟩
theorem m6(n:Hn HG):plain 1 (aB n):=bR _
theorem kH(p:Hn HG)(l:Hn (Hn HG)):bW .In (aB p) (.list (l.map aB))=hb (decide (p∈l)):=qN m6 (by decide) q0 p l
theorem iX(p:Hn HG)(l:Hn (Hn HG)):bW .NotIn (aB p) (.list (l.map aB))=hb (!decide (p∈l)):=aan m6 (by decide) q0 p l
theorem adA(i:HI)(l:Hn HI):bW .In (.int i) (.list (aq l))=hb (decide (i∈l)):=qN (p:=IL) (λ_=>eT _) (by decide) adJ i l
theorem nC{p:α->Ho}{l:Hn α}{a:α}(h0:0<=i)(h:l[i.toNat]? =hb a):ec (.list (l.map p)) (.int i)=hb (p a):=by show eZ _ i=_;(refine(eR h0).symm▸Iz.symm▸?_;refine h.symm▸?_);rfl
theorem abd(h0:0<=i)(h:i.toNat<st.aC.length):st.aC[i.toNat]? =hb (df st i,eG st i):=by dsimp only[df,eG];refine(HQ h).symm▸?_;rfl
theorem dR.get(h:dR st n):ec (eu st.held) (aB n)=hb (.int (bg st n))/\ec (.list (st.aC.map xY)) (.int (bg st n))=hb (xY (df st (bg st n),eG st (bg st n))):=by
 refine ew (nu h) λh2 h3=>aQ h λi h1 o1=>⟨?_,nC h2 (abd h2 h3)⟩;obtain e:bg st n=i:=by unfold bg;refine h1.symm▸?_;rfl
 rw[ri,h1,e];rfl
theorem fE(q:Hn HG×HI):flat (dm q)=Hq:=rfl
theorem ad0(o:Hn (Hn HG×HI)):(o.map λp=>aB p.1)=(o.map (·.1)).map aB:=by refine Ii.symm▸?_;rfl
theorem abN(o:Hn (Hn HG×HI)):(o.map λp=>IL p.2)=aq (o.map (·.2)):=by refine Ii.symm▸?_;rfl
theorem ux{b:Ig}(h:(!b)=Hq):b=HH:=by cases b with|false=>rfl|true=>cases h
theorem mz{b:Ig}(h:(!b)=HH):b=Hq:=by cases b with|true=>rfl|false=>cases h
theorem alC(st:eP)(n:Hn HG)(hh:eX st n):(gH (PP S0 A0) c b0).F "_law_lack" [fG st,aB n]=hb (dr (d1 st n)):=by
 cases e:st.held.lookup n with
 |none=>exact xS λr=>fB 1 ((iN n st.held).trans (by refine e.symm▸?_;rfl):_=hb Hq)<|r "nothing" (by unfold d1;exact e▸rfl)
 |some i=>
  have hi:dR st n:=⟨i,e,hh i e⟩;have hl:d1 st n=bif decide (eG st (bg st n)∈st.bG.map (·.2))then""else"gone":=by delta d1 bg;refine e.symm▸?_;rfl
  exact xS λr=>fB 1 ((iN n st.held).trans (by refine e.symm▸?_;rfl):_=hb HH)<|fX 2 hi.get.1<|fX 0 hi.get.2<|lN fE (abN st.bG)<|bB 0 (adA (eG st (bg st n)) _) (λh=>r "" (by(refine hl.trans ?_;refine h.symm▸?_);rfl)) λh=>r "gone" (by(refine hl.trans ?_;refine h.symm▸?_);rfl)
def xe(c:JC):Prop:=∀(ps:aP)(n:Hn HG),ps.length<=900->c.F "_law_outward" [.list (ps.map aF),aB n]=hb (.list ((up ps n).map aB))
def agb(c:JC):Prop:=∀(st:eP)(n:Hn HG),eX st n->c.F "_law_lack" [fG st,aB n]=hb (dr (d1 st n))
theorem fk(st:eP)(n:Hn HG):d1 st n="nothing"∨d1 st n="gone"∨d1 st n="":=by
 unfold d1;cases st.held.lookup n with
 |none=>exact .inl rfl
 |some i=>
  cases e:decide (eG st i∈st.bG.map (·.2))with
  |true=>exact .inr (.inr (by simp[e]))
  |false=>exact .inr (.inl (by simp[e]))
abbrev zU(st:eP)(z:Z):Z:=lN fE (ad0 st.bG) z
theorem amK(l:Hn (Hn HG)):bW .NotEq (.list (l.map aB)) (.list [])=hb (!l.isEmpty):=by
 cases l with
 |nil=>rfl
 |cons x l=>(refine(Bc (b8 (cU λy hy=>by refine aQ (HX.mp hy) λa o1 o2=>?_;subst o2;exact bR _) (by decide)) (b8 (cU (k:=1) λy hy=>(Ia hy).elim) (by decide))).trans ?_;dsimp only[HS,IX,KE]);rfl
theorem ajj(ho:xe c)(hk:agb c)(ps:aP)(hl:ps.length<=900)(st:eP)(hh:∀n,eX st n)(r:Row):(gH (PP S0 A0) c b0).F "_law_wrong" [.list (ps.map aF),fG st,av r]=hb (dr (aS ps st r)):=by
 have lk:=λn=>hk st n (hh n);cases r with
 |op p=>
  have ho:=ho ps p hl;have w:aS ps st (.op p)=bif decide (p∈di st)then"open already"else match(up ps p)[1]?with
   |some q=>bif decide (q∈di st)then""else"not open"
   |none=>"":=rfl
  revert ho w;rcases up ps p with _|⟨a,_|⟨q,t⟩⟩<;>intro ho w
  ·exact xS λr=>zU st<|bB 2 (kH p (di st)) (λh=>r "open already" (by(refine w.trans ?_;refine h.symm▸?_);rfl)) λh=>fX 1 ho<|r "" (by(refine w.trans ?_;refine h.symm▸?_);rfl)
  ·exact xS λr=>zU st<|bB 2 (kH p (di st)) (λh=>r "open already" (by(refine w.trans ?_;refine h.symm▸?_);rfl)) λh=>fX 1 ho<|r "" (by(refine w.trans ?_;refine h.symm▸?_);rfl)
  ·have h1:bW .Gt (.int (((t.map aB).length+1+1:HG):HI)) (.int 1)=hb Hq:=HL hb (Ip (Int.compare_eq_gt.mp rfl));exact xS λr=>zU st<|bB 2 (kH p (di st)) (λh=>r "open already" (by(refine w.trans ?_;refine h.symm▸?_);rfl)) λh=>fX 1 ho<|fB 2 h1<|bB 1 (iX q (di st)) (λh2=>r "not open" (by(refine w.trans ?_;refine h.symm▸?_);exact HL (λb=>bif b then""else"not open") (ux h2))) λh2=>r "" (by(refine w.trans ?_;refine h.symm▸?_);exact HL (λb=>bif b then""else"not open") (mz h2))
 |lay n p i=>exact xS λr=>zU st<|bB 10 (iX p (di st)) (λh=>r "not open" (by rw[we,ux h];rfl)) λh=>r "" (by rw[we,mz h];rfl)
 |give p=>exact xS λr=>zU st<|bB 10 (iX p (di st)) (λh=>r "not open" (by rw[tA,ux h];rfl)) λh=>r "" (by rw[tA,mz h];rfl)
 |same n o=>exact xS λr=>zU st<|bB 5 (iN o st.held) (λh=>r "nothing" (by rw[tG,ux h];rfl)) λh=>r "" (by rw[tG,mz h];rfl)
 |tell n=>
  have w:=lk n;rcases fk st n with e|e|e<;>rw[e]at w
  ·exact xS λr=>zU st<|fX 7 w<|fX 2 w<|r _ e
  ·exact xS λr=>zU st<|fX 7 w<|fX 2 w<|r _ e
  ·exact xS λr=>zU st<|fX 7 w<|r _ e
 |add n o=>
  have w:=lk n;have w':=lk o;rcases fk st n with e|e|e<;>rw[e]at w
  ·exact xS λr=>zU st<|fX 7 w<|fX 2 w<|r "nothing" (by rw[lG,e];rfl)
  ·exact xS λr=>zU st<|fX 7 w<|fX 2 w<|r "gone" (by rw[lG,e];rfl)
  ·rcases fk st o with e'|e'|e'<;>rw[e']at w'
   ·exact xS λr=>zU st<|fX 7 w<|fX 2 w'<|fX 2 w'<|r "nothing" (by rw[lG,e,e'];rfl)
   ·exact xS λr=>zU st<|fX 7 w<|fX 2 w'<|fX 2 w'<|r "gone" (by rw[lG,e,e'];rfl)
   ·exact xS λr=>zU st<|fX 7 w<|fX 2 w'<|r "" (by rw[lG,e,e'];rfl)
 |copy n o p=>
  have w:=lk o;rcases fk st o with e|e|e<;>rw[e]at w
  ·exact xS λr=>zU st<|fX 7 w<|fX 2 w<|r "nothing" (by rw[kP,e];rfl)
  ·exact xS λr=>zU st<|fX 7 w<|fX 2 w<|r "gone" (by rw[kP,e];rfl)
  ·exact xS λr=>zU st<|fX 7 w<|bB 6 (iX p (di st)) (λh=>r "not open" (by rw[kP,e,ux h];rfl)) λh=>r "" (by rw[kP,e,mz h];rfl)
 |fork k=>exact xS λr=>zU st<|r _ rfl
 |go k=>exact xS λr=>zU st<|r _ rfl
 |fin=>
  have Ea:st.bG.isEmpty=(di st).isEmpty:=by unfold di;cases st.bG<;>rfl
  exact xS λr=>zU st<|bB 11 (amK (di st)) (λh=>r "left" (by rw[wa,Ea,ux h];rfl)) λh=>r "" (by rw[wa,Ea,mz h];rfl)
theorem ahM:(gH (PP S0 A0) c b0).T "_law_fresh"=hb (fG vQ):=by kernel_rfl
def apY(o h w t g:Ho)(m:HI):Ho:=dictOf [("open",o),("held",h),("worth",w),("told",t),("given",g),("many",.int m)]
theorem agJ(n:Hn HG)(i:HI)(h:Hn (Hn HG×HI)):lj (S n) (.int i) (mc h)=mc (tZ n i h):=by
 induction h with
 |nil=>exact rfl
 |cons p h bY=>
  show(if S p.1=S n then(JF (S p.1),IL i)::mc h else(.str (S p.1),.int p.2)::lj (S n) (.int i) (mc h))=mc (if p.1=n then(p.1,i)::h else p::tZ n i h);by_cases e:p.1=n
  ·refine iT (HL _ e)<|(H5 e).symm▸?_;rfl
  ·refine iF (λq=>e (jt q)) ?_;(refine(Ir e).symm▸bY.symm▸?_);rfl
theorem aci(n:Hn HG)(i:HI)(h:Hn (Hn HG×HI)):lh (S n) (.int i) (mc h)=mc (mn h n i):=by
 dsimp only[lh,mn];rw[s8];cases(h.lookup n).isSome with
 |true=>(refine iT rfl<|(H5 rfl).symm▸?_);exact agJ n i h
 |false=>(refine iF ID ?_;rw[Ir ID]);unfold mc;(refine HJ.symm▸HJ.symm▸?_);rfl
theorem adS(h:Hn (Hn HG×HI)):(mc h).length=h.length:=by rw[Hr,Hr]
theorem ahi(f:Hn HG×HI->Ig)(o:Hn (Hn HG×HI)):o.filterMap (λq=>bif f q then hb (dm q)else Hu)=(o.filter f).map dm:=by
 induction o with
 |nil=>exact rfl
 |cons q o bY=>(refine I1.symm▸JN.symm▸bY.symm▸?_);cases f q<;>rfl
theorem agZ(p:Hn HG)(o:Hn (Hn HG×HI)):o.filterMap (λq=>bif decide (q.1=p)then hb (IL q.2)else Hu)=aq ((o.filter λq=>decide (q.1=p)).map (·.2)):=by
 induction o with
 |nil=>exact rfl
 |cons q o bY=>(refine I1.symm▸JN.symm▸bY.symm▸?_);cases decide (q.1=p)<;>rfl
theorem ahk(h:p∈di st):ec (.list (st.bG.filterMap λq=>bif decide (q.1=p)then hb (IL q.2)else Hu)) (.int 0)=hb (.int (jh st p)):=by
 rw[agZ];refine aQ (HX.mp h) λq hq e=>?_;have R:q∈st.bG.filter λq=>decide (q.1=p):=KB.mpr ⟨hq,by simpa using e⟩;unfold jh;cases hl:(st.bG.filter λq=>decide (q.1=p))with
 |nil=>rw[hl]at R;cases R
 |cons z zs=>rfl
theorem agh(a b:Hn HG×HI):IX (dm b) (dm a)=Hq↔a=b:=by unfold dm;rw[IX,KE,KE,KE,QA,HU,q0,adJ];exact⟨λh=>MN h.1 h.2,λh=>by exact h.symm▸⟨rfl,rfl⟩⟩
theorem aaB(p:Hn HG×HI):plain 2 (dm p):=ic λx hx=>by
 exact Cn x hx (bR _) (eT _)
structure uC(st:eP):Prop where
 bG:st.bG.length<9000
 held:st.held.length<9000
 aC:st.aC.length<9000
 told:st.told.length<9000
 gv:st.given.length+st.bG.length<9000
theorem rC{p:α->Ho}{l:Hn α}(h:l.length<9000):(l.map p).length<10000:=by rw[Hr];exact I0 h (by decide)
abbrev x5(o:Hn Ho)(h:Hn (Ho×Ho))(w t g:Hn Ho)(m:HI):Ho:=apY (.list o) (.dict h) (.list w) (.list t) (.list g) m
abbrev zH(h:p∈di st)(z:Z):Z:=wi _ st.bG dm fE (λq=>bif decide (q.1=p)then hb (IL q.2)else Hu) _ rfl (λq _=>bB 0 (HL hb (ajT q.1 p)) (λh=>.q _ (by refine h.symm▸?_;rfl:hb (IL q.2)=bif decide (q.1=p)then hb (IL q.2)else Hu)) λh=>.q _ (by refine h.symm▸?_;rfl:Hu=bif decide (q.1=p)then hb (IL q.2)else Hu)) (fX 0 (ahk h) z)
abbrev zF(o:Hn (Hn HG×HI))(g:Hn HG×HI->Ig)(b:(q:Hn HG×HI)->q∈o->(g q=Hq->Z)×(g q=HH->Z)->Z)(z:Z):Z:=wi _ o dm fE (λq=>bif g q then hb (dm q)else Hu) _ (ahi g o) (λq h=>b q h (λe=>.q _ (by refine e.symm▸?_;rfl:hb (dm q)=bif g q then hb (dm q)else Hu),λe=>.q _ (by refine e.symm▸?_;rfl:Hu=bif g q then hb (dm q)else Hu))) z
theorem ahp(a b:Hn HI):aq a++(aq b).reverse=aq (a++b.reverse):=by unfold aq;(exact HJ.symm▸Kn.symm▸rfl)
theorem ake(st:eP)(n:Hn HG)(i j:HI):x5 (st.bG.map dm) (lh (S n) (.int ((st.aC.map xY).length:HG)) (mc st.held)) (st.aC.map xY++[xY (i,j)]) (aq st.told) (aq st.given) st.many=fG {st with held:=mn st.held n st.aC.length,aC:=st.aC++[(i,j)]}:=by rw[aci,Hr];unfold fG;refine HJ.symm▸?_;rfl
theorem al7(ho:xe c)(ps:aP)(hl:ps.length<=900)(st:eP)(aH:uC st)(r:Row)(hn:w0 st r):(gH (PP S0 A0) c b0).M "_law_deed" [.list (ps.map aF),fG st,av r]=hb (fG (d7 ps st r)):=by
 have hk:(mc st.held).length<10000:=by rw[adS];exact I0 aH.held (by decide)
 have pk:dQ (mc st.held)=Hq:=gf _ _ _;cases r with
 |op p=>exact xM (d:=fG st) λ_ r=>fC 5 (rC (p:=dm) aH.bG)<|r _ (HL (λl=>x5 l (mc st.held) (st.aC.map xY) (aq st.told) (aq st.given) (st.many+1)) (HJ (l₂:=[(p,st.many)])).symm)
 |lay n p i=>exact xM (d:=fG st) λ_ r=>zH hn<|fC 2 pk<|fC 2 hk<|fC 0 (rC (p:=xY) aH.aC)<|r _ (ake st n _ _)
 |copy n o p=>exact xM (d:=fG st) λ_ r=>fX 11 hn.1.get.1<|fX 0 hn.1.get.2<|zH hn.2<|fC 2 pk<|fC 2 hk<|fC 0 (rC (p:=xY) aH.aC)<|r _ (ake st n _ _)
 |same n o=>exact xM (d:=fG st) λ_ r=>fX 8 (dR.get hn).1<|fC 0 pk<|fC 2 hk<|r _ (HL (λh=>x5 (st.bG.map dm) h (st.aC.map xY) (aq st.told) (aq st.given) st.many) (aci n _ st.held))
 |add n o=>exact xM (d:=fG st) λ_ r=>fX 10 hn.2.get.1<|fX 0 hn.2.get.2<|fX 3 hn.1.get.1<|fX 0 hn.1.get.2<|fC 0 (nu hn.1).1<|r _ (HL (λw=>x5 (st.bG.map dm) (mc st.held) w (aq st.told) (aq st.given) st.many) (NI (f:=xY) (l:=st.aC) (i:=(bg st n).toNat) (a:=(df st (bg st n)+df st (bg st o),eG st (bg st n)))).symm)
 |tell n=>exact xM (d:=fG st) λ_ r=>fX 11 (dR.get hn).1<|fX 0 (dR.get hn).2<|fC 1 (rC (p:=.int) aH.told)<|r _ (HL (λt=>x5 (st.bG.map dm) (mc st.held) (st.aC.map xY) t (aq st.given) st.many) (HJ (f:=IL) (l₁:=st.told) (l₂:=[df st (bg st n)])).symm)
 |give p=>
  have hg:∀q∈st.bG,bW .NotIn (dm q) (.list ((st.bG.filter (dC ps p)).map dm))=hb (!dC ps p q):=λq hq=>by
   rw[show dC ps p q=decide (q∈(st.bG.filter (dC ps p))) by
    cases e:dC ps p q with
    |true=>exact(Ip (KB.mpr ⟨hq,e⟩)).symm
    |false=>exact(Iw λh=>nomatch((KB.mp h).2).symm.trans e).symm]
   exact aan aaB (by decide) agh q _
  have hr:b7 (aq ((st.bG.filter (dC ps p)).map (·.2))).reverse=Hq:=by exact Kn▸fv (λ_=>rfl) _
  have hn:(aq st.given).length+(aq ((st.bG.filter (dC ps p)).map (·.2))).reverse.length<10000:=by unfold aq;rw[Hr,JG,Hr,Hr];exact I0 (HC (Ij (KY _ _) _) aH.gv) (by decide)
  exact xM (d:=fG st) λ_ r=>zF st.bG (dC ps p) (λq _ kQ=>fX 2 (ho ps q.1 hl)<|bB 0 (kH p (up ps q.1)) kQ.1 kQ.2)<|lN fE (abN (st.bG.filter (dC ps p)))<|fV 0 (vX (f:=.d) hr)<|fC 0 hr<|fC 0 hn<|
   zF st.bG (λq=> !dC ps p q) (λq hq kQ=>bB 0 (hg q hq) kQ.1 kQ.2)<|fC 1 (fv fE (st.bG.filter λq=> !dC ps p q))<|r _ (HL (λg=>x5 ((st.bG.filter λq=> !dC ps p q).map dm) (mc st.held) (st.aC.map xY) (aq st.told) g st.many) (ahp st.given _))
 |_=>exact xM (d:=fG st) λ_ r=>r _ rfl
theorem adE(x:I2):(HA x==HA "")=(x==""):=by(rw[N7];refine KA.trans ?_;rw[KA]);refine⟨λh=>?_,λh=>HL _ h⟩;rw[OV,OV]at h;obtain h:=HL (λs=>s.cps.toList) h;simpa using h
theorem ad3(x:I2):bW .Eq (dr x) (dr "")=hb (x==""):=HL hb (adE x)
theorem qk(x:I2):bW .NotEq (dr x) (dr "")=hb (!(x=="")):=HL (λb=>hb (!b)) (adE x)
theorem jg(h:0<ns.length)(i:HI):dv ns i∈ns:=by obtain h1:=Ic i (show(ns.length:HI)≠0 by exact K7.mpr h);obtain h2:=H9 i (show 0<(ns.length:HI) by exact Jt.mpr h);have:(i%ns.length).toNat<ns.length:=(Lz h).mpr h2;unfold dv;refine(HQ this).symm▸?_;exact KM this
theorem rn(h:0<ps.length)(i:HI):gw ps i∈ps.map (·.1):=by obtain h1:=Ic i (show(ps.length:HI)≠0 by exact K7.mpr h);obtain h2:=H9 i (show 0<(ps.length:HI) by exact Jt.mpr h);have:(i%ps.length).toNat<ps.length:=(Lz h).mpr h2;unfold gw;refine(HQ this).symm▸?_;exact HX.mpr ⟨_,KM this,rfl⟩
theorem amJ(x:HI): -1000000000000000000<=vz x/\vz x<=1000000000000000000:=by
 unfold vz;cases cP x%4==1 with
 |true=>simp only[Ku];exact have q:=Bj (b:=2000000000000000000) _ (by decide) (by decide);⟨Oj (HY (by decide) q.1),Int.sub_right_le_of_le_add (HY q.2 (by decide))⟩
 |false=>simp only[Kg];exact⟨HY (by decide) (Pe (Ic _ (by decide)) 9),HY (Mj _ (by decide)) (HY (IZ (H9 _ (by decide))) (by decide))⟩
theorem vN(x:HI){size:HI}(hp:0<ps.length)(hn:0<ns.length)(l7:∀n∈ns,bV n)(hs:0<=size):c0 ps size (lg x ps ns size):=by obtain a:=l7 _ (jg hn (cP x));obtain b:=l7 _ (jg hn (cP x/7));obtain d:=rn hp (cP x/61);obtain e:0<=cP x/1013%(size+1)/\cP x/1013%(size+1)<=size:=⟨Ic _ (by exact Kb (JT hs)),by have:=H9 (cP x/1013) (show 0<size+1 by exact Int.le_iff_lt_add_one.mp hs);exact(OF 1).mp this⟩;obtain hk:(x%10).toNat<10:=(Lk (Ic _ (by decide))).mpr (H9 _ (by decide));unfold lg;revert hk;generalize(x%10).toNat=k;revert k;exact ten d ⟨a,d,amJ x⟩ ⟨a,b,d⟩ ⟨a,b⟩ ⟨a,b⟩ a d e e trivial
theorem abj{n:HI}(h:0<=n)(hn:n<=B.length)(hf:b7 (B.drop n.toNat)=Hq):vF (hb n) Hu Hu ⟨.list B,f⟩=hb ⟨.list (B.drop n.toNat),.d⟩:=by obtain e:vF (hb n) Hu Hu ⟨.list B,f⟩=e7 (hb n) Hu Hu ⟨.list B,f⟩:=rfl;refine e.trans ?_;unfold e7;refine(show kr (hb n) Hu Hu (V.x ⟨.list B,f⟩)=_ from slice_list (hb n) Hu B).symm▸(adZ h (Rh.mpr hn)).symm▸?_;show hb (V.eL (Rk _ (Rl B.length _)) _)=_;refine JD.symm▸?_;unfold V.eL;refine hf.symm▸?_;rfl
def vY(c:JC):Prop:=∀(x:HI)(ps:aP)(ns:Hn (Hn HG))(size:HI),0<ps.length->0<ns.length->0<=size->c.F "_law_row" [.int x,(.list (ps.map aF)),(.list (ns.map aB)),.int size]=hb (av (lg x ps ns size))
def tY(c:JC):Prop:=∀(ps:aP)(st:eP)(r:Row),ps.length<=900->(∀n,eX st n)->c.F "_law_wrong" [(.list (ps.map aF)),fG st,av r]=hb (dr (aS ps st r))
theorem afk(r:Row):bW .NotIn (dr r.parts.1) (.tuple [dr "fork",dr "go",dr "end"])=hb (wZ r):=by cases r<;>kernel_rfl
variable{n:HG}
theorem adY(x:HI)(h:(0:HI)<(n:HG)):0<=x%(n:HG)/\x%(n:HG)<(n:HG)/\(x%(n:HG)).toNat<n:=
 have h1:=Ic x (Kb h);have h2:=H9 x h
 ⟨h1,h2,(Lk h1).mpr h2⟩
def qS(st:eP)(x:HI):Hn HG×HI:=(st.bG[(x/10%((st.bG.map dm).length:HG)).toNat]?).getD ([],0)
theorem zB(x:HI)(h:st.bG≠[]):(0:HI)<((st.bG.map dm).length:HG)/\ec (.list (st.bG.map dm)) (.int (x/10%((st.bG.map dm).length:HG)))=hb (dm (qS st x))/\qS st x∈st.bG:=by
 have lo:(0:HI)<((st.bG.map dm).length:HG):=by rw[Hr];have:=Pf.mpr h;exact Jt.mpr this
 refine xg (adY (x/10) lo) λh1 o1 kl=>?_;have kl:=Nv kl (Hr (f:=dm) (as:=st.bG));have e:qS st x=st.bG[(x/10%((st.bG.map dm).length:HG)).toNat]:=by unfold qS;refine(HQ kl).symm▸?_;rfl
 exact⟨lo,e▸nC (p:=dm) h1 (HQ kl),e▸KM kl⟩
theorem acj{as:Hn α}{a:α}(h:as[j]? =hb a):as.drop j=a::as.drop (j+1):=by obtain⟨hj,rfl⟩:=H2.mp h;exact J6 hj
theorem alG(hr:vY c)(hw:tY c)(x:HI)(H:aZ ps)(hp:0<ps.length)(hn:0<ns.length)(l7:∀n∈ns,bV n)(hh:∀n,eX st n)(hu:∀p∈di st,p∈ps.map (·.1)):
  ∃y,(gH (PP S0 A0) c b0).F "_law_next" [.int x,(.list (ps.map aF)),(.list (ns.map aB)),fG st]=hb y/\∃r,y=av r/\uH ps st r:=by
 have hl:ps.length<=900:=Hs H.len (by decide);have lp:(0:HI)<((ps.map aF).length:HG):=by rw[Hr];exact Jt.mpr hp
 have ln:(0:HI)<((ns.map aB).length:HG):=by rw[Hr];exact Jt.mpr hn
 have Br:=hr x ps ns 0 hp hn (by decide);have FD:=vN x (size:=0) hp hn l7 (by decide);revert Br FD;generalize lg x ps ns 0=r;intro Br FD;have sZ:=hw ps st r hl hh;have i2:=ab6 hn (x/70);rw[<-Hr aB]at i2;let last:st.bG≠[]->((y:Ho)->(∃r,y=av r/\uH ps st r)->Z)->Z:=λh e=>fV 4 (ji (a:=x/10) (zB x h).1)<|fX 0 (zB x h).2.1<|fV 3 (ji (a:=x/70) ln)<|fX 0 i2<|e (av (.lay (dv ns (x/70)) (qS st x).1 (x/10%19-9))) ⟨_,rfl,by
  have m:(qS st x).1∈di st:=HX.mpr ⟨_,(zB x h).2.2,rfl⟩;exact⟨(HL (λb=>bif b then""else"not open") (Ip m)),rfl,l7 _ (jg hn _),hu _ m,HY (by decide) (Pe (Ic _ (by decide)) 9),HY (Mj _ (by decide)) (HY (IZ (H9 _ (by decide))) (by decide))⟩⟩
 have hd:=adY x lp;have s1:=abj (f:=.s) hd.1 (IZ hd.2.1) (by exact L8▸fv cZ _);have DW:(ps.map aF).length<=12:=by rw[Hr];exact H.len
 have s2:=zk (B:=(ps.map aF).drop (x%((ps.map aF).length:HG)).toNat) (ys:=ps.map aF) (f:=.d) (g:=.s) (Hs (Js (adP DW) DW) (by decide)) (by(refine L8▸?_;refine HJ▸?_);exact fv cZ _);rw[<-L8,<-HJ]at s2;rw[<-L8]at s1;generalize hL:ps.drop (x%((ps.map aF).length:HG)).toNat=A at s1 s2;have m9:∀{j:HG}{a},(A++ps)[j]? =hb a->a.1∈ps.map (·.1):=λh=>HX.mpr ⟨_,(HD.mp (Il h)).elim (λh=>Lc (hL▸h)) id,rfl⟩;have h0:(∃p∈(A++ps).drop 0,aS ps st (.op p.1)="")∨st.bG≠[]:=by
  by_cases ho:st.bG=[]
  ·left
   clear m9 hL s2 DW s1 hd last i2 sZ FD Br lp hl hu ln;obtain⟨p,ps',rfl⟩:∃p t,ps=p::t:=by
    cases ps with
    |nil=>cases hp
    |cons p t=>exact CB p t rfl
   refine i12 p (Hx _ (.head _)) ?_;show(bif decide (p.1∈di st)then"open already"else match(up (p::ps') p.1)[1]?with|some q=>bif decide (q∈di st)then""else"not open"|none=>"")="";refine(show di st=[] by unfold di;refine ho.symm▸?_;rfl).symm▸?_;refine(agg H).symm▸?_;rfl
  ·exact .inr ho
 exact xE λe=>fX 0 Br<|fS 0<|fB 2 (afk r)<|fX 0 sZ<|fB 0 (ad3 (aS ps st r))<|.br (wZ r&&(aS ps st r=="")) (λh=>e (av r) ⟨r,rfl,aw (aj h).2,(aj h).1,FD⟩) λ_=>.br (decide ((((st.bG.map dm).length:HG):HI)*2<((ps.map aF).length:HG)+x/10%2))
  (λh=>fV 1 (ji (a:=x) lp)<|fV 0 s1<|fV 0 s2<|fr (A++ps) cZ (λ_ _=>[("_law_cell",D (.int x)),("_law_plots_here",sh (.list (ps.map aF))),("_law_names_here",sh (.list (ns.map aB))),("_law_state",sh (fG st))]) (λj _=>(∃p∈(A++ps).drop j,aS ps st (.op p.1)="")∨st.bG≠[]) () h0
   (λj a h _ r t=>fX 1 (hw ps st (.op a.1) hl hh)<|bB 0 (ad3 (aS ps st (.op a.1))) (λg=>e (av (.op a.1)) ⟨_,rfl,aw g,rfl,m9 h⟩) λg=>t _ ⟨(),r.imp (λ⟨p,hp,k⟩=>⟨p,by
    rw[acj h]at hp;rcases Hw.mp hp with rfl|hp
    ·rw[k]at g;cases g
    ·exact hp,k⟩) id,rfl⟩)
   λ_ r=>last (r.elim (λ⟨p,hp,_⟩=>by rw[KN]at hp;cases hp) id) e)
  λh=>last (λe=>by
   have h:=Ji h;rw[e]at h;exact h (by exact Int.add_pos_of_pos_of_nonneg lp (Ic _ (by decide)))) e
abbrev kc(c:JC):JC:={c with K:=K0}
noncomputable def zx:HP:=HA "abcdefghijklmnopqrstuvwxyz"
theorem aiB:∀k,k<26->(Lg zx ⟨#[97+k]⟩ 0 zx.length 1).isEmpty=HH:=by decide +kernel
theorem al4{x:HG}(h:97<=x/\x<=122):bW .In (.str (S [x])) (.str zx)=hb Hq:=by obtain⟨k,rfl⟩:=Nat.exists_eq_add_of_le h.1;show hb (!(Lg zx ⟨#[97+k]⟩ 0 zx.length 1).isEmpty)=_;refine(aiB k (K6 (Nat.le_of_add_le_add_left (a:=97) h.2))).symm▸?_;rfl
theorem aeJ(B:Hn α):kO (B.map λ_=>.bool Hq)=hb (B.map λ_=>Hq):=by
 induction B with
 |nil=>exact rfl
 |cons x B bY=>show(kO (B.map λ_=>.bool Hq)).map (Hq::·)=_;rw[bY];rfl
theorem all_map(B:Hn α):Co [⟨.list (B.map λ_=>.bool Hq),.d⟩]=hb ⟨.bool Hq,.d⟩:=by show(kO (B.map λ_=>.bool Hq)).map _=_;rw[aeJ];show hb (V.mk (.bool ((B.map λ_=>Hq).all id)) .d)=_;(exact(show(B.map λ_=>Hq).all id=Hq by rw[JM];intro b U;refine aQ (HX.mp U) λo1 o2 o3=>?_;subst o3;rfl).symm▸rfl)
theorem afN(h1:1<=n)(h2:n<=8):bW .LtE (.int 1) (.int (n:HG))=hb Hq/\bW .LtE (.int (n:HG)) (.int 8)=hb Hq:=⟨HL hb (Ip (JE.mp h1)),HL hb (Ip (Nat.ToInt.of_le rfl rfl h2))⟩
abbrev Gs(as:Hn α){p:α->Ho}(hp:∀a,flat (p a)=Hq)(b:(a:α)->a∈as->Z->Z)(z:Z):Z:=wi α as p hp (λ_=>hb (.bool Hq)) (as.map λ_=>.bool Hq) (Kx Je as) (λa h=>b a h (.q _ (Mg (hb (PyData.bool Hq))))) (fV 0 (all_map as) z)
theorem aea(h:bV uW):(gH (PP S0 A0) (kc c) b0).F "is_name" [aB uW]=hb (.bool Hq):=
 xF λt=>fB 3 (show bW .LtE (.int 1) (.int ((S uW).length:HG))=hb Hq from(afN h.one h.DA).1)<|fB 0 (show bW .LtE (.int ((S uW).length:HG)) (.int 8)=hb Hq from(afN h.one h.DA).2)<|Gs uW (p:=λx=>.str (S [x])) (λ_=>rfl) (λx hx=>fB 0 (al4 (h.abc x hx)))<|t _ rfl
def qH(c:JC):Prop:=∀n,bV n->c.F "is_name" [aB n]=hb (.bool Hq)
variable{m:HG}
theorem aju(h:n<=m):bW .Gt (.int (n:HG)) (.int (m:HG))=hb HH:=HL hb (Iw (Kq.mpr (I4.mpr h)))
theorem abF(p:α->Ho)(as:Hn α):kg (as.map p)=as.zipIdx.map λq=>.tuple [.int q.2,p q.1]:=by unfold kg;(refine P8.symm▸Ii.symm▸?_);rfl
theorem kn{as:Hn α}{q:α×HG}(h:as.zipIdx[j]? =hb q):as[j]? =hb q.1:=by rw[OZ]at h;refine aQ (H6.mp h) λa h1 h2=>?_;(exact h1.symm▸h2▸rfl)
def Gy(ps:aP)(as:Hn Ho):En:=[("plots",sh (.list (ps.map aF))),("ahead",.own (.lst as))]
section
variable{p:Hn HG×Hp (Hn HG)}(bF:aZ ps)(gP:ps[j]? =hb p)
include bF gP
theorem ald:bW .In (aB p.1) (.list (((ps.take j).map (·.1)).map aB))=hb HH:=by rw[kH,Iw];exact Lw.symm▸aau bF.nd (by(refine Iz.trans ?_;refine gP.symm▸?_);rfl)
theorem afp(hn:qH c)(h:p.2.isSome=Hq):c.F "is_name" [j6 p.2]=hb (.bool Hq)/\bW .NotIn (j6 p.2) (.list (((ps.take j).map (·.1)).map aB))=hb HH:=by
 obtain⟨nm,_|q⟩:=p
 ·cases h
 have e:ps=ps.take j++(nm,hb q)::ps.drop (j+1):=by
  conv=>lhs;rw[<-L0 j ps,acj gP]
 have R:=bF.out _ _ _ _ e;refine gQ (hn q ?_) ((iX q _).trans (by refine(Ip R).symm▸?_;rfl));refine aQ (HX.mp R) λz hz o1=>?_;subst o1;exact bF.nm z (Kc hz)
theorem ag0:(((ps.take j).map (·.1)).map aB).length<10000:=by rw[Hr,Hr];exact HC (kB bF.len) (by decide)
theorem adn:Gy ps (((ps.take (j+1)).map (·.1)).map aB)=Gy ps (((ps.take j).map (·.1)).map aB++[aB p.1]):=by(refine(show ps.take (j+1)=ps.take j++[p] by(refine KD.trans ?_;rw[gP]);rfl).symm▸?_;refine HJ.symm▸HJ.symm▸?_);rfl
end
theorem aby(hn:qH c)(H:aZ ps):(gH (PP S0 A0) (kc c) b0).F "need_plots" [.list (ps.map aF)]=hb .none:=by
 have hl:(ps.map aF).length<=12:=by rw[Hr];exact H.len
 exact xF λt=>fB 3 (show bW .Gt (.int ((ps.map aF).length:HG)) (.int 12)=hb HH from aju hl)<|fr ps.zipIdx (p:=λq=>.tuple [.int q.2,aF q.1]) (λq=>by show(Hq&&(flat (aF q.1)&&Hq))=Hq;rw[cZ];rfl) (λj (_:Nq)=>Gy ps (((ps.take j).map (·.1)).map aB)) (λ_ _=>N9) () trivial
  (λj q h _ _ e=>fX 5 (hn q.1.1 (H.nm q.1 (Il (kn h))))<|fB 1 (ald H (kn h))<|fB 2 (ae9 q.1.2)<|.br q.1.2.isSome (λg=>fX 2 (afp H (kn h) hn g).1<|fB 1 (afp H (kn h) hn g).2<|fC 1 (ag0 H (kn h))<|e _ ⟨(),trivial,adn H (kn h)⟩) λ_=>fC 1 (ag0 H (kn h))<|e _ ⟨(),trivial,adn H (kn h)⟩)
  (λ_ _=>t _ rfl) (abF aF ps)
variable{z:HI}
theorem aeQ(hn:qH c)(h:bV uW)(R:uW∈ns):(gH (PP S0 A0) (kc c) b0).F "fits" [aB uW,dr "plot",.list (ns.map aB),.int z]=hb (.bool Hq):=xF λt=>fX 1 (hn uW h)<|fB 0 (show bW .In (aB uW) (.list (ns.map aB))=hb Hq by rw[kH,Ip R])<|t _ rfl
theorem aeS(hn:qH c)(h:bV uW):(gH (PP S0 A0) (kc c) b0).F "fits" [aB uW,dr "name",.list (ns.map aB),.int z]=hb (.bool Hq):=xF λt=>fX 2 (hn uW h)<|t _ rfl
def qi(c:JC):Prop:=∀i:HI,c.F "is_whole" [.int i]=hb (.bool Hq)
theorem o0{a b:HI}(h:a<=b):bW .LtE (.int a) (.int b)=hb Hq:=HL hb (Ip h)
theorem acb(hw:qi c)(h1: -1000000000000000000<=i)(h2:i<=1000000000000000000):(gH (PP S0 A0) (kc c) b0).F "fits" [.int i,dr "number",.list (ns.map aB),.int z]=hb (.bool Hq):=xF λt=>fX 3 (hw i)<|fB 0 (o0 h1)<|fB 0 (o0 h2)<|t _ rfl
theorem ac4(hw:qi c)(h1:0<=i)(h2:i<=z):(gH (PP S0 A0) (kc c) b0).F "fits" [.int i,dr "place",.list (ns.map aB),.int z]=hb (.bool Hq):=xF λt=>fX 3 (hw i)<|fB 0 (o0 h1)<|fB 0 (o0 h2)<|t _ rfl
structure wb(c:JC):Prop where
 AR:∀{n:Hn HG}{ns:Hn (Hn HG)}{z:HI},bV n->n∈ns->c.F "fits" [aB n,dr "plot",.list (ns.map aB),.int z]=hb (.bool Hq)
 name:∀{n:Hn HG}{ns:Hn (Hn HG)}{z:HI},bV n->c.F "fits" [aB n,dr "name",.list (ns.map aB),.int z]=hb (.bool Hq)
 number:∀{i:HI}{ns:Hn (Hn HG)}{z:HI},-1000000000000000000<=i->i<=1000000000000000000->c.F "fits" [.int i,dr "number",.list (ns.map aB),.int z]=hb (.bool Hq)
 place:∀{i:HI}{ns:Hn (Hn HG)}{z:HI},0<=i->i<=z->c.F "fits" [.int i,dr "place",.list (ns.map aB),.int z]=hb (.bool Hq)
noncomputable def rwA:Row->Hn ((Hn HG⊕HI)×I2)
 |.op p=>[(.inl p,"plot")]
 |.lay n p i=>[(.inl n,"name"),(.inl p,"plot"),(.inr i,"number")]
 |.copy n o p=>[(.inl n,"name"),(.inl o,"name"),(.inl p,"plot")]
 |.same n o=>[(.inl n,"name"),(.inl o,"name")]
 |.add n o=>[(.inl n,"name"),(.inl o,"name")]
 |.tell n=>[(.inl n,"name")]
 |.give p=>[(.inl p,"plot")]
 |.fork k=>[(.inr k,"place")]
 |.go k=>[(.inr k,"place")]
 |.fin=>[]
def Cj(a:Hn HG⊕HI):Ho:=match a with
 |.inl n=>aB n
 |.inr i=>.int i
theorem rX{P:α->Prop}:∀a∈([]:Hn α),P a:=λ_ h=>nomatch h
def ant(c:JC)(ns:Hn (Hn HG))(z:HI)(a:(Hn HG⊕HI)×I2):Prop:=c.F "fits" [Cj a.1,dr a.2,.list (ns.map aB),.int z]=hb (.bool Hq)
theorem amz(hf:wb c)(l7:∀n∈ps.map (·.1),bV n)(r:Row)(h:c0 ps z r):∀a∈rwA r,ant c (ps.map (·.1)) z a:=by
 cases r with
 |op p=>exact all_cons (hf.AR (l7 _ h) h) rX
 |lay n p i=>exact all_cons (hf.name h.1) (all_cons (hf.AR (l7 _ h.2.1) h.2.1) (all_cons (hf.number h.2.2.1 h.2.2.2) rX))
 |copy n o p=>exact all_cons (hf.name h.1) (all_cons (hf.name h.2.1) (all_cons (hf.AR (l7 _ h.2.2) h.2.2) rX))
 |same n o=>exact all_cons (hf.name h.1) (all_cons (hf.name h.2) rX)
 |add n o=>exact all_cons (hf.name h.1) (all_cons (hf.name h.2) rX)
 |tell n=>exact all_cons (hf.name h) rX
 |give p=>exact all_cons (hf.AR (l7 _ h) h) rX
 |fork k=>exact all_cons (hf.place h.1 h.2) rX
 |go k=>exact all_cons (hf.place h.1 h.2) rX
 |fin=>exact rX
theorem af0(a:(Hn HG⊕HI)×I2):flat (.tuple [Cj a.1,dr a.2])=Hq:=by obtain⟨_|_,_⟩:=a<;>rfl
def zRw(as:Hn ((Hn HG⊕HI)×I2))(h:∀a∈as,ant c ns z a)(t:Z):Z:=Gs as (p:=λa=>.tuple [Cj a.1,dr a.2]) af0 (λa m=>.f 0 _ (h a m) ⟨.bool Hq,.d⟩) t
theorem afE(hf:wb c)(l7:∀p∈ps,bV p.1)(r:Row)(h:c0 ps z r):(gH (PP S0 A0) (kc c) b0).F "is_row" [av r,.list ((ps.map (·.1)).map aB),.int z]=hb (.bool Hq):=by have h:=amz hf (λn hn=>by refine aQ (HX.mp hn) λp hp o=>?_;subst o;exact l7 p hp) r h;cases r<;>exact xF λt=>zRw _ h (t _ rfl)
def afI(c:JC):Prop:=∀(ps:aP)(z:HI)(r:Row),(∀p∈ps,bV p.1)->c0 ps z r->c.F "is_row" [av r,.list ((ps.map (·.1)).map aB),.int z]=hb (.bool Hq)
def ndE(ps:aP)(rs:Hn Row):En:=[("rows",sh (.list (rs.map av))),("names",D (.list ((ps.map (·.1)).map aB)))]
variable{rs:Hn Row}
theorem alq(hp:c.F "need_plots" [.list (CZ.map aF)]=hb .none)(hr:afI c)(H:aZ CZ)(hl:rs.length<=60)(hk:∀r∈rs,c0 CZ rs.length r):(gH (PP S0 A0) (kc c) b0).F "need" [.list (CZ.map aF),.list (rs.map av)]=hb (.bool Hq):=by
 have l60:(rs.map av).length<=60:=by rw[Hr];exact hl
 have h:∀{j:HG}{q:Row×HG},rs.zipIdx[j]? =hb q->c.F "is_row" [av q.1,.list ((CZ.map (·.1)).map aB),.int ((rs.map av).length:HG)]=hb (.bool Hq):=λh=>by rw[Hr];exact hr CZ rs.length _ H.nm (hk _ (Il (kn h)))
 exact xF λt=>fX 0 hp<|fB 3 (show bW .Gt (.int ((rs.map av).length:HG)) (.int 60)=hb HH from aju l60)<|lN (g:=λp:Hn HG×Hp (Hn HG)=>aB p.1) cZ (Ii (f:=λp:Hn HG×Hp (Hn HG)=>p.1) (g:=aB) (l:=CZ)).symm<|fr rs.zipIdx (p:=λq=>.tuple [.int q.2,av q.1]) (λq=>by show(Hq&&(flat (av q.1)&&Hq))=Hq;rw[fe];rfl) (λ_ (_:Nq)=>ndE CZ rs) (λ_ _=>N9) () trivial (λj q m _ _ e=>fX 1 (h m)<|e _ ⟨(),trivial,rfl⟩) (λ_ _=>t _ rfl) (abF av rs)
theorem acU(hw:qi c)(l:Hn HI){n:HI}(h0:0<=n)(h1:n<=1000000):(gH (PP S0 A0) (kc c) b0).F "need_run" [.list (aq l),.int n]=hb .none:=
 xF λt=>fS 0<|Gs l (p:=IL) (λ_=>rfl) (λi _=>fX 0 (hw i))<|fX 1 (hw n)<|fB 0 (o0 h0)<|fB 0 (o0 h1)<|t _ rfl
noncomputable def eD(rs:Hn Row)(k:HG):Row:=(rs[k]?).getD .fin
theorem agH(rs:Hn Row)(k:HG):(gH (PP S0 A0) c b0).F "row_at" [.list (rs.map av),.int k]=hb (av (eD rs k)):=by
 have e:(rs.map av).length=rs.length:=Hr _;have g:decide ((k:HI)<((rs.map av).length:HG))=Hq->k<rs.length:=λh=>by have h:=IW h;exact e▸Jj.mp h
 exact xF λt=>.br (decide ((k:HI)<((rs.map av).length:HG))) (λh=>fX 0 (nC (p:=av) (l:=rs) (i:=k) (a:=rs[k]'(g h)) (H3 k) (HQ (g h)))<|fL (fe (rs[k]'(g h)))<|t (av (rs[k]'(g h))) (by unfold eD;refine(HQ (g h)).symm▸?_;rfl)) (λh=>t (av .fin) (by unfold eD;rw[Jw (by exact JQ λq=>(Ji h) (Jj.mpr (e.symm▸q)))];rfl))
def eE(l:Hn HI):Hn HI:=(l.take (fh (hb 22) l.length)).drop (eH (hb 6) l.length)
theorem nk(l:Hn HI):(eE l).length<=16:=by
 refine Li.symm▸J9.symm▸?_;generalize l.length=n;show min (min 22 n) n-min 6 n<=16;refine(Jk (I7 22 n)).symm▸?_;by_cases h:6<=n
 ·exact(Jk h).symm▸Nat.sub_le_of_le_add (Mm 22 n)
 ·refine(KP (Ll h)).symm▸(KZ (I7 22 n)).symm▸?_;exact JS 16
theorem abQ(l:Hn HI):vF (hb 6) (hb 22) Hu ⟨.list (aq l),f⟩=hb ⟨.list (aq (eE l)),.d⟩:=by
 obtain e:vF (hb 6) (hb 22) Hu ⟨.list (aq l),f⟩=e7 (hb 6) (hb 22) Hu ⟨.list (aq l),f⟩:=rfl;refine e.trans ?_;unfold e7;refine(show kr (hb 6) (hb 22) Hu (V.x ⟨.list (aq l),f⟩)=_ from slice_list (hb 6) (hb 22) (aq l)).symm▸?_;obtain e2:((aq l).take (fh (hb 22) (aq l).length)).drop (eH (hb 6) (aq l).length)=aq (eE l):=by dsimp only[eE,aq];rw[Hr,L8,Lw]
 refine e2.symm▸?_;show hb (V.eL _ _)=_
 delta V.eL aq
 rw[fv (λ_=>rfl)];rfl
def am4(ns:Hn (Hn HG))(n:HI)(x:HI):Hn Row:=[.tell (dv ns (cP x)),.same (dv ns (cP x)) (dv ns (cP x/7)),.add (dv ns (cP x)) (dv ns (cP x)),.fork (cP x/1013%(n+1)),.go (cP x/1013%(n+1)),.fin]
def jL(ns:Hn (Hn HG))(n:HI)(x:HI):Row:=((am4 ns n x)[(x%10*3/5).toNat]?).getD .fin
def Ge(ns:Hn (Hn HG))(cs:Hn HI)(j:HG):En:=[("_law_names_here",sh (.list (ns.map aB))),("_law_cells",D (.list (aq cs))),("_law_rows",.own (.lst (((cs.take j).map (jL ns cs.length)).map av)))]
variable{x:HI}
theorem aix{cs:Hn HI}(h:cs[j]? =hb x):Ge ns cs (j+1)=([("_law_names_here",sh (.list (ns.map aB))),("_law_cells",D (.list (aq cs))),("_law_rows",.own (.lst (((cs.take j).map (jL ns cs.length)).map av++[av (jL ns cs.length x)])))]:En):=by unfold Ge;(refine KD.symm▸h.symm▸HJ.symm▸HJ.symm▸?_);rfl
theorem ais{cs:Hn HI}(h:cs.length<=16)(j:HG):(((cs.take j).map (jL ns cs.length)).map av).length<10000:=by rw[Hr,Hr];exact HC (kB h) (by decide)
theorem ahQ(l:Hn HI)(hn:0<ns.length):(gH (PP S0 A0) c b0).F "_law_plain" [.list (aq l),(.list (ns.map aB))]=hb (.list (((eE l).map (jL ns (eE l).length)).map av)):=by have hc:=nk l;have sl:=abQ l (f:=.s);generalize eE l=cs at hc sl⊢;have m3 (x:HI):gE .Mod ⟨.int (cP x/1013),.d⟩ ⟨.int (((aq cs).length:HG)+1),.d⟩=hb ⟨.int (cP x/1013%((cs.length:HG)+1)),.d⟩:=(ji (LG _)).trans (by unfold aq;rw[Hr]);have i6 (x:HI):=agO (am4 ns cs.length x) (i:=x%10*3/5) (Qh (Ow (Ic _ (by decide)) (by decide)) (by decide)) (by show x%10*3/5<((6:HG):HI);exact Int.ediv_lt_of_lt_mul (by decide) (Ka (L9 (Bj (b:=9) _ (by decide) (by decide)).2 (by decide)) (by decide)));exact xF λt=>fV 0 sl<|fr cs (p:=IL) (λ_=>rfl) (λj (_:Nq)=>Ge ns cs j) (λ_ _=>N9) () trivial (λj x h _ _ e=>BF hn 4 (cP x)<|fV 3 (m3 x)<|BF hn 3 (cP x/7)<|fX 9 (i6 x)<|fL (fe (jL ns cs.length x))<|fC 0 (ais (ns:=ns) hc j)<|e _ ⟨(),trivial,aix h⟩) λ_ _=>t (.list (((cs.take cs.length).map (jL ns cs.length)).map av)) (JD▸rfl)
def mM(ns:Hn (Hn HG))(x:HI)(p:Hn HG)(j:HG):Hn Row:=.op p::(H0 j).map λ(k:HG)=>Row.lay (dv ns (x/7+k)) p k
def amY(ns:Hn (Hn HG))(x:HI)(p:Hn HG):Hn Row:=(mM ns x p (x/3%4).toNat++[Row.lay (dv ns x) p 5])++[Row.fork ((((mM ns x p (x/3%4).toNat++[Row.lay (dv ns x) p 5]).map av).length:HG)+3),Row.give p,Row.go (((mM ns x p (x/3%4).toNat++[Row.lay (dv ns x) p 5]).map av).length:HG)]
def Cu(ns:Hn (Hn HG))(x:HI)(p:Hn HG):Hn Row:=[.tell (dv ns x),.lay (dv ns x) p 1,.add (dv ns x) (dv ns x),.copy (dv ns x) (dv ns x) p,.fin,.give p]
def x3(ns:Hn (Hn HG))(x:HI)(p:Hn HG):Row:=((Cu ns x p)[(x/12%6).toNat]?).getD .fin
def zK(ns:Hn (Hn HG))(x:HI)(p:Hn HG):Hn Row:=amY ns x p++[x3 ns x p,.give p]
noncomputable def uQ(ps:aP):Hn HG:=((ps.filter λp=>p.2.isNone).map (·.1)).headD []
theorem aeN(ps:aP):ps.filterMap (λp=>bif p.2.isNone then hb (aB p.1)else Hu)=((ps.filter λp=>p.2.isNone).map (·.1)).map aB:=by
 induction ps with
 |nil=>exact rfl
 |cons p ps bY=>(refine I1.symm▸JN.symm▸bY.symm▸?_);cases p.2.isNone<;>rfl
theorem adF(H:aZ ps)(hp:0<ps.length):uQ ps∈ps.map (·.1)/\ec (.list (ps.filterMap λp=>bif p.2.isNone then hb (aB p.1)else Hu)) (.int 0)=hb (aB (uQ ps)):=by
 rw[aeN];obtain⟨⟨n,o⟩,t,rfl⟩:∃p t,ps=p::t:=by
  cases ps with
  |nil=>cases hp
  |cons p t=>exact CB p t rfl
 clear hp;cases o with
 |none=>exact gQ (.head _) rfl
 |some q=>exact nomatch H.out [] t n q rfl
theorem Cw{B ys:Hn Row}(h:B.length+ys.length<=1000):gE .Add ⟨.list (B.map av),f⟩ ⟨.list (ys.map av),g⟩=hb ⟨.list ((B++ys).map av),.d⟩:=by exact HJ.symm▸zk (by rw[Hr,Hr];exact h) (by exact HJ▸eK _)
theorem nE(ns:Hn (Hn HG))(x:HI)(p:Hn HG)(j:HG):(mM ns x p j).length=j+1:=by(refine Ju.trans ?_;rw[Hr,Iy])
def Go(ns:Hn (Hn HG))(x:HI)(p:Hn HG)(j:HG):En:=[("_law_names_here",sh (.list (ns.map aB))),("_law_plot",D (aB p)),("_law_cell",D (.int x)),("_law_name",D (aB (dv ns x))),("_law_rows",.own (.lst ((mM ns x p j).map av)))]
theorem is_none(o:Hp (Hn HG)):bW .Is (j6 o) .none=hb o.isNone:=by cases o<;>rfl
abbrev zRo(ps:aP)(z:Z):Z:=wi _ ps aF cZ (λp=>bif p.2.isNone then hb (aB p.1)else Hu) _ rfl (λp _=>bB 0 (is_none p.2) (λh=>.q _ (by refine h.symm▸?_;rfl:hb (aB p.1)=bif p.2.isNone then hb (aB p.1)else Hu)) λh=>.q _ (by refine h.symm▸?_;rfl:Hu=bif p.2.isNone then hb (aB p.1)else Hu)) z
theorem afn(h:a=j):Go ns x p (j+1)=([("_law_names_here",sh (.list (ns.map aB))),("_law_plot",D (aB p)),("_law_cell",D (.int x)),("_law_name",D (aB (dv ns x))),("_law_rows",.own (.lst ((mM ns x p j).map av++[av (.lay (dv ns (x/7+a)) p a)])))]:En):=by subst h;dsimp only[Go,mM];rw[kM,HS,HS,HJ];rfl
theorem af7{s:HG}(h:(H0 n)[j]? =hb a)(r:s=j)(hn:n<=3):((mM ns x p s).map av).length<10000:=by have:=(yz h).2;rw[Hr,nE];exact r▸HC (Hs this hn) (by decide)
def uJ(ns:Hn (Hn HG))(x:HI)(p:Hn HG)(n:HG):Hn Row:=mM ns x p n++[.lay (dv ns x) p 5]
def Cx(rs:Hn Row)(p:Hn HG):Hn Row:=[.fork (((rs.map av).length:HG)+3),.give p,.go ((rs.map av).length:HG)]
def zLp(h:n=(H0 (x/3%4).toNat).length)(t:(y:Ho)->y=.list ((zK ns x p).map av)->Z):Z:=
 have h:=h.trans Iy;have hl:(uJ ns x p n).length<=100:=by unfold uJ;rw[HN,nE];show _+1<=_;exact h▸Hs (Im (DK (n:=3) _ (by decide) (by decide)) 2) (by decide)
 fV 2 (Cw (B:=mM ns x p n) (ys:=[Row.lay (dv ns x) p 5]) (f:=.t) (g:=.d) (by rw[nE];exact h▸Hs (Im (DK (n:=3) _ (by decide) (by decide)) 2) (by decide)))<|
 fV 6 (Cw (B:=uJ ns x p n) (ys:=Cx (uJ ns x p n) p) (f:=.d) (g:=.d) (by exact Hs (Im hl 3) (by decide)))<|
 fX 10 (show ec (.list ((Cu ns x p).map av)) (.int (x/12%6))=hb (av (x3 ns x p))from agO (Cu ns x p) (Ic _ (by decide)) (by exact H9 _ (by decide)))<|fL (fe (x3 ns x p))<|
 fV 1 (show(if 2<=sizeLine then hb (V.eL ([x3 ns x p,.give p].map av) .d)else Hu)=_ from(H5 (by decide)).trans (HL hb (oK _ _)))<|fV 0 (Cw (B:=uJ ns x p n++Cx (uJ ns x p n) p) (ys:=[x3 ns x p,.give p]) (f:=.d) (g:=.d) (by exact HN.symm▸Hs (Im hl 5) (by decide)))<|t (.list ((uJ ns x p n++Cx (uJ ns x p n) p++[x3 ns x p,.give p]).map av)) (by subst h;rfl)
theorem an0(ha:qT c)(l:Hn HI)(H:aZ ps)(hp:0<ps.length)(hn:0<ns.length):(gH (PP S0 A0) c b0).F "_law_lap" [.list (aq l),(.list (ps.map aF)),(.list (ns.map aB))]=hb (.list ((zK ns (cK l 5) (uQ ps)).map av)):=by have a5:=ha l 5 (by decide);generalize cK l 5=x at a5⊢;have r0:=(adF H hp).2;generalize uQ ps=p at r0⊢;exact xF λt=>zRo ps<|fX 0 r0<|fX 0 a5<|BF hn 1 x<|fI 3 (fZ (k:=x/3%4) (Ic _ (by decide)) (HY (IZ (H9 _ (by decide))) (by decide)))<|fr (H0 (x/3%4).toNat) (p:=λj=>.int (j:HG)) (λ_=>rfl) (λ_ s=>Go ns x p s) (λj s=>s=j) 0 rfl (λj a h s r e=>BF hn 3 (x/7+a)<|fC 1 (af7 (ns:=ns) (x:=x) (p:=p) h r (DK _ (by decide) (by decide)))<|e _ ⟨s+1,HL (·+1) r,afn ((yz h).1.trans r.symm)⟩) λ_ r=>zLp r t
def A5(ns as:Hn (Hn HG))(x:HI)(k:HG):Row:=.lay (dv ns (x/24+k)) (dv as (x/7+k)) k
def sW(ns as:Hn (Hn HG))(x:HI):Hn Row:=(as.map Row.op++(H0 (1+x/100%3).toNat).map (A5 ns as x))++[.give (as.headD [])]
noncomputable def iW(ns as:Hn (Hn HG))(x:HI):HG->Hn Row
 |0=>[]
 |j+1=>iW ns as x j++sW ns as x
def wU(ps:aP)(ns:Hn (Hn HG))(x:HI):Hn Row:=iW ns (up ps (gw ps x)).reverse x (2+x/12%2).toNat
variable{as:Hn (Hn HG)}
theorem afV(x:HI)(ha:as.length<=12):(sW ns as x).length<=16:=by unfold sW;rw[HN,HN,Hr,Hr,Iy];exact Im (Js ha (DM (n:=3) _ (by decide) (by decide))) 1
theorem nH{ns:Hn (Hn HG)}(x:HI)(ha:as.length<=12):∀j,(iW ns as x j).length<=16*j
 |0=>Io _
 |j+1=>by
  have:=nH (ns:=ns) x ha j;have:=afV (ns:=ns) x ha;exact HN.symm▸Js ‹_› this
def E8(ns as:Hn (Hn HG))(x:HI)(s:Hn Ho):En:=[("_law_names_here",sh (.list (ns.map aB))),("_law_cell",D (.int x)),("_law_around",D (.list (as.map aB))),("_law_rows",.own (.lst s))]
section
def A9(ns as:Hn (Hn HG))(x:HI)(j k:HG)(s:Hn Ho):Prop:=s=(iW ns as x j++(as.map Row.op++(H0 k).map (A5 ns as x))).map av
variable{s:Hn Ho}
theorem ah7(r:s=(iW ns as x j).map av):A9 ns as x j 0 (s++as.map λp=>av (.op p)):=by subst r;unfold A9;(refine List.range_zero.symm▸?_;rw[MX,IA,HJ,Ii]);rfl
theorem ajf(h:a=k)(r:A9 ns as x j k s):A9 ns as x j (k+1) (s++[av (A5 ns as x a)]):=by subst h;unfold A9 at r⊢;rw[kM,<-I6 (as:=as.map Row.op),<-I6 (as:=iW ns as x j),HJ (l₁:=iW ns as x j++_),<-r];rfl
theorem aib(h:k=(1+x/100%3).toNat)(r:A9 ns as x j k s):s++[av (.give (as.headD []))]=(iW ns as x (j+1)).map av:=by subst h;unfold A9 at r;show s++_=(iW ns as x j++sW ns as x).map av;unfold sW;rw[<-I6,HJ (l₁:=iW ns as x j++_),<-r];rfl
variable(t8:as.length<=12)(gu:j<4)
include t8 gu
theorem akI(r:s=(iW ns as x j).map av):s.length+(as.map λp=>av (.op p)).length<10000:=by have:=nH (ns:=ns) x t8 j;(refine r.symm▸?_;rw[Hr,Hr]);exact HC (Js (Hs this (Kj 16 (IK gu))) t8) (by decide)
theorem afi(hk:k<=3)(r:A9 ns as x j k s):s.length<10000:=by have:=nH (ns:=ns) x t8 j;(refine r.symm▸?_;rw[Hr,HN,HN,Hr,Hr,Iy]);exact HC (Js (Hs this (Kj 16 (IK gu))) (Js t8 hk)) (by decide)
omit t8 gu in
theorem aiQ(h:0<as.length):ec (.list (as.map aB)) (.int 0)=hb (aB (as.headD [])):=by
 cases as with
 |nil=>cases h
 |cons a t=>rfl
def zNe(hn:0<ns.length)(ha:0<as.length)(r:s=(iW ns as x j).map av)(e:(l:En)->(∃y,y=(iW ns as x (j+1)).map av/\E8 ns as x y=l)->Z):Z:=
 have lr:∀{k:HG},k=(H0 (1+x/100%3).toNat).length->k=(1+x/100%3).toNat:=λh=>h.trans Iy
 lM as (p:=aB) (λ_=>rfl) (λp=>av (.op p))<|fC 0 (akI t8 gu r)<|fI 3 (fZ (k:=1+x/100%3) (Mz (by decide) (Ic _ (by decide))) ((w7 (a:=1) (b:=10000) _ (by decide) (by decide) (by decide)).2))<|
 fr (H0 (1+x/100%3).toNat) (p:=λj=>.int (j:HG)) (λ_=>rfl) (λ_ s=>E8 ns as x s) (λk s=>A9 ns as x j k s) (s++as.map λp=>av (.op p)) (ah7 r)
  (λk a h s r e=>BF hn 3 (x/24+a)<|BF ha 3 (x/7+a)<|fC 1 (afi t8 gu (by have:=(yz h).2;exact IK (I0 this (DM _ (by decide) (by decide)))) r)<|e _ ⟨s++[av (A5 ns as x a)],ajf (yz h).1 r,rfl⟩)
  λs r=>fX 0 (aiQ ha)<|fC 1 (afi t8 gu (by exact(lr rfl).symm▸DM _ (by decide) (by decide)) r)<|e (E8 ns as x (s++[av (.give (as.headD []))])) ⟨s++[av (.give (as.headD []))],aib (lr rfl) r,rfl⟩
end
theorem amd(ha:qT c)(ho:xe c)(l:Hn HI)(H:aZ ps)(hp:0<ps.length)(hn:0<ns.length):(gH (PP S0 A0) c b0).F "_law_nest" [.list (aq l),(.list (ps.map aF)),(.list (ns.map aB))]=hb (.list ((wU ps ns (cK l 5)).map av)):=by
 have lp:(0:HI)<((ps.map aF).length:HG):=by rw[Hr];exact Jt.mpr hp
 have a5:=ha l 5 (by decide);generalize cK l 5=x at a5⊢;obtain⟨o,i1⟩:=abK hp x;rw[<-Hr aF]at i1;obtain⟨t,hu⟩:=qo H (rn hp x);have rv:=vX (l:=(up ps (gw ps x)).map aB) (f:=.d) (by exact Kn▸kD _);rw[<-Kn]at rv;unfold wU;have yA:0<(up ps (gw ps x)).reverse.length:=by(refine JG.symm▸?_;refine hu.symm▸?_);exact KW _
 have hau:(up ps (gw ps x)).reverse.length<=12:=by exact JG.symm▸vE H (gw ps x)
 generalize(up ps (gw ps x)).reverse=as at rv yA hau⊢;exact xF λt=>fX 0 a5<|fV 1 (ji (a:=x) lp)<|fX 0 (show ec (.list (ps.map aF)) (.int (x%((ps.map aF).length:HG)))=hb (aF (gw ps x,o))from i1)<|fL (cZ (gw ps x,o))<|fX 1 (ho ps (gw ps x) (Hs H.len (by decide)))<|fV 0 rv<|fI 3 (fZ (k:=2+x/12%2) (Mz (by decide) (Ic _ (by decide))) ((w7 (a:=1) (b:=10000) _ (by decide) (by decide) (by decide)).2))<|
  fr (H0 (2+x/12%2).toNat) (p:=λj=>.int (j:HG)) (λ_=>rfl) (λ_ s=>E8 ns as x s) (λk s=>s=(iW ns as x k).map av) [] rfl (λj a h s r e=>zNe hau (by have:=(yz h).2;exact I0 this (DM _ (by decide) (by decide))) hn yA r e) λs r=>t (.list s) (by(refine r.symm▸?_;exact Iy.symm▸rfl))
abbrev Look:=Hn Ho×Hn Ho
noncomputable def km(q:Look):Ho:=.tuple [.list q.1,.list q.2]
abbrev md(q:Look):Prop:=plain 60 (km q)
theorem aoj(ha:md sY)(U:md yC):bW .Eq (km sY) (km yC)=hb (IX (km sY) (km yC)):=AO ha U
def kY(seen:Hn Look)(dT:Look):Hn HG:=seen.zipIdx.filterMap λq=>bif IX (km q.1) (km dT)then hb q.2 else Hu
theorem ahH(seen:Hn Look):kg (seen.map km)=seen.zipIdx.map λq=>.tuple [.int (q.2:HG),km q.1]:=by unfold kg;(refine P8.symm▸Ii.symm▸?_);rfl
theorem agz(seen:Hn Look)(dT:Look):(seen.zipIdx.filterMap λq=>bif IX (km q.1) (km dT)then hb (IL (q.2:HG))else Hu)=(kY seen dT).map λ(k:HG)=>.int k:=by refine List.map_filterMap.symm▸HL (λf=>seen.zipIdx.filterMap f) (funext λq=>?_);cases IX (km q.1) (km dT)<;>rfl
variable{seen:Hn Look}
theorem ai9{dT:Look}(h:k∈kY seen dT):k<seen.length:=by
 refine aQ (Mq.mp h) λo1 h1 h2=>?_;obtain⟨a,i⟩:=o1;have:=(List.mem_zipIdx' h1).1;revert h2;cases IX (km a) (km dT)with
 |true=>intro e;exact(si e)▸this
 |false=>exactλe=>no e
theorem amL(l:Hn HG):bW .Eq (.list (l.map λ(k:HG)=>.int k)) (.list [])=hb l.isEmpty:=by
 cases l with
 |nil=>rfl
 |cons x l=>(refine(AO (b8 (cU λy hy=>by refine aQ (HX.mp hy) λa o1 o2=>?_;subst o2;exact eT _) (by decide)) (b8 (cU (k:=1) λy hy=>(Ia hy).elim) (by decide))).trans ?_;dsimp only[HS,IX,KE]);rfl
inductive uO(c:JC)(seen:Hn Look)(dT:Look)(x:HI):Prop
 |mk (r:HI) (h:c.F "_law_back" [.list (seen.map km),km dT,.int x]=hb (.int r)) (h1: -1<=r) (h2:r<seen.length):uO c seen dT x
inductive yM(S:Hn HG)(x:HI)(n:HG)(r:HI):Prop
 |no (h:S=[]) (e:r= -1):yM S x n r
 |yes (h:0<S.length) (h1:0<=r) (h2:r<n) (e:ec (.list (S.map λ(k:HG)=>.int k)) (.int (x/10%(((S.map λ(k:HG)=>IL k).length:HG):HI)))=hb (.int r)):yM S x n r
theorem anh{S:Hn HG}(h:∀k∈S,k<n)(x:HI):∃r,yM S x n r:=by
 by_cases e:S=[]
 ·exact u9 (-1) (.no e rfl)
 ·have hl:=Pf.mpr e;have zX:=Jt.mpr hl;obtain h2:=(Lz hl).mpr (H9 (x/10) zX);refine u9 (S[(x/10%(S.length:HG)).toNat]:HG) (.yes hl (H3 _) (Jj.mpr (h _ (KM h2))) ?_);rw[Hr];refine iT (Ic (x/10) (Kb zX)) ?_;rw[Iz,HQ h2];rfl
abbrev zSm{dT:Look}(hs:∀q∈seen,md q)(hn:md dT)(z:Z):Z:=
 .lc _ seen.zipIdx (λq=>.tuple [.int (q.2:HG),km q.1]) _ (ahH seen) (λq=>⟨.tuple [.int (q.2:HG),km q.1],.s⟩) (λ_=>rfl) (λq=>bif IX (km q.1) (km dT)then hb (IL (q.2:HG))else Hu) _ (agz seen dT) (λq h=>bB 0 (aoj (hs _ (List.fst_mem_of_mem_zipIdx h)) hn) (λh=>.q _ (by refine h.symm▸?_;rfl:hb (IL (q.2:HG))=bif IX (km q.1) (km dT)then hb (IL (q.2:HG))else Hu)) λh=>.q _ (by refine h.symm▸?_;rfl:Hu=bif IX (km q.1) (km dT)then hb (IL (q.2:HG))else Hu)) z
theorem alm{dT:Look}(hs:∀q∈seen,md q)(hn:md dT)(x:HI):uO (gH (PP S0 A0) c b0) seen dT x:=by
 refine dz (anh (S:=kY seen dT) (λk hk=>ai9 hk) x) λr hr=>⟨r,?_,by rcases hr with⟨_,e⟩|⟨_,h,_,_⟩<;>lia -abstractProof,by rcases hr with⟨_,e⟩|⟨_,_,h,_⟩<;>lia -abstractProof⟩;have hy:kY seen dT≠[]->(0:HI)<(((kY seen dT).map λ(k:HG)=>IL k).length:HG)/\ec (.list ((kY seen dT).map λ(k:HG)=>.int k)) (.int (x/10%((((kY seen dT).map λ(k:HG)=>IL k).length:HG):HI)))=hb (.int r):=λh=>by
  rcases hr with⟨e,_⟩|⟨hl,_,_,hi⟩
  ·exact IG e h
  ·exact⟨by rw[Hr];exact Jt.mpr hl,hi⟩
 have hz:(kY seen dT).isEmpty=Hq->r= -1:=λh=>by
  rcases hr with⟨_,e⟩|⟨hl,_,_,_⟩
  ·exact e
  ·rw[IC.mp h]at hl;cases hl
 have nn:(kY seen dT).isEmpty=HH->kY seen dT≠[]:=λh e=>by rw[e]at h;cases h
 exact xF λt=>zSm hs hn<|fB 1 (amL (kY seen dT))<|.br (kY seen dT).isEmpty (λh=>t (.int (-1)) ((hz h)▸rfl)) λh=>fV 2 (ji (a:=x/10) (hy (nn h)).1)<|fX 0 (hy (nn h)).2<|t _ rfl
noncomputable def yv(o:Hn (Hn HG×HI)):HG->Hn (HI×HP)
 |0=>[]
 |j+1=>match o[j]?with
  |some p=>nG (yv o j) p.2 (S p.1)
  |none=>yv o j
theorem afl(B:Hn (HI×HP))(k:HI)(v:HP):(nG B k v).length<=B.length+1:=by
 unfold nG;cases B.any λp=>decide (p.1=k)with
 |true=>exact JZ (JY (Hr _))
 |false=>exact JY HN
theorem aiZ(o:Hn (Hn HG×HI)):∀j,(yv o j).length<=j:=by
 intro j;induction j with
 |zero=>exact Io _
 |succ j this=>
  show(match o[j]?with|some p=>nG (yv o j) p.2 (S p.1)|none=>yv o j).length<=_;cases o[j]?with
  |none=>exact JZ this
  |some p=>exact Hs (afl _ _ _) (Jv this)
def Gp(st:eP)(n:Hn HG):Ho:=bif(st.held.lookup n).isSome then .str ((rf (yv st.bG st.bG.length) (eG st (bg st n))).getD "")else .none
def kW(st:eP)(ns:Hn (Hn HG)):Look:=((sL ((di st).map S)).map .str,ns.map (Gp st))
theorem ago(st:eP)(n:Hn HG):plain 1 (Gp st n):=by
 unfold Gp;cases(st.held.lookup n).isSome with
 |true=>exact bR _
 |false=>exact aaw
theorem adQ(st:eP)(ns:Hn (Hn HG)):md (kW st ns):=by
 refine b8 (ic (k:=2) λx hx=>?_) (by decide);rcases Hw.mp hx with rfl|hx
 ·refine cU λy hy=>aQ (HX.mp hy) λs o1 o2=>?_;subst o2;exact bR s
 ·refine(HB.mp hx).symm▸cU λy hy=>aQ (HX.mp hy) λn o1 o2=>?_;subst o2;exact ago st n
theorem aek(l:Hn (Hn HG)):sx (l.map aB)=hb (l.map S):=by
 induction l with
 |nil=>exact rfl
 |cons n l bY=>show(hb (S n)).bind (λk=>(sx (l.map aB)).map (k::·))=_;refine bY.symm▸?_;rfl
theorem aim{l:Hn (Hn HG)}(h:l.length<64):y6 [⟨.list (l.map aB),.d⟩]=hb ⟨.list ((sL (l.map S)).map .str),.d⟩:=by
 show(sx (l.map aB)).bind _=_
 ((rw[aek];dsimp only[HT]);exact(H5 (by rw[Hr];exact h)))
def lkI(st:eP)(ns:Hn (Hn HG))(h:Hn (HI×HP)):En:=[("_law_state",sh (fG st)),("_law_names_here",sh (.list (ns.map aB))),("_law_up",D (.list ((di st).map aB))),("_law_homes",.own (.lq h))]
theorem al1(B:Hn (HI×HP))(i:HI):y5 ⟨oh B,f⟩ ⟨.int i,.d⟩ ⟨.str "",.d⟩=hb ⟨.str ((rf B i).getD ""),.d⟩:=by show(yc (oh B)).bind _=_;rw[acf];show hb (match rf B i with|some x=>(⟨.str x,.d⟩:V)|none=>⟨.str "",.d⟩)=_;cases rf B i<;>rfl
theorem aho(hh:∀uW,eX st uW)(h:(st.held.lookup uW).isSome=Hq):dR st uW:=by obtain⟨i,e⟩:=IV.mp h;exact i12 i e (hh uW i e)
theorem aly(hl:st.bG.length<64){p:Hn HG×HI}(hp:st.bG[j]? =hb p){h:Hn (HI×HP)}(r:h=yv st.bG j):h.length<10000:=by have:=aiZ st.bG j;have:=(H2.mp hp).1;exact r.symm▸M6 (M6 (HC ‹_› this) hl) (by decide)
variable{o:Hn (Hn HG×HI)}
theorem ai5{p:Hn HG×HI}(hp:o[j]? =hb p)(r:hZq=yv o j):nG hZq p.2 (S p.1)=yv o (j+1):=by show _=match o[j]?with|some p=>nG (yv o j) p.2 (S p.1)|none=>yv o j;rw[hp,r]
def DF(st:eP)(h:Hn (HI×HP))(n:Hn HG):Ho:=bif(st.held.lookup n).isSome then .str ((rf h (eG st (bg st n))).getD "")else .none
theorem amg(st:eP)(ns:Hn (Hn HG))(hh:∀n,eX st n)(hl:st.bG.length<64):(gH (PP S0 A0) c b0).F "_law_look_of" [fG st,(.list (ns.map aB))]=hb (km (kW st ns)):=
 xF λt=>lN fE (ad0 st.bG)<|fr st.bG fE (λ_ h=>lkI st ns h) (λj h=>h=yv st.bG j) [] rfl (λj p hp h r e=>fC 0 (aly hl hp r)<|e (lkI st ns (nG h p.2 (S p.1))) ⟨_,ai5 hp r,rfl⟩) λh r=>wi _ ns aB (λ_=>rfl) (λn=>hb (DF st h n)) _ (Kx Je _) (λn _=>bB 0 (og n st.held) (λg=>fX 1 (aho hh g).get.1<|fX 0 (aho hh g).get.2<|fV 1 (al1 (f:=.s) h (eG st (bg st n)))<|.q _ (by unfold DF;refine g.symm▸?_;rfl:hb (JF ((rf h (eG st (bg st n))).getD ""))=hb (DF st h n))) λg=>.q _ (by unfold DF;refine g.symm▸?_;rfl:hb OI=hb (DF st h n)))<|fV 0 (aim (l:=di st) (by unfold di;rw[Hr];exact hl))<|t (km ((sL ((di st).map S)).map .str,ns.map (DF st h))) (by refine(show h=_ from r).symm▸?_;rfl)
def ai7(c:JC):Prop:=∀(st:eP)(ns:Hn (Hn HG)),(∀n,eX st n)->st.bG.length<64->c.F "_law_look_of" [fG st,(.list (ns.map aB))]=hb (km (kW st ns))
def aiR(c:JC):Prop:=∀(seen:Hn Look)(dT:Look)(x:HI),(∀q∈seen,md q)->md dT->uO c seen dT x
def adU(c:JC):Prop:=∀(x:HI)(ps:aP)(ns:Hn (Hn HG))(st:eP),aZ ps->0<ps.length->0<ns.length->(∀n∈ns,bV n)->(∀n,eX st n)->(∀p∈di st,p∈ps.map (·.1))->∃r,c.F "_law_next" [.int x,(.list (ps.map aF)),(.list (ns.map aB)),fG st]=hb (av r)/\uH ps st r
def tO(c:JC):Prop:=∀(ps:aP)(st:eP)(r:Row),ps.length<=900->uC st->w0 st r->c.M "_law_deed" [(.list (ps.map aF)),fG st,av r]=hb (fG (d7 ps st r))
structure wH(c:JC):Prop where
 look:ai7 c
 back:aiR c
 next:adU c
 A8:tO c
theorem sR(a b:HI):bW .Eq (.int a) (.int b)=hb (decide (a=b)):=by(refine(AO (b8 (eT a) (by decide)) (b8 (eT b) (by decide))).trans ?_;dsimp only[IX]);rfl
theorem adk{l:Hn Ho}{a:Ho}:ec (.list (l++[a])) (.int (-1))=hb a:=by show eZ (l++[a]) (-1)=hb a;(refine iF (by decide) ?_;rw[H5 (by rw[HN];show-((l.length+1:HG):HI)<= -1;exact Rat.intCast_le_intCast.mp rfl),HN]);(refine(show(-1+((l.length+1:HG):HI)).toNat=l.length by lia -abstractProof).symm▸?_;exact List.getElem?_concat_length)
structure xZ(ps:aP)(j:HG)(rs:Hn Row)(seen:Hn Look)(st:eP):Prop where
 inv:Inv ps j st
 len:seen.length=rs.length
 cnt:rs.length+st.bG.length<=2*j
 lk:∀q∈seen,md q
 ok:∀r∈rs,c0 ps rs.length r
theorem xZ.room(h:xZ ps j rs seen st)(hj:j<=100):uC st:=by have:=h.inv.gv;exact⟨HC (Hs (Hs (Jl _ _) this) hj) (by decide),HC h.inv.held (HC hj (by decide)),HC h.inv.aC (HC hj (by decide)),HC h.inv.told (HC hj (by decide)),HC (Hs this hj) (by decide)⟩
def Gd(ps:aP)(ns:Hn (Hn HG))(rs seen:Hn Ho)(st:eP):En:=[("_law_plots_here",sh (.list (ps.map aF))),("_law_names_here",sh (.list (ns.map aB))),("_law_rows",.own (.lst rs)),("_law_seen",.own (.lst seen)),("_law_state",.own (.tree Hu (fG st)))]
abbrev CS:=Hn Row×Hn Look×eP
def DL(ps:aP)(ns:Hn (Hn HG))(s:CS):En:=Gd ps ns (s.1.map av) (s.2.1.map km) s.2.2
theorem ny{ts:Hn Row}(h:∀r∈rs,c0 ps rs.length r)(h':∀r∈ts,c0 ps ((rs.length+ts.length:HG):HI) r):∀r∈rs++ts,c0 ps ((rs++ts).length:HG) r:=by
 refine HN.symm▸?_;intro r hr;rcases HD.mp hr with hr|hr
 ·exact(h r hr).more (Int.le.intro _ rfl)
 ·exact h' r hr
variable{q:Look}
theorem qh(h:∀q∈seen,md q)(hq:md q):∀p∈seen++[q],md p:=λp hp=>(HD.mp hp).elim (h p) λhp=>HB.mp hp▸hq
theorem afz(ps:aP)(st:eP)(r:Row):(d7 ps st r).bG.length<=st.bG.length+1:=by
 cases r with
 |op p=>exact JY HN
 |give p=>exact JZ (KY _ _)
 |_=>exact J1 _
theorem ani(aH:xZ ps j rs seen st)(hq:md q){t:HI}(ht:0<=t/\t<=(rs.length:HI)+2):xZ ps (j+1) (rs++[.fork (((rs.map av).length:HG)+2),.go t]) ((seen++[q])++[q]) st:=by
 have:=aH.cnt;refine⟨aH.inv.mono (J1 j),by(refine HN.symm▸?_;refine HN.symm▸HN.symm▸aH.len.symm▸?_);rfl,by exact HN.symm▸Hs (JY (LD _ 2 _)) (Im this 2),qh (qh aH.lk hq) hq,ny aH.ok λr hr=>?_⟩;rcases Hw.mp hr with rfl|hr
 ·rw[Hr];exact⟨H3 (_+2),LH _⟩
 ·exact(HB.mp hr).symm▸And.comm.mp (id (And.symm ht))
theorem apv(aH:xZ ps j rs seen st)(hq:md q){t:HI}(ht:0<=t/\t<=(rs.length:HI)+1):xZ ps (j+1) (rs++[.fork t]) (seen++[q]) st:=by have:=aH.cnt;refine⟨aH.inv.mono (J1 j),by(refine HN.trans ?_;(refine HN.symm▸aH.len.symm▸?_));rfl,by exact HN.symm▸Hs (JY (LA _ _)) (JZ (Jv this)),qh aH.lk hq,ny aH.ok λr hr=>?_⟩;exact(HB.mp hr).symm▸And.comm.mp (id (And.symm ht))
theorem cr2{a b:Row}{p:Look}:DL ps ns (rs++[a,b],(seen++[p])++[q],st)=Gd ps ns ((rs.map av++[av a])++[av b]) ((seen.map km++[km p])++[km q]) st:=by unfold DL;(refine HJ.symm▸?_;rw[HJ,HJ,I6 (as:=rs.map av)]);rfl
theorem cr1{a:Row}:DL ps ns (rs++[a],seen++[q],st)=Gd ps ns (rs.map av++[av a]) (seen.map km++[km q]) st:=by unfold DL;(refine HJ.symm▸HJ.symm▸?_);rfl
theorem uO.ex{dT:Look}(h:uO c seen dT x):∃r,c.F "_law_back" [.list (seen.map km),km dT,.int x]=hb (.int r)/\ -1<=r/\r<seen.length:=by obtain⟨r,h,h1,h2⟩:=h;exact rM r h h1 h2
theorem apz(aH:xZ ps j rs seen st)(hq:md q){w:Row}(hx:uH ps st w):xZ ps (j+1) (rs++[w]) (seen++[q]) (d7 ps st w):=by refine⟨qY aH.inv (lu aH.inv hx.wr) λp e=>by have:=hx.ok;rw[e]at this;exact this,by(refine HN.trans ?_;(refine HN.symm▸aH.len.symm▸?_));rfl,?_,qh aH.lk hq,ny aH.ok λr hr=>by exact(HB.mp hr).symm▸hx.ok.any hx.mv⟩;have:=afz ps st w;have:=aH.cnt;exact HN.symm▸l17 ‹_› this
variable{a b:HI}{q:Ig}
theorem As(h:decide (a>b)=q):bW .Gt (.int a) (.int b)=hb q:=HL hb h
theorem F8(h:decide (a<b)=q):bW .Lt (.int a) (.int b)=hb q:=HL hb h
theorem F6(h:decide (a<0)=q):bW .GtE (.int a) (.int 0)=hb (!q):=by
 subst h;refine HL hb ?_;by_cases g:a<0
 ·exact(Ip g).symm▸Iw (Mx.mpr g)
 ·exact(Iw g).symm▸Ip (Kq.mp g)
theorem A6(h:decide (a=b)=q):bW .Eq (.int a) (.int b)=hb q:=h▸sR a b
section
variable{r:HI}{w:Row}(lb:xZ ps j rs seen st)(gu:j<60)
include lb gu
theorem Fy:(rs.map av).length<10000:=by rw[Hr];have:=lb.cnt;exact NV (y7 gu this)
theorem cl2(a:Ho):(rs.map av++[a]).length<10000:=by rw[HN,Hr];have:=lb.cnt;exact y7 gu this
theorem FA:(seen.map km).length<10000:=by rw[Hr,lb.len];have:=lb.cnt;exact NV (y7 gu this)
theorem cl4(a:Ho):(seen.map km++[a]).length<10000:=by rw[HN,Hr,lb.len];have:=lb.cnt;exact y7 gu this
def zCt(H:wH c)(P:aZ ps)(hr: -1<=r/\r<seen.length)(hw:c.F "_law_next" [.int x,(.list (ps.map aF)),(.list (ns.map aB)),fG st]=hb (av w))(hx:uH ps st w)(e:(l:En)->(∃y:CS,xZ ps (j+1) y.1 y.2.1 y.2.2/\DL ps ns y=l)->Z):Z:=
 have lk:=adQ st ns;have hl:=lb.len
 .cs (decide (x%10>7)) (λhA=>.cs (decide (r<0))
  (λhB=>fB 2 (As hA)<|fB 1 (F8 hB)<|fC 0 (FA lb gu)<|fC 3 (Fy lb gu)<|fC 0 (cl4 lb gu (km (kW st ns)))<|fB 2 (As hA)<|fB 0 (F6 hB)<|fB 1 (As hA)<|fC 3 (cl2 lb gu (av (.fork (((rs.map av).length:HG)+2))))<|e _ ⟨(rs++[.fork (((rs.map av).length:HG)+2),.go ((((rs.map av)++[av (.fork (((rs.map av).length:HG)+2))]).length:HG)+1)],(seen++[kW st ns])++[kW st ns],st),ani lb lk ⟨H3 (_+1),by refine HN.symm▸?_;rw[Hr];exact LH _⟩,cr2⟩)
  λhB=>.cs (decide (x/10%3=1))
   (λhC=>fB 2 (As hA)<|fB 1 (F8 hB)<|fB 2 (A6 hC)<|fC 0 (FA lb gu)<|fC 3 (Fy lb gu)<|fC 0 (cl4 lb gu (km (kW st ns)))<|fB 2 (As hA)<|fB 0 (F6 hB)<|fB 3 (A6 hC)<|fC 3 (cl2 lb gu (av (.fork (((rs.map av).length:HG)+2))))<|e _ ⟨(rs++[.fork (((rs.map av).length:HG)+2),.go r],(seen++[kW st ns])++[kW st ns],st),ani lb lk ⟨Kq.mp (Ji hB),HY (IZ (hl▸hr.2)) (Kp (by decide))⟩,cr2⟩)
   λhC=>fB 2 (As hA)<|fB 1 (F8 hB)<|fB 2 (A6 hC)<|fC 0 (FA lb gu)<|fB 2 (As hA)<|fB 0 (F6 hB)<|fB 3 (A6 hC)<|fC 3 (Fy lb gu)<|e _ ⟨(rs++[.fork r],seen++[kW st ns],st),apv lb lk ⟨Kq.mp (Ji hB),HY (IZ (hl▸hr.2)) (Kp (by decide))⟩,cr1⟩)
 λhA=>fB 2 (As hA)<|fC 0 (FA lb gu)<|fB 2 (As hA)<|fB 1 (As hA)<|fX 0 hw<|fC 0 (Fy lb gu)<|fX 0 (adk (l:=rs.map av) (a:=av w))<|fL (fe w)<|fC 0 (fe w)<|fX 0 (H.A8 ps st w (Hs P.len (by decide)) (lb.room (LS (Hs gu (by decide)))) (lu lb.inv hx.wr))<|e _ ⟨(rs++[w],seen++[kW st ns],d7 ps st w),apz lb lk hx,cr1⟩
end
structure yb(ps:aP)(m j:HG)(rs:Hn Row)(st:eP):Prop where
 inv:Inv ps j st
 cnt:rs.length+st.bG.length<=2*m
 all:j+st.bG.length<=200
 ok:∀r∈rs,c0 ps rs.length r
def cwX(ps:aP)(rs:Hn Ho)(st:eP):En:=[("_law_plots_here",sh (.list (ps.map aF))),("_law_rows",.own (.lst rs)),("_law_state",.own (.tree Hu (fG st)))]
theorem aln(l:Hn (Hn HG×HI)):bW .NotEq (.list (l.map dm)) (.list [])=hb (!l.isEmpty):=by
 cases l with
 |nil=>rfl
 |cons x l=>(refine(Bc (b8 (cU λy hy=>by refine aQ (HX.mp hy) λa o1 o2=>?_;subst o2;exact aaB _) (by decide)) (b8 (cU (k:=1) λy hy=>(Ia hy).elim) (by decide))).trans ?_;dsimp only[HS,IX,KE]);rfl
noncomputable def wW(st:eP):Hn HG×HI:=st.bG.headD ([],0)
section
variable(lb:yb ps m j rs st)(By:(!st.bG.isEmpty)=Hq)
include By
theorem amR:ec (.list (st.bG.map dm)) (.int 0)=hb (dm (wW st)):=by
 unfold wW;revert By;cases st.bG with
 |nil=>exactλh=>nomatch h
 |cons p t=>exactλ_=>rfl
include lb
theorem yb.give(P:aZ ps):yb ps m (j+1) (rs++[.give (wW st).1]) (d7 ps st (.give (wW st).1))/\(d7 ps st (.give (wW st).1)).bG.length<st.bG.length:=by
 obtain⟨p,t,e⟩:∃p t,st.bG=p::t:=by
  revert By;cases st.bG with
  |nil=>exactλh=>nomatch h
  |cons p t=>exactλ_=>⟨p,t,rfl⟩
 obtain eh:wW st=p:=by unfold wW;refine e.symm▸?_;rfl
 refine eh.symm▸?_;have m9:=lb.inv.up p.1 (Nn (by exact e.symm▸.head _));obtain⟨u,hu⟩:=qo P m9;obtain hl:(d7 ps st (.give p.1)).bG.length<st.bG.length:=by show(st.bG.filter λq=> !dC ps p.1 q).length<_;refine e.symm▸JN.symm▸(show dC ps p.1 p=Hq from Ip (by exact hu.symm▸.head _)).symm▸?_;exact K6 (KY _ t)
 have:=lb.cnt;have:=lb.all;exact⟨⟨qY lb.inv trivial (λ_ q=>Row.noConfusion q),by exact HN.symm▸Hs (Hs (JY (LA _ _)) (Ij hl _)) ‹_›,Hs (Hs (JY (LA _ _)) (Ij hl _)) this,ny lb.ok λr hr=>by exact(HB.mp hr).symm▸m9⟩,hl⟩
omit By in
theorem yb.room:uC st:=by have:=lb.inv.gv;have:=lb.all;exact⟨HC (Hs (Jl _ _) this) (by decide),HC lb.inv.held (HC (Hs (Ib _ _) this) (by decide)),HC lb.inv.aC (HC (Hs (Ib _ _) this) (by decide)),HC lb.inv.told (HC (Hs (Ib _ _) this) (by decide)),HC (Hs ‹_› (Hs (Ib _ _) this)) (by decide)⟩
end
inductive lA(c:JC)(B:Hn HI)(ps:aP)(ns:Hn (Hn HG)):Prop
 |mk (rs:Hn Row) (h:c.F "_law_careful" [.list (aq B),(.list (ps.map aF)),(.list (ns.map aB))]=hb (.list (rs.map av))) (h1:rs.length<=2*B.length) (h2:∀r∈rs,c0 ps rs.length r):lA c B ps ns
def zCw(R:m<60)(H:wH c)(P:aZ ps)(aH:yb ps m m rs st)(e:(y:Ho)->(∃rs:Hn Row,y=.list (rs.map av)/\rs.length<=2*m/\∀r∈rs,c0 ps rs.length r)->Z):Z:=
 wh (λs:Hn Row×eP×HG=>cwX ps (s.1.map av) s.2.1) (λs=>yb ps m s.2.2 s.1 s.2.1) (λs=>s.2.1.bG.length) (rs,st,m) aH (by have:=aH.all;exact HC (Hs (Jl _ _) this) (by decide)) λs r t=>bB 2 (aln s.2.1.bG)
  (λho=>fX 1 (amR ho)<|fL (fE (wW s.2.1))<|fC 2 (show(s.1.map av).length<10000 by rw[Hr];have:=r.cnt;exact NV (y7 R this))<|fX 0 (adk (l:=s.1.map av) (a:=av (.give (wW s.2.1).1)))<|fX 1 (H.A8 ps s.2.1 (.give (wW s.2.1).1) (Hs P.len (by decide)) r.room trivial)<|t (cwX ps (s.1.map av++[av (.give (wW s.2.1).1)]) (d7 ps s.2.1 (.give (wW s.2.1).1))) ⟨(s.1++[.give (wW s.2.1).1],d7 ps s.2.1 (.give (wW s.2.1).1),s.2.2+1),(r.give ho P).1,(r.give ho P).2,by refine HJ.symm▸?_;rfl⟩)
  λ_=>e (.list (s.1.map av)) ⟨s.1,rfl,by have:=r.cnt;exact Nat.le_of_add_right_le this,r.ok⟩
theorem aex(H:wH c)(hf:c.T "_law_fresh"=hb (fG vQ))(B:Hn HI)(hx:B.length<60)(P:aZ ps)(hp:0<ps.length)(hn:0<ns.length)(l7:∀n∈ns,bV n):lA (gH (PP S0 A0) c b0) B ps ns:=by
 have bk {j:HG} {s:CS} (r:xZ ps j s.1 s.2.1 s.2.2) (x:HI):=(H.back s.2.1 (kW s.2.2 ns) x r.lk (adQ s.2.2 ns)).ex;have nx {j:HG} {s:CS} (r:xZ ps j s.1 s.2.1 s.2.2) (x:HI):=H.next x ps ns s.2.2 P hp hn l7 r.inv.jr r.inv.up;have lt {j:HG} {x:HI} (h:B[j]? =hb x):j<B.length:=(H2.mp h).1;obtain hE:∃y,(gH (PP S0 A0) c b0).F "_law_careful" [.list (aq B),(.list (ps.map aF)),(.list (ns.map aB))]=hb y/\∃rs:Hn Row,y=.list (rs.map av)/\rs.length<=2*B.length/\∀r∈rs,c0 ps rs.length r:=by exact xE λe=>fX 0 hf<|fr B (p:=IL) (λ_=>rfl) (λ_ s=>DL ps ns s) (λj (s:CS)=>xZ ps j s.1 s.2.1 s.2.2) ([],[],vQ) ⟨yR ps,rfl,Io _,(λ_ h=>nomatch h),(λ_ h=>nomatch h)⟩ (λj x h s r e=>fX 0 (H.look s.2.2 ns r.inv.jr (by have:=r.inv.gv;have:=lt h;exact M6 (HC (Hs (Jl _ _) ‹_›) (M6 this hx)) (by decide)))<|fX 0 (bk r x).choose_spec.1<|zCt r (by have:=lt h;exact M6 this hx) H P (bk r x).choose_spec.2 (nx r x).choose_spec.1 (nx r x).choose_spec.2 e) λs r=>zCw hx H P ⟨r.inv,r.cnt,by have:=r.cnt;exact Hs (Js (IK hx) (Hs (Hs (Jl _ _) this) (Kj 2 (IK hx)))) (by decide),r.ok⟩ e
 obtain⟨y,h,rs,rfl,h1,h2⟩:=hE;exact⟨rs,h,h1,h2⟩
structure fF(ps:aP)(rs:Hn Row):Prop where
 len:rs.length<=60
 ok:∀r∈rs,c0 ps rs.length r
theorem tI{l:Hn α}{i:HG}{d:α}{P:α->Prop}(h:∀a∈l,P a)(hd:P d):P ((l[i]?).getD d):=by
 cases e:l[i]?with
 |none=>exact hd
 |some a=>exact h a (Il e)
theorem all1{P:α->Prop}{a:α}{l:Hn α}(h:P a)(t:∀x∈l,P x):∀x∈a::l,P x:=λx hx=>(Hw.mp hx).elim (λe=>e▸h) (t x)
theorem pR{P:α->Prop}:∀x∈([]:Hn α),P x:=λ_ h=>nomatch h
theorem all2{P:α->Prop}{l m:Hn α}(h:∀x∈l,P x)(t:∀x∈m,P x):∀x∈l++m,P x:=λx hx=>(HD.mp hx).elim (h x) (t x)
theorem r7{P:β->Prop}{f:α->β}{l:Hn α}(h:∀a∈l,P (f a)):∀x∈l.map f,P x:=λx hx=>by
 refine aQ (HX.mp hx) λa ha o1=>?_;subst o1;exact h a ha
theorem af6(l:Hn HI)(hn:0<ns.length)(l7:∀n∈ns,bV n):fF [] ((eE l).map (jL ns (eE l).length)):=by
 refine⟨by rw[Hr];exact K3 (nk l),r7 λx _=>?_⟩;rw[Hr];obtain k:=λi=>l7 _ (jg hn i);obtain e:0<=cP x/1013%(((eE l).length:HI)+1)/\cP x/1013%(((eE l).length:HI)+1)<=((eE l).length:HI):=by obtain h1:=Ic (cP x/1013) (show((eE l).length:HI)+1≠0 by exact K9 (Nk rfl));obtain h2:=H9 (cP x/1013) (show 0<((eE l).length:HI)+1 by exact LG _);exact⟨h1,KF h2⟩
 exact tI (all1 (k _) (all1 ⟨k _,k _⟩ (all1 ⟨k _,k _⟩ (all1 e (all1 e (all1 trivial pR)))))) trivial
theorem ams(hn:0<ns.length)(l7:∀n∈ns,bV n)(hp:p∈ps.map (·.1))(x:HI):fF ps (zK ns x p):=by
 have k:=λi=>l7 _ (jg hn i);obtain hB:(amY ns x p).length=(mM ns x p (x/3%4).toNat).length+4:=by(refine HN.trans<|HN.symm▸?_);rfl
 obtain hS:(zK ns x p).length=(mM ns x p (x/3%4).toNat).length+6:=by(refine HN.trans<|hB.symm▸?_);rfl
 refine⟨by(refine hS.symm▸?_;refine(nE ns x p (x/3%4).toNat).symm▸?_);exact Hs (Im (DK (n:=3) _ (by decide) (by decide)) 7) (by decide),?_⟩;refine hS.symm▸?_;obtain R:((mM ns x p (x/3%4).toNat++[Row.lay (dv ns x) p 5]).map av).length=(mM ns x p (x/3%4).toNat).length+1:=by(rw[Hr];refine HN.trans ?_);rfl
 obtain lay:∀i:HI,-1000000000000000000<=i->i<=1000000000000000000->∀n,bV n->c0 ps (((mM ns x p (x/3%4).toNat).length+6:HG):HI) (.lay n p i):=λi h1 h2 n hn=>⟨hn,hp,h1,h2⟩;refine all2 (all2 (all2 (all1 hp (r7 λj hj=>?_)) (all1 (lay 5 (by decide) (by decide) _ (k _)) pR)) (all1 ?_ (all1 hp (all1 ?_ pR)))) (all1 (tI (all1 (k _) (all1 (lay 1 (by decide) (by decide) _ (k _)) (all1 ⟨k _,k _⟩ (all1 ⟨k _,k _,hp⟩ (all1 trivial (all1 hp pR)))))) trivial) (all1 hp pR))
 ·have:=JK.mp hj;exact lay j (MM 1000000000000000000 _) (HY (I4.mpr (IK (I0 this (DK _ (n:=3) (by decide) (by decide))))) (by decide)) _ (k _)
 ·exact R.symm▸⟨H3 (_+4),I4.mpr (Ij (by decide:4<=6) _)⟩
 ·exact R.symm▸⟨H3 (_+1),I4.mpr (Ij (by decide:1<=6) _)⟩
theorem agK(l:Hn HI)(hz:bV [122,122]):fF ps (qJ l):=by
 have R:12<=d5 l/\d5 l<=51:=by exact w7 _ (by decide) (by decide) (by decide)
 obtain hl:(qJ l).length=(d5 l).toNat+3:=by(refine HN.trans ?_;rw[Hr,Iy]);rfl
 refine⟨by exact hl.symm▸Im (DP R (by decide)) 3,?_⟩;refine hl.symm▸all2 (r7 λj hj=>?_) (all1 ?_ (all1 trivial (all1 ?_ pR)))
 ·have:=JK.mp hj;exact⟨H3 (_+1),I4.mpr (Hs this (Ib _ 3))⟩
 ·exact⟨Mz (HY (by decide) R.1) (by decide),tn3 (by decide) R (by decide)⟩
 ·unfold q8;cases cK l 4/2%3==1 with
  |true=>show 0<=_/\_<=_;exact⟨Mz (HY (by decide) R.1) (by decide),tn3 (by decide) R (by decide)⟩
  |false=>exact hz
theorem ah5(hn:0<ns.length)(l7:∀n∈ns,bV n)(ha:0<as.length)(hp:∀p∈as,p∈ps.map (·.1))(x size:HI):∀r∈sW ns as x,c0 ps size r:=by
 obtain k:=λi=>l7 _ (jg hn i);have q:=λi=>hp _ (jg ha i);obtain h0:as.headD []∈ps.map (·.1):=by
  cases as with
  |nil=>cases ha
  |cons a t=>exact hp a (.head _)
 refine all2 (all2 (r7 λp h=>hp p h) (r7 λj hj=>?_)) (all1 h0 pR);have:=JK.mp hj;exact yW (k _) (q _) (MM 1000000000000000000 _) (HY (I4.mpr (IK (I0 this (DM _ (n:=3) (by decide) (by decide))))) (by decide))
theorem ack(hn:0<ns.length)(l7:∀n∈ns,bV n)(ha:0<as.length)(hp:∀p∈as,p∈ps.map (·.1))(x size:HI):∀j,∀r∈iW ns as x j,c0 ps size r
 |0=>pR
 |j+1=>all2 (ack hn l7 ha hp x size j) (ah5 hn l7 ha hp x size)
theorem ah9(H:aZ ps)(h0:0<ps.length)(hn:0<ns.length)(l7:∀n∈ns,bV n)(x:HI):fF ps (wU ps ns x):=by
 refine dz (qo H (rn h0 x)) λt hu=>?_;obtain ha:0<(up ps (gw ps x)).reverse.length:=by(refine JG.symm▸?_;refine hu.symm▸?_);exact KW _
 refine⟨?_,ack hn l7 ha (λp h=>amQ (MP.mp h)) x _ _⟩;have:=nH (ns:=ns) (as:=(up ps (gw ps x)).reverse) x (by exact JG.symm▸(vE H (gw ps x))) (2+x/12%2).toNat;exact Hs this (Hs (Kj 16 (DM (n:=3) _ (by decide) (by decide))) (by decide))
theorem qB(c k:HI)(n:HG):(eQ c k n).length=(fU c k n).toNat:=by unfold eQ;(rw[Hr];exact Iy)
theorem aaK(a:HG)(t s:Hn α):(t.take a++s++t.drop a).length=t.length+s.length:=by(refine HN.trans ?_;rw[HN,LD,<-HN,L0])
theorem aa8(x k:HI)(h1:1<=rP.length)(h2:rP.length<=8)(hs:∀a∈rP,97<=a/\a<=122):bV (eJ x k rP):=by have hl:(eJ x k rP).length=(fU x k rP.length).toNat+rP.length:=(aaK _ _ _).trans (by rw[qB]);have ht:∀a∈eQ x k rP.length,97<=a/\a<=122:=r7 λj _=>⟨Ib _ _,Ij (LS ((Lk (Ic _ (by decide))).mpr (H9 _ (by decide)))) 97⟩;have hz:(fU x k rP.length).toNat+rP.length<=8:=LS (Nat.add_lt_of_lt_sub ((Lk (nW x k h2).1).mpr (QD (JZ h2)▸H9 _ (LU (Jj.mpr (K6 h2))))));refine⟨by rw[hl];exact Hs h1 (Jl _ _),by exact hl.symm▸hz,?_⟩;exact all2 (all2 (λa ha=>ht a (Kc ha)) hs) λa ha=>ht a (Lc ha)
theorem acZ{c k k':HI}(hl:rP.length=s'.length)(h:eJ c k rP=eJ c k' s'):rP=s':=by
 unfold eJ at h;cases hc:c%2==0 with
 |true=>
  have e:∀j,gD c j=c:=λj=>by unfold gD;rw[aw hc,Int.mul_zero,Q0]
  have e1:∀j n,fU c j n=c/26%(9-n):=λj n=>by unfold fU;rw[e]
  obtain e2:∀j n,eQ c j n=eQ c 0 n:=λj n=>by unfold eQ;rw[e1,e1,e,e]
  have e3:∀j n,lQ c j n=lQ c 0 n:=λj n=>by unfold lQ;rw[e1,e1]
  rw[e2 k,e2 k',e3 k,e3 k',<-hl]at h;exact List.append_cancel_left (List.append_cancel_right h)
 |false=>
  have e3:∀j n,lQ c j n=fU c j n:=λj n=>by unfold lQ;refine hc.symm▸?_;rfl
  have e4:∀j n,(eQ c j n).take (lQ c j n).toNat=eQ c j n:=λj n=>by(rw[e3,<-qB];exact JD)
  have e5:∀j n,(eQ c j n).drop (lQ c j n).toNat=[]:=λj n=>by(rw[e3,<-qB];exact KN)
  rw[e4,e4,e5,e5,IA,IA]at h;exact(List.append_inj' h hl).2
theorem ai0(l:Hn HI)(h:k<12):bV (lx l k):=aa8 _ _ (by show 1<=1;decide) (by show 1<=8;decide) (all1 (⟨Ib _ _,Hs (Ij (IK h) 97) (by decide)⟩) pR)
theorem agw{l:Hn HI}{i:HG}(h:lx l i=lx l j):i=j:=by obtain h2:[97+i]=[97+j]:=acZ (c:=cK l 1/3) (k:=i) (k':=j) rfl h;have:=(IP h2).1;exact Pj this
theorem aaY(l:Hn HI):(en l).map (·.1)=(H0 (mF l).toNat).map (lx l):=by refine Ii.trans ?_;rfl
theorem ae6(l:Hn HI):aZ (en l):=by
 obtain R:=adV l;refine⟨?_,λA fq n q e=>?_,by unfold en;rw[Hr,Iy];exact JE.mpr R.2,?_⟩
 ·rw[aaY,Q4,Pw];exact Q1 (λh e=>h (agw e)) List.nodup_range
 ·obtain hk:(en l)[A.length]? =hb (n,hb q):=by(refine e.symm▸?_;(refine(Ld (Io _)).trans ?_;rw[OT]));rfl
  unfold en at hk;rw[Iz]at hk;refine aQ (H6.mp hk) λk hk1 Dc=>?_;clear R;obtain⟨kl,rfl⟩:A.length<(mF l).toNat/\A.length=k:=by refine dz (H2.mp hk1) λh e=>?_;rw[Iy]at h;rw[Ps]at e;exact⟨h,e⟩
  obtain ho:mS l A.length=hb q:=HL NF Dc;obtain hA:A.map (·.1)=(H0 A.length).map (lx l):=by obtain h:=HL (λz=>(z.map (·.1)).take A.length) e;rw[show((A++(n,hb q)::fq).map (·.1)).take A.length=A.map (·.1) by rw[HJ,<-Hr (·.1),List.take_left'];rw[Hr]]at h;refine h▸?_;rw[aaY];exact Lw▸List.take_range.symm▸(Jk (IK kl)).symm▸rfl
  unfold mS at ho;clear kl Dc hk1 e fq;cases hp:decide (mE l A.length<A.length)with
  |false=>rw[hp]at ho;exact no ho
  |true=>rw[hp]at ho;refine hA.symm▸(si ho)▸?_;obtain h1:=IW hp;obtain h0:=(adD l A.length).1;exact Nn (JK.mpr (Jj.mp ((Lu h0).symm▸h1)))
 ·exact r7 λk hk=>ai0 l (by have:=JK.mp hk;exact DC R this (by decide))
theorem qm(x:HI)(k:HI)(h:j<78):bV (eJ x k (nU j)):=aa8 _ _ (by show 1<=2;decide) (by show 2<=8;decide) (all1 (⟨Ib _ _,Ij (Hs (IK (Pd h:_/26<3)) (by decide:3<=25)) 97⟩) (all1 (⟨Nat.le_sub_of_add_le (Ij (LS (Ru _ (by decide))) 97),M1 _ _⟩) pR))
theorem afA(l:Hn HI)(H:aZ ps):∀n∈jz l ps,bV n:=by
 unfold jz;cases cK l 2/5%4==1 with
 |true=>intro n hn;refine aQ (HX.mp (Kc hn)) λp hp o1=>?_;subst o1;exact H.nm p hp
 |false=>exact r7 λk hk=>qm _ _ (by have:=JK.mp hk;exact DC (acg l) this (by decide))
theorem ai1(l:Hn HI)(hp:p∈ps.map (·.1)):fF ps (ko l p++[Row.tell (lC l),Row.give p]):=by
 obtain R:=abY l;obtain hl:(ko l p).length=(dJ l).toNat+1:=by(refine Ju.trans ?_;rw[Hr,Iy])
 refine⟨by(refine HN.symm▸?_;refine hl.symm▸?_);exact Im (DP (n:=57) R (by decide)) 3,all2 (all1 hp (r7 λk hk=>?_)) (all1 ?_ (all1 hp pR))⟩
 ·have:=JK.mp hk;exact yW (qm _ _ (DC R this (by decide))) hp (MM 1000000000000000000 _) (HY (I4.mpr (IK (DC (n:=55) R this (by decide)))) (by decide))
 ·unfold lC;obtain q:=H9 (cK l 4/216) (show 0<dJ l by exact IJ (by decide) R.1);cases cK l 4/72%3==1 with
  |true=>exact qm _ _ ((Lz (by decide)).mpr (IJ q (HY R.2 (by decide))))
  |false=>exact qm _ _ (HC (DP (n:=55) R (by decide)) (by decide))
theorem aiC(f:α->β)(a b:Hp HI)(B ys:Hn α):pP a b (B.map f) (ys.map f)=(pP a b B ys).map f:=by unfold pP;rw[Hr,HJ,HJ,Lw,L8]
theorem akP(k n:HG):Jr (hb (k:HI)) (hb ((k:HI)+1)) Hu n=(((min k n:HG):HI),((min (k+1) n:HG):HI),1):=by
 have cl:∀j:HG,max 0 (min (if(j:HI)<0 then(j:HI)+n else j) (n:HI))=((min j n:HG):HI):=λj=>by
  have h:=Kq.mpr (H3 j);exact(Ir h).symm▸lz h
 exact congr (HL Prod.mk (cl k)) (HL (·,(1:HI)) (cl (k+1)))
theorem adx{B:Hn α}{y:α}{s:HI}(h0:0<=s)(h1:s<max 1 (B.length:HI)):B.length<=(pP (hb s) (hb (s+1)) B [y]).length/\(pP (hb s) (hb (s+1)) B [y]).length<=B.length+1:=by
 obtain⟨k,rfl⟩:=MT h0;unfold pP;rw[HN,HN,J9,Li,akP];generalize B.length=n at*;show n<=min (min k n) n+1+(n-(max ((min k n:HG):HI) (min (k+1) n:HG)).toNat)/\min (min k n) n+1+(n-(max ((min k n:HG):HI) (min (k+1) n:HG)).toNat)<=n+1;refine(MS (I4.mpr (Nat.le_min.mpr ⟨Hs (Mm _ _) (J1 k),I7 _ _⟩))).symm▸?_;rw[ME,Jk (I7 k n)];by_cases h:k<n
 ·refine(Jk (IK h)).symm▸(Jk h).symm▸(Nat.add_sub_of_le h).symm▸?_;exact⟨Io n,J1 n⟩
 ·cases n with
  |zero=>rw[Q2,Q2];exact⟨JS _,Io _⟩
  |succ n=>exact IG (Jj.mp (MS (a:=1) (b:=((n+1:HG):HI)) (I4.mpr (Jv (JS n)))▸h1)) h
theorem alr{P:α->Prop}{B ys:Hn α}{a b:Hp HI}(h:∀x∈B,P x)(t:∀x∈ys,P x):∀x∈pP a b B ys,P x:=all2 (all2 (λx hx=>h x (Kc hx)) t) λx hx=>h x (Lc hx)
theorem akD{w:Row}{s:HI}(h:∀r∈rs,c0 ps rs.length r)(hl:rs.length<=59)(hw:c0 ps rs.length w)(h0:0<=s)(h1:s<max 1 (rs.length:HI)):fF ps (pP (hb s) (hb (s+1)) rs [w]):=by exact ew (adx (y:=w) h0 h1) λl1 l2=>⟨Hs l2 (Jv hl),alr (λr hr=>(h r hr).more (I4.mpr l1)) (all1 (hw.more (I4.mpr l1)) pR)⟩
structure wd(c:JC):Prop where
 at_:qT c
 row:vY c
 Ej:∀l,c.F "_law_is_plain" [(.list (aq l))]=hb (.bool (hV l))
 plain:∀(l:Hn HI)(ns:Hn (Hn HG)),0<ns.length->c.F "_law_plain" [(.list (aq l)),(.list (ns.map aB))]=hb (.list (((eE l).map (jL ns (eE l).length)).map av))
 aj9:∀l,c.F "_law_forks" [(.list (aq l))]=hb (.list ((qJ l).map av))
 many:∀(l:Hn HI)(p:Hn HG×Hp (Hn HG))(pt:aP),c.F "_law_many" [(.list (aq l)),.list ((p::pt).map aF)]=hb (.list ((ko l p.1++[Row.tell (lC l),Row.give p.1]).map av))
 lap:∀(l:Hn HI)(ps:aP)(ns:Hn (Hn HG)),aZ ps->0<ps.length->0<ns.length->c.F "_law_lap" [(.list (aq l)),(.list (ps.map aF)),(.list (ns.map aB))]=hb (.list ((zK ns (cK l 5) (uQ ps)).map av))
 nest:∀(l:Hn HI)(ps:aP)(ns:Hn (Hn HG)),aZ ps->0<ps.length->0<ns.length->c.F "_law_nest" [(.list (aq l)),(.list (ps.map aF)),(.list (ns.map aB))]=hb (.list ((wU ps ns (cK l 5)).map av))
 adp:∀(B:Hn HI)(ps:aP)(ns:Hn (Hn HG)),B.length<60->aZ ps->0<ps.length->0<ns.length->(∀n∈ns,bV n)->lA c B ps ns
theorem apj(n:HI):CE [iV 1,iV n]=hb (iV (max 1 n)):=by
 show hb (⟨.int (if n>1 then n else 1),.d⟩:V)=hb ⟨.int (max 1 n),.d⟩;by_cases h:n>1
 ·exact(H5 h).symm▸(MS (IZ h)).symm▸rfl
 ·exact(Ir h).symm▸(Qg (Kq.mp h)).symm▸rfl
def pv(l:Hn HI):HI:=18+cK l 3/27%7+36*(if decide (cK l 3%3=1)=Hq then 1 else 0)
def zE(l:Hn HI)(k:HG):HI:=cK l (6+(k:HI)%3)/7+7919*k
def tw(l:Hn HI):Hn HI:=(H0 (pv l).toNat).map (zE l)
theorem lA.ex{B:Hn HI}(h:lA c B ps ns):∃rs:Hn Row,c.F "_law_careful" [.list (aq B),(.list (ps.map aF)),(.list (ns.map aB))]=hb (.list (rs.map av))/\rs.length<=2*B.length/\∀r∈rs,c0 ps rs.length r:=by obtain⟨rs,h,h1,h2⟩:=h;exact⟨rs,h,h1,h2⟩
theorem akL(l:Hn HI):18<=pv l/\pv l<=60/\((cK l 3%3==1)=HH->pv l<=24):=by
 unfold pv;by_cases e:cK l 3%3=1
 ·refine(Ip e).symm▸(H5 rfl).symm▸e.symm▸?_;exact⟨Kp (Ic _ (by decide))|>λh=>HY h (Kp (by decide)),Md (w7 (k:=18) (a:=0) (b:=24) _ (by decide) (by decide) (by decide)).2 36,λh=>nomatch h⟩
 ·refine(Iw e).symm▸(Ir ID).symm▸?_;rw[show(36:HI)*0=0 from rfl,Q0];exact have q:=w7 (a:=18) (b:=24) (cK l 3/27) (m:=7) (by decide) (by decide) (by decide);⟨q.1,HY q.2 (by decide),λ_=>q.2⟩
abbrev PrE(ps:aP):Type 1:=(y:Ho)->(∃rs:Hn Row,y=.list (rs.map av)/\fF ps rs)->Z
section
variable(bF:wd c)(se:Hn HI)(BC:aZ ps)(gP:0<ps.length)(p5:0<ns.length)(xy:∀n∈ns,bV n)(zV:PrE ps)
def zSp(hl:rs.length<=48)(ho:∀r∈rs,c0 ps rs.length r):Z:=
 have el:((rs.map av).length:HI)=rs.length:=by rw[Hr]
 have h0:=Ic _ (Kb (IJ (by decide) (Of _ _)));have h1:=H9 _ (IJ (by decide) (Of _ _));have bl:=adx (y:=av (lg (cK se 5) ps ns ((rs.map av).length:HG))) h0 h1
 fX 0 (bF.at_ se 4 (by decide))<|fV 1 (apj (((rs.map av).length:HG):HI))<|fV 0 (ji (a:=cK se 4) (b:=max 1 (((rs.map av).length:HG):HI)) (by exact IJ (by decide) (Of _ _)))<|fX 0 (bF.at_ se 5 (by decide))<|fX 1 (bF.row (cK se 5) ps ns ((rs.map av).length:HG) gP p5 (H3 _))<|fV 0 (show(if 1<=sizeLine then hb (V.eL [av (lg (cK se 5) ps ns ((rs.map av).length:HG))] .d)else Hu)=hb ⟨.list [av (lg (cK se 5) ps ns ((rs.map av).length:HG))],.d⟩from(H5 (by decide)).trans (HL hb (oK [lg (cK se 5) ps ns ((rs.map av).length:HG)] .d)))<|fC 1 (show(rs.map av).length+1<10000 by exact HC (Im (J7 el▸hl) 1) (by decide))<|fC 0 (show(pP (hb (cK se 4%max 1 (((rs.map av).length:HG):HI))) (hb (cK se 4%max 1 (((rs.map av).length:HG):HI)+1)) (rs.map av) [av (lg (cK se 5) ps ns ((rs.map av).length:HG))]).length<10000 from HC bl.2 (by exact HC (Im (J7 el▸hl) 1) (by decide)))<|zV (.list (pP (hb (cK se 4%max 1 (((rs.map av).length:HG):HI))) (hb (cK se 4%max 1 (((rs.map av).length:HG):HI)+1)) (rs.map av) [av (lg (cK se 5) ps ns ((rs.map av).length:HG))])) ⟨_,HL Mw (aiC av _ _ rs [lg (cK se 5) ps ns ((rs.map av).length:HG)]),akD ho (by exact K3 hl) (by exact el▸vN (cK se 5) gP p5 xy (H3 _)) h0 (by exact el▸h1)⟩
def zCe(k:HG){cs:Hn HI}(hc:cs.length<=60)(hd:(cK se 3%3==1)=HH->cs.length<=24):Z:=
 have cr (h:(cK se 3%3==1)=HH):=(bF.adp cs ps (ns.take 6) (by have:=hd h;exact HC (hd h) (by decide)) BC gP (by rw[J9];exact Rv.mpr ⟨by decide,p5⟩) λn h=>xy n (Kc h)).ex;have tk:vF Hu (hb 6) Hu ⟨.list (ns.map aB),.s⟩=hb ⟨.list ((ns.take 6).map aB),.d⟩:=by have tk:=aa4 (B:=ns.map aB) (n:=6) (f:=.s) (by decide) (kD ns);rw[show(ns.map aB).take (6:HI).toNat=(ns.take 6).map aB from Lw.symm]at tk;exact tk
 .br (cK se 3%3==1) (λ_=>wi _ cs IL (λ_=>rfl) (λx=>hb (av (lg x ps ns ((aq cs).length:HG)))) _ (Kx Je _) (λx _=>fX 1 (bF.row x ps ns ((aq cs).length:HG) gP p5 (H3 _))<|.q _ (Mg (hb (av (lg x ps ns ((aq cs).length:HG))))))<|zV (.list (cs.map λx=>av (lg x ps ns ((aq cs).length:HG)))) ⟨cs.map λx=>lg x ps ns ((aq cs).length:HG),by refine Ii.symm▸?_;rfl,by rw[Hr];exact hc,r7 λx _=>by
   have zV:(aq cs).length=cs.length:=Hr _;rw[Hr,zV];exact vN x gP p5 xy (H3 _)⟩)
  λh=>fV 0 tk<|fX 0 (cr h).choose_spec.1<|fC 0 (eK (cr h).choose)<|.br (cK se 3%3==2) (λ_=>zSp bF se gP p5 xy zV (by have:=(cr h).choose_spec.2.1;have:=hd h;lia -abstractProof) (cr h).choose_spec.2.2) λ_=>zV _ ⟨(cr h).choose,rfl,by have:=(cr h).choose_spec.2.1;have:=hd h;lia -abstractProof,(cr h).choose_spec.2.2⟩
end
theorem aeZ(H:wd c)(l:Hn HI)(P:aZ ps)(hp:0<ps.length)(hn:0<ns.length)(l7:∀n∈ns,bV n):
  ∃y,(gH (PP S0 A0) c b0).F "_law_program" [(.list (aq l)),(.list (ps.map aF)),(.list (ns.map aB))]=hb y/\∃rs:Hn Row,y=.list (rs.map av)/\fF (bif hV l then[]else ps) rs:=by
 have a4:=H.at_ l 4 (by decide);have hz:bV [122,122]:=⟨by decide,by decide,by decide⟩;have R:∃aH:Hn Row,c.F "_law_many" [(.list (aq l)),.list (ps.map aF)]=hb (.list (aH.map av))/\fF ps aH:=by
  cases ps with
  |nil=>cases hp
  |cons p pt=>exact⟨_,H.many l p pt,ai1 l (.head _)⟩
 have hs:=akL l;have lc:(tw l).length=(pv l).toNat:=by unfold tw;rw[Hr];exact Iy
 let aH (e:PrE ps):Z:=fS 0<|fX 3 a4<|.br (cK l 3/3%5==1&&cK l 4%2==1) (λ_=>fX 0 (H.aj9 l)<|e _ ⟨_,rfl,agK l hz⟩) λ_=>.br (cK l 3/3%5==1) (λ_=>fX 0 R.choose_spec.1<|e _ ⟨_,rfl,R.choose_spec.2⟩) λ_=>fS 0<|fX 3 a4<|.br (cK l 3/3%5==2&&cK l 4%3==1) (λ_=>fX 0 (H.lap l ps ns P hp hn)<|e _ ⟨_,rfl,ams hn l7 (adF P hp).1 (cK l 5)⟩) λ_=>fS 0<|fX 3 a4<|.br (cK l 3/3%5==2&&cK l 4%3==2) (λ_=>fX 0 (H.nest l ps ns P hp hn)<|e _ ⟨_,rfl,ah9 P hp hn l7 (cK l 5)⟩) λ_=>.br (cK l 3/3%9==4) (λ_=>fB 4 (sR (cK l 3%3) 1)<|fI 2 (fZ (k:=pv l) (HY (by decide) hs.1) (HY hs.2.1 (by decide)))<|wi _ (H0 (pv l).toNat) (λj=>.int (j:HG)) (λ_=>rfl) (λj=>hb (.int (zE l j))) (aq (tw l)) ((Kx Je _).trans (by refine Ii.symm▸?_;rfl)) (λj _=>fX 2 (H.at_ l (6+(j:HI)%3) (Int.zero_le_ofNat (6+_%Int.natAbs 3)))<|.q _ (Mg (hb (IL (zE l j)))))<|zCe H l P hp hn l7 e 0 (cs:=tw l) (by lia -abstractProof) λh=>by have:=hs.2.2 h;lia -abstractProof) λ_=>zCe H l P hp hn l7 e 0 (cs:=eE l) (by have:=nk l;exact K3 this) λ_=>by have:=nk l;exact K3 this
 exact xE λe=>fX 0 (H.at_ l 3 (by decide))<|fV 0 (abQ l (f:=.s))<|fX 0 (H.Ej l)<|.br (hV l) (λg=>fX 0 (H.plain l ns hn)<|e (.list (((eE l).map (jL ns (eE l).length)).map av)) ⟨_,rfl,by exact g.symm▸af6 l hn l7⟩) λg=>aH λy h=>e y (by exact g.symm▸h)
structure WS where
 pl:HG
 tk:HG
 st:eP
noncomputable def kT:Row->Ig
 |.fin=>Hq
 |_=>HH
noncomputable def pY:Row->Ig
 |.go _=>Hq
 |_=>HH
noncomputable def iC:Row->Ig
 |.fork _=>Hq
 |_=>HH
noncomputable def uK(bX:Hn HI)(k:HG):HI:=(bX[k]?).getD 0
def CJ(bX:Hn HI)(k:HG):Ig:= !decide (uK bX k=0)
def stepT(ps:aP)(bX:Hn HI)(r:Row)(s:WS):WS:=match r with
 |.go k=>⟨k.toNat,s.tk,s.st⟩
 |.fork k=>⟨bif CJ bX s.tk then k.toNat else s.pl+1,s.tk+1,s.st⟩
 |r=>⟨s.pl+1,s.tk,d7 ps s.st r⟩
def x7(r:Row)(w:I2):Hp I2:=bif kT r|| !(w=="")then hb (bif w==""then"done"else w)else Hu
noncomputable def fK(ps:aP)(rs:Hn Row)(bX:Hn HI):HG->HG->WS->I2×HG×WS
 |0,j,s=>("going",j,s)
 |n+1,j,s=>match x7 (eD rs s.pl) (aS ps s.st (eD rs s.pl))with
  |some w=>(w,j+1,s)
  |none=>fK ps rs bX n (j+1) (stepT ps bX (eD rs s.pl) s)
variable{bX:Hn HI}{s:WS}
theorem tK:fK ps rs bX (n+1) j s=match x7 (eD rs s.pl) (aS ps s.st (eD rs s.pl))with|some w=>(w,j+1,s)|none=>fK ps rs bX n (j+1) (stepT ps bX (eD rs s.pl) s):=rfl
theorem yZ(h:pY r=Hq):∃k,r=.go k:=by cases r<;>first|exact⟨_,rfl⟩|exact Iu h
theorem tm(h:iC r=Hq):∃k,r=.fork k:=by cases r<;>first|exact⟨_,rfl⟩|exact Iu h
theorem amk(h:kT r=Hq):r=.fin:=by cases r<;>first|rfl|exact Iu h
theorem aa3(h1:pY r=HH)(h2:iC r=HH):stepT ps bX r s=⟨s.pl+1,s.tk,d7 ps s.st r⟩:=by cases r<;>first|rfl|exact Iu h1|exact Iu h2
theorem gx(h:fF ps rs)(k:HG):c0 ps rs.length (eD rs k):=by exact tI (P:=c0 ps rs.length) h.ok trivial
theorem abO(hi:Inv ps j s.st)(hw:aS ps s.st r=""){z:HI}(hr:c0 ps z r):Inv ps (j+1) (stepT ps bX r s).st:=by
 have h:=qY hi (lu hi hw) λp e=>by rw[e]at hr;exact hr
 clear hr z hw;cases r with
 |go k=>exact hi.mono (J1 j)
 |fork k=>exact hi.mono (J1 j)
 |_=>exact h
theorem Inv.room(h:Inv ps j st)(hj:j<=3000):uC st:=by have:=h.gv;exact⟨HC (Hs (Hs (Jl _ _) this) hj) (by decide),HC h.held (HC hj (by decide)),HC h.aC (HC hj (by decide)),HC h.told (HC hj (by decide)),HC (Hs this hj) (by decide)⟩
def sS:WS:=⟨0,0,vQ⟩
structure WR(ps:aP)(rs:Hn Row)(bX:Hn HI)(n j:HG)(s:WS):Prop where
 le:j<=n
 inv:Inv ps j s.st
 eq:fK ps rs bX (n-j) j s=fK ps rs bX n 0 sS
section
theorem WR.zero:WR ps rs bX n 0 sS:=⟨JS _,yR ps,rfl⟩
theorem WR.last(h:WR ps rs bX n n s):fK ps rs bX n 0 sS=("going",n,s):=by(refine h.eq.symm.trans ?_;rw[OT]);rfl
variable(zV:eD rs s.pl=r)(dn:WR ps rs bX n j s)(gu:j<n)
include zV dn gu
theorem WR.end(he:(kT r|| !(aS ps s.st r==""))=Hq):fK ps rs bX n 0 sS=(bif aS ps s.st r==""then"done"else aS ps s.st r,j+1,s):=by(refine dn.eq.symm.trans ?_;rw[show n-j=(n-(j+1))+1 from(PI (PM gu)).symm,tK,zV,x7,he]);rfl
theorem WR.next(hr:fF ps rs)(he:(kT r|| !(aS ps s.st r==""))=HH):WR ps rs bX n (j+1) (stepT ps bX r s):=by
 refine⟨gu,abO dn.inv ?_ (zV▸gx hr s.pl),?_⟩
 ·exact aw (by simpa using(Jn.mp he).2)
 ·refine dn.eq▸?_;rw[show n-j=(n-(j+1))+1 from(PI (PM gu)).symm,tK,zV,x7,he];rfl
end
noncomputable def arg:Row->HI
 |.fork k=>k
 |.go k=>k
 |_=>0
theorem adK(h:pY r=Hq):stepT ps bX r s=⟨(arg r).toNat,s.tk,s.st⟩:=by obtain⟨k,rfl⟩:=yZ h;rfl
theorem step_fork(h:iC r=Hq):stepT ps bX r s=⟨bif CJ bX s.tk then(arg r).toNat else s.pl+1,s.tk+1,s.st⟩:=by obtain⟨k,rfl⟩:=tm h;rfl
theorem tB(h:c0 ps z r):((arg r).toNat:HI)=arg r:=Lu (by cases r<;>first|exact LH 0|exact h.1)
theorem tE(h:pY r=Hq∨iC r=Hq):ec (av r) (.int 1)=hb (.int (arg r)):=by
 rcases h with h|h
 ·obtain⟨k,rfl⟩:=yZ h;rfl
 ·obtain⟨k,rfl⟩:=tm h;rfl
theorem ahf(h:kT r=Hq):d7 ps st r=st:=by refine(amk h).symm▸?_;rfl
theorem wF(h:pY r=Hq∨iC r=Hq):(kT r|| !(aS ps st r==""))=HH:=by
 rcases h with h|h
 ·obtain⟨k,rfl⟩:=yZ h;rfl
 ·obtain⟨k,rfl⟩:=tm h;rfl
structure vG(c:JC):Prop where
 uM:tY c
 A8:tO c
 fresh:c.T "_law_fresh"=hb (fG vQ)
def BR(ps:aP)(rs:Hn Row)(bX:Hn HI)(n pl tk:HI)(st:eP):En:=[("_law_plots_here",sh (.list (ps.map aF))),("_law_rows",sh (.list (rs.map av))),("_law_inputs_here",sh (.list (aq bX))),("_law_steps",D (.int n)),("_law_state",.own (.tree Hu (fG st))),("_law_place",D (.int pl)),("_law_taken",D (.int tk))]
def Fo(ps:aP)(rs:Hn Row)(bX:Hn HI)(n:HI)(s:WS):En:=BR ps rs bX n s.pl s.tk s.st
def nM(q:I2×HG×WS):Ho:=.tuple [dr q.1,.int q.2.2.pl,.int q.2.1,fG q.2.2.st,.int q.2.2.tk]
theorem agt(r:Row):bW .Eq (dr r.parts.1) (dr "end")=hb (kT r):=by cases r<;>kernel_rfl
theorem akB(r:Row):bW .Eq (dr r.parts.1) (dr "go")=hb (pY r):=by cases r<;>kernel_rfl
theorem adv(r:Row):bW .Eq (dr r.parts.1) (dr "fork")=hb (iC r):=by cases r<;>kernel_rfl
theorem ne_int(a b:HI):bW .NotEq (.int a) (.int b)=hb (!decide (a=b)):=by have:=sR a b;revert this;intro h;rfl
theorem aj6(h:decide ((k:HI)<((aq bX).length:HG))=Hq):ec (.list (aq bX)) (.int (k:HG))=hb (.int (uK bX k)):=by have h:=IW h;unfold aq at h;rw[Hr]at h;have ht:=Jj.mp h;(refine(show uK bX k=bX[k] by unfold uK;refine(HQ ht).symm▸?_;rfl).symm▸?_);exact nC (p:=IL) (H3 k) (HQ ht)
theorem ahg(h:decide ((k:HI)<((aq bX).length:HG))=HH):CJ bX k=HH:=by
 have h:=Ji h;unfold aq at h;rw[Hr]at h
 delta CJ uK
 rw[Jw (JQ λq=>h (Jj.mpr q))];rfl
theorem akJ(h:decide ((k:HI)<((rs.map av).length:HG))=Hq):ec (.list (rs.map av)) (.int (k:HG))=hb (av (eD rs k)):=by have h:=IW h;rw[Hr]at h;have ht:=Jj.mp h;(refine(show eD rs k=rs[k] by unfold eD;refine(HQ ht).symm▸?_;rfl).symm▸?_);exact nC (p:=av) (H3 k) (HQ ht)
theorem ahR(h:decide ((k:HI)<((rs.map av).length:HG))=HH):eD rs k=.fin:=by have h:=Ji h;rw[Hr]at h;unfold eD;rw[Jw (JQ λq=>h (Jj.mpr q))];rfl
theorem amH(h:decide ((k:HI)+1<=((aq bX).length:HG))=Hq):ec (.list (aq bX)) (.int ((k:HI)+1-1))=hb (.int (uK bX k)):=by refine(show(k:HI)+1-1=k by exact Mu (↑_) 1).symm▸?_;exact aj6 (Ip (by have:=IW h;exact this))
variable{row:Row}
theorem nr(e0:eD rs s.pl=row)(r:WR ps rs bX n j s)(hj:j<n)(hr:fF ps rs)(he:(kT row|| !(aS ps s.st row==""))=HH){l:En}(q:Fo ps rs bX n (stepT ps bX row s)=l):∃x,WR ps rs bX n (j+1) x/\Fo ps rs bX n x=l:=⟨_,r.next e0 hj hr he,q⟩
def zTn(k:HG){a:HG}(ea:a=j)(H:vG c)(hl:ps.length<=900)(hr:fF ps rs)(hn:n<=3000)(e0:eD rs s.pl=row)(r:WR ps rs bX n j s)(hj:j<n)(t:(y:Ho)->y=nM (fK ps rs bX n 0 sS)->Z)(e:(l:En)->(∃x,WR ps rs bX n (j+1) x/\Fo ps rs bX n x=l)->Z):Z:=
 fX k (H.uM ps s.st row hl r.inv.jr)<|fS 0<|fB 1 (agt row)<|fB 0 (qk (aS ps s.st row))<|.br (kT row|| !(aS ps s.st row==""))
  (λhe=>bB 0 (qk (aS ps s.st row)) (λh=>t (nM (aS ps s.st row,a+1,s)) (by(refine ea.symm▸?_;refine(r.end e0 hj he).symm▸(cE h).symm▸?_);rfl)) λh=>t (nM ("done",a+1,s)) (by(refine ea.symm▸?_;refine(r.end e0 hj he).symm▸(mz h).symm▸?_);rfl))
  λhe=>bB 2 (akB row) (λhg=>fX 0 (tE (.inl hg))<|e (BR ps rs bX n (arg row) s.tk s.st) (nr e0 r hj hr he (by exact(adK hg).symm▸HL (λi=>BR ps rs bX n i s.tk s.st) (tB (e0▸gx hr s.pl)))))
   λhg=>bB 1 (adv row)
    (λhf=>.br (decide ((s.tk:HI)+1<=((aq bX).length:HG)))
     (λht=>fX 1 (amH ht)<|bB 0 (ne_int (uK bX s.tk) 0)
      (λhk=>fX 0 (tE (.inr hf))<|e (BR ps rs bX n (arg row) ((s.tk:HI)+1) s.st) (nr e0 r hj hr he (by(refine(step_fork hf).symm▸?_;refine(show CJ bX s.tk=Hq from hk).symm▸?_);exact HL (λi=>BR ps rs bX n i ((s.tk:HI)+1) s.st) (tB (e0▸gx hr s.pl)))))
      λhk=>e (BR ps rs bX n ((s.pl:HI)+1) ((s.tk:HI)+1) s.st) (nr e0 r hj hr he (by(refine(step_fork hf).symm▸?_;refine(show CJ bX s.tk=HH from hk).symm▸?_);rfl)))
     λht=>e (BR ps rs bX n ((s.pl:HI)+1) ((s.tk:HI)+1) s.st) (nr e0 r hj hr he (by rw[step_fork hf,ahg (Iw (by have:=Ji ht;exact this))];rfl)))
    λhf=>fC 0 (fe row)<|fX 0 (H.A8 ps s.st row hl (r.inv.room (Hs r.le hn)) (lu r.inv (aw (mz (Jn.mp he).2))))<|e (BR ps rs bX n ((s.pl:HI)+1) s.tk (d7 ps s.st row)) (nr e0 r hj hr he (by refine(aa3 hg hf).symm▸?_;rfl))
theorem ak5(H:vG c)(P:aZ ps)(hr:fF ps rs)(bX:Hn HI)(hn:n<=3000):(gH (PP S0 A0) c b0).F "_law_walk" [(.list (ps.map aF)),.list (rs.map av),.list (aq bX),.int n]=hb (nM (fK ps rs bX n 0 sS)):=by
 have hl:ps.length<=900:=Hs P.len (by decide);exact xF (λt=>fX 0 H.fresh<|fI 0 (fZ (H3 n) (I4.mpr (Hs hn (by decide))))<|fr (H0 n) (p:=λj=>.int (j:HG)) (λ_=>rfl) (λ_ s=>Fo ps rs bX n s) (λj s=>WR ps rs bX n j s) sS .zero (λj a h s r e=>.br (decide ((s.pl:HI)<((rs.map av).length:HG)))
   (λhp=>fX 0 (akJ hp)<|fL (fe (eD rs s.pl))<|zTn 0 (yz h).1 H hl hr hn rfl r (yz h).2 t e)
   λhp=>zTn 1 (yz h).1 H hl hr hn (ahR hp) r (yz h).2 t e)
  λs r=>t (nM ("going",n,s)) (HL nM (by rw[Iy]at r;exact r.last.symm)))
def ie(h:Hn (Hn HG×HI)):Hn (HP×HG):=h.map λq=>(S q.1,q.2.toNat)
def fQ(st:eP):js:=⟨.list (aq st.told),st.many,.list (aq st.given),eu st.bG,ie st.held,st.aC⟩
def xi(V:Hv)(st:eP):Ho:=dictOf (st.held.map λq=>(S q.1,valOf V st.aC q.2.toNat))
theorem acV(C V p:Hv)(st:eP):iy C V "held" (aE C V p (fQ st))=hb (xi V st):=by
 rw[acJ,ab9]
 delta sU xi fQ ie
 refine Ii.symm▸?_;rfl
theorem afj(n:Hn HG)(g:HI->Ho)(h:Hn (Hn HG×HI)):dw (S n) ((h.map λq=>(S q.1,g q.2)).map λp=>(.str p.1,p.2))=(h.lookup n).isSome:=by
 induction h with
 |nil=>exact rfl
 |cons p h bY=>
  show(decide (S p.1=S n)||dw (S n) ((h.map λq=>(S q.1,g q.2)).map λp=>(.str p.1,p.2)))=_;refine bY.symm▸?_;rw[HK];by_cases e:n=p.1
  ·subst e;rw[Ip rfl,Ih];rfl
  ·refine(Iw λq=>e (jt q).symm).symm▸(HO.mpr e).symm▸?_;rfl
theorem age(n:Hn HG)(g:HI->Ho)(h:Hn (Hn HG×HI)):atKey (S n) ((h.map λq=>(S q.1,g q.2)).map λp=>(.str p.1,p.2))=(h.lookup n).map g:=by
 induction h with
 |nil=>exact rfl
 |cons p h bY=>
  rw[HK];by_cases e:n=p.1
  ·subst e;refine iT rfl ?_;rw[Ih];rfl
  ·refine iF (λq=>e (jt q).symm) ((HO.mpr e).symm▸?_);exact bY
theorem lE(V:Hv)(st:eP)(n:Hn HG):bW .NotIn (aB n) (xi V st)=hb (!(st.held.lookup n).isSome):=by show(FJ (S n) ((st.held.map λq=>(S q.1,valOf V st.aC q.2.toNat)).map λp=>(.str p.1,p.2))).map (λb=> !b)=_;rw[adC (λp:HP×Ho=>p.1) (λp=>p.2),afj n λi=>valOf V st.aC i.toNat];rfl
variable{n:Hn HG}
theorem abB(V:Hv)(h:dR st n):ec (xi V st) (aB n)=hb (oX V (df st (bg st n)) (eG st (bg st n))):=by
 show atKey (S n) ((st.held.map λq=>(S q.1,valOf V st.aC q.2.toNat)).map λp=>(.str p.1,p.2))=_;refine kK h λi h1 h2 h3=>?_;rw[age n λi=>valOf V st.aC i.toNat,h1];obtain e:bg st n=i:=by unfold bg;refine h1.symm▸?_;rfl
 refine e.symm▸?_;show hb (valOf V st.aC i.toNat)=_;dsimp only[valOf,df,eG];refine(HQ h3).symm▸?_;rfl
theorem kN(n:Hn HG)(h:Hn (Hn HG×HI)):(h.lookup n).isSome=decide (n∈h.map (·.1)):=by
 induction h with
 |nil=>exact rfl
 |cons p h bY=>
  rw[HK,HS];by_cases e:n=p.1
  ·subst e;rw[Ih];exact(Ip (.head _)).symm
  ·refine(HO.mpr e).symm▸bY.symm▸?_;exact decide_eq_decide.mpr (by rw[Hw];exact⟨.inr,λq=>q.resolve_left e⟩)
theorem afy(n:Hn HG)(st:eP):bW .In (aB n) (eu st.bG)=hb (decide (n∈di st)):=(og n st.bG).trans (HL hb (kN n st.bG))
theorem aaQ(n:Hn HG)(st:eP):bW .NotIn (aB n) (eu st.bG)=hb (!decide (n∈di st)):=(iN n st.bG).trans (HL (λb=>hb (!b)) (kN n st.bG))
theorem acr(h:Hn (Hn HG×HI)):(mc h).map (·.2)=aq (h.map (·.2)):=by unfold aq;(refine Ii.trans ?_;rw[Ii,Ii]);rfl
theorem hZ(l:Hn HI):b7 (aq l)=Hq:=by
 induction l with
 |nil=>exact rfl
 |cons x l bY=>refine bY.symm▸?_;rfl
theorem acQ(i:HI)(l:Hn HI):bW .NotIn (.int i) (.list (aq l))=hb (!decide (i∈l)):=by show(bW .In (.int i) (.list (aq l))).map _=_;rw[adA];rfl
theorem ac0(i:HI)(h:Hn (Hn HG×HI)):bW .NotIn (.int i) (.list ((mc h).map (·.2)))=hb (!decide (i∈h.map (·.2))):=by rw[acr];exact acQ i _
theorem qX(h:Hn (Hn HG×HI)):dQ (mc h)=Hq:=gf _ _ _
theorem agq(h:Hn (Hn HG×HI)):b7 ((mc h).map (·.2))=Hq:=by rw[acr];exact hZ _
section
noncomputable abbrev cS(c:JC)(q:Hv×Hv×Hv×Hn Ho):JC:={c with S:=hb q}
theorem aic(l:Hn (Hn HG)):bW .NotEq (.list (l.map aB)) (.list [])=hb (!l.isEmpty):=by
 cases l with
 |nil=>rfl
 |cons x l=>(refine(Bc (b8 (cU λy hy=>by refine aQ (HX.mp hy) λa o1 o2=>?_;subst o2;exact m6 _) (by decide)) (b8 (cU (k:=1) λy hy=>(Ia hy).elim) (by decide))).trans ?_;dsimp only[HS,IX,KE]);rfl
variable(bc bu bq:Hv)(aM:aP)(eO:eP)
abbrev zg(k:HG)(z:Z):Z:=fX k (aaa bc bu bq (fQ eO)) z
abbrev Ec(k:HG)(z:Z):Z:=fX k (acV bc bu bq eO) z
abbrev PC:JP:=PP (hb (bc,bu,bq,aM.map aF)) A0
abbrev cC(c:JC):JC:=cS c (bc,bu,bq,aM.map aF)
abbrev sD:Ho:=aE bc bu bq (fQ eO)
theorem amD(x y:HI):(gH (PC (A0:=A0) bc bu bq aM) (cC bc bu bq aM c) b0).P "is_gone" [sD bc bu bq eO,oX bu x y]=hb (.bool (!decide (y∈eO.bG.map (·.2)))):=
 pF λr=>fX 0 (aaF bc bu x y)<|zg bc bu bq eO 0<|fC 0 (qX eO.bG)<|fC 0 (agq eO.bG)<|fB 0 (ac0 y eO.bG)<|r _ rfl
def ahc(c:JC):Prop:=∀(eO:eP)(x y:HI),c.P "is_gone" [sD bc bu bq eO,oX bu x y]=hb (.bool (!decide (y∈eO.bG.map (·.2))))
theorem aee(hg:ahc bc bu bq c)(n:Hn HG)(hh:eX eO n):(gH (PC (A0:=A0) bc bu bq aM) (cC bc bu bq aM c) b0).P "lacking" [sD bc bu bq eO,aB n]=hb (dr (d1 eO n)):=by
 cases e:eO.held.lookup n with
 |none=>exact pS λr=>Ec bc bu bq eO 0<|fB 0 ((lE bu eO n).trans (by refine e.symm▸?_;rfl):_=hb Hq)<|r "nothing" (by unfold d1;exact e▸rfl)
 |some i=>
  have hi:dR eO n:=⟨i,e,hh i e⟩;have hl:d1 eO n=bif decide (eG eO (bg eO n)∈eO.bG.map (·.2))then""else"gone":=by delta d1 bg;refine e.symm▸?_;rfl
  exact pS λr=>Ec bc bu bq eO 0<|fB 0 ((lE bu eO n).trans (by refine e.symm▸?_;rfl):_=hb HH)<|Ec bc bu bq eO 0<|fX 0 (abB bu hi)<|fC 0 (dW bc bu bq (fQ eO))<|fX 0 (hg eO (df eO (bg eO n)) (eG eO (bg eO n)))<|.br (!decide (eG eO (bg eO n)∈eO.bG.map (·.2))) (λh=>r "gone" (by(refine hl.trans ?_;refine(ux h).symm▸?_);rfl)) λh=>r "" (by(refine hl.trans ?_;refine(mz h).symm▸?_);rfl)
def abh(c:JC):Prop:=∀(eO:eP)(n:Hn HG),eX eO n->c.P "lacking" [sD bc bu bq eO,aB n]=hb (dr (d1 eO n))
def o7(c:JC):Prop:=∀q,q∈aM.map (·.1)->c.F "outward" [.list (aM.map aF),aB q]=hb (.list ((up aM q).map aB))
end
section
theorem ail(h:Hn (Hn HG×HI))(fl:Fl):aoz [⟨eu h,fl⟩]=hb ⟨.int (h.length:HG),.d⟩:=by show(if dQ (mc h)=Hq then hb (IL ((mc h).length:HG))else Hu).map _=_;rw[H5 (gf _ _ _),Hr,Hr];rfl
variable(bc bu bq:Hv)(aM:aP)
theorem rq{pl:Hn HG}{b:Ig}(h:decide (pl∈di st)=b):bW .NotIn (aB pl) (eu st.bG)=hb (!b):=h▸aaQ pl st
theorem af8(hp:aZ aM)(ho:o7 aM c)(hl:abh bc bu bq c)(st:eP)(hh:∀n,eX st n)(r:Row)(hr:c0 aM z r)(h1:pY r=HH)(h2:iC r=HH):(gH (PC (A0:=A0) bc bu bq aM) (cC bc bu bq aM c) b0).P "wrong" [sD bc bu bq st,av r]=hb (dr (aS aM st r)):=by
 have lk:=λn=>hl st n (hh n);have sl:=dW bc bu bq (fQ st);cases r with
 |fork k=>cases h2
 |go k=>cases h1
 |op pl=>
  refine dz (qo hp (show pl∈aM.map (·.1)from hr)) λt ht=>?_;have hf:=ho pl hr;have hw:aS aM st (.op pl)=bif decide (pl∈di st)then"open already"else match(up aM pl)[1]?with|some q=>bif decide (q∈di st)then""else"not open"|none=>"":=rfl
  rw[ht]at hf hw;have EM:=abj (B:=(pl::t).map aB) (n:=1) (f:=.d) (by decide) (by rw[Hr,Ju];exact JT (H3 _)) (kD t);have gq:=aic t;cases t with
  |nil=>exact pS λr=>fV 2 (jN bc bu bq (aM.map aF) (fQ st))<|fX 1 hf<|fV 0 EM<|zg bc bu bq st 1<|bB 0 (afy pl st) (λh=>r "open already" (by rw[hw,h];rfl)) λh=>r "" (by rw[hw,h];rfl)
  |cons q t=>exact pS λr=>fV 2 (jN bc bu bq (aM.map aF) (fQ st))<|fX 1 hf<|fV 0 EM<|zg bc bu bq st 1<|bB 0 (afy pl st) (λh=>r "open already" (by rw[hw,h];rfl)) λh=>fB 2 gq<|zg bc bu bq st 1<|bB 0 (aaQ q st) (λh2=>r "not open" (by rw[hw,h];exact HL (λb=>bif b then""else"not open") (ux h2))) λh2=>r "" (by rw[hw,h];exact HL (λb=>bif b then""else"not open") (mz h2))
 |lay n pl i=>cases h:decide (pl∈di st)<;>exact pS λr=>zg bc bu bq st 5<|fB 0 (rq h)<|r _ (by rw[we,h])
 |copy n o pl=>
  have w:=lk o;rcases fk st o with e|e|e<;>rw[e]at w
  ·exact pS λr=>fC 7 sl<|fX 0 w<|r _ (by rw[kP,e])
  ·exact pS λr=>fC 7 sl<|fX 0 w<|r _ (by rw[kP,e])
  ·cases h:decide (pl∈di st)<;>exact pS λr=>fC 7 sl<|fX 0 w<|zg bc bu bq st 1<|fB 0 (rq h)<|r _ (by rw[kP,e,h])
 |same n o=>cases h:(st.held.lookup o).isSome<;>exact pS λr=>Ec bc bu bq st 9<|fB 0 (h▸lE bu st o)<|r _ (by rw[tG,h])
 |add n o=>
  have w:=lk n;have w':=lk o;rcases fk st n with e|e|e<;>rw[e]at w
  ·exact pS λr=>fC 11 sl<|fX 0 w<|r _ (by rw[lG,e])
  ·exact pS λr=>fC 11 sl<|fX 0 w<|r _ (by rw[lG,e])
  ·rcases fk st o with e'|e'|e'<;>rw[e']at w'<;>exact pS λr=>fC 11 sl<|fX 0 w<|fC 1 sl<|fX 0 w'<|r _ (by rw[lG,e,e'])
 |tell n=>exact pS λr=>fC 13 sl<|fX 0 (lk n)<|r _ rfl
 |give pl=>cases h:decide (pl∈di st)<;>exact pS λr=>zg bc bu bq st 15<|fB 0 (rq h)<|r _ (by rw[tA,h])
 |fin=>have hc:bW .Gt (.int (st.bG.length:HG)) (.int 0)=hb (!st.bG.isEmpty):=HL hb (by cases st.bG with|nil=>rfl|cons a l=>exact Ip (show(0:HI)<((l.length+1:HG):HI) by exact Int.ofNat_succ_pos _));cases h:st.bG.isEmpty<;>exact pS λr=>zg bc bu bq st 14<|fV 0 (ail st.bG .s)<|fB 0 (h▸hc)<|r _ (by rw[wa,h])
end
section
theorem aiE(n:Hn HG)(h:Hn (Hn HG×HI)):NS (uz (S n) (mc h))=eu (h.filter λp=>decide (p.1≠n)):=by
 rw[abJ];congr 2;induction h with
 |nil=>rfl
 |cons q h ih=>
  by_cases e:q.1=n
  ·((rw[HS];refine(Jm (by simp[Cf,e])).trans ?_;rw[Jm (by simp[e])]);exact ih)
  ·rw[HS];refine(Jy (p:=λp:HP×Ho=>decide (p.1≠S n)) (a:=Cf q) (Ip (λq'=>e (jt q')))).trans ?_;rw[Jy (by simp[e]),ih];rfl
theorem aht{k:HI}:(h.map (·.1)).Nodup->(n,k)∈h->h.lookup n=hb k:=by
 induction h with
 |nil=>intro _ q;exact nomatch q
 |cons p h bY=>
  intro hn q;rw[HS,HZ]at hn;refine HK.trans ?_;rcases Hw.mp q with rfl|q
  ·rw[Ih]
  ·refine cFa (HO.mpr λe=>hn.1 (by exact e▸HX.mpr ⟨_,q,rfl⟩)) ?_;exact bY hn.2 q
def jD(ps:aP)(pl:Hn HG)(o:Hn (Hn HG×HI))(j:HG):Hn (Hn HG×HI):=((o.take j).filter λq=> !dC ps pl q)++o.drop j
def jm(ps:aP)(pl:Hn HG)(o:Hn (Hn HG×HI))(j:HG):Hn HI:=((o.take j).filter (dC ps pl)).map (·.2)
theorem ahm(ps:aP)(pl:Hn HG)(o:Hn (Hn HG×HI))(j:HG):(jD ps pl o j).Sublist o:=by
 conv=>rhs;rw[<-L0 j o]
 exact Np.append (Me _)
section
variable{q:Hn HG×HI}{pl:Hn HG}(rH:o[j]? =hb q)
include rH
theorem agd:o.take (j+1)=o.take j++[q]:=by(refine KD.trans ?_;refine rH.symm▸?_);rfl
theorem qE:o.drop j=q::o.drop (j+1):=by(refine(J6 (H2.mp rH).1).trans ?_;exact Kx (HL _ ((H2.mp rH).2)) _)
theorem ahG:q∈jD ps pl o j:=by unfold jD;exact(qE rH).symm▸Hx _ (.head _)
theorem anE(h:dC ps pl q=HH):jD ps pl o (j+1)=jD ps pl o j/\jm ps pl o (j+1)=jm ps pl o j:=by
 unfold jD jm;refine(agd rH).symm▸?_;rw[qE rH,LC,LC,JN,JN,h];refine⟨?_,?_⟩
 ·rw[I6];rfl
 ·show((_++[]).map _)=_;rw[IA]
theorem ajv(hn:(o.map (·.1)).Nodup)(h:dC ps pl q=Hq):((jD ps pl o j).filter λp=>decide (p.1≠q.1))=jD ps pl o (j+1)/\jm ps pl o (j+1)=jm ps pl o j++[q.2]:=by
 have D9:=hn;rw[<-L0 j o,HJ,H8]at D9;unfold jD jm;refine(agd rH).symm▸?_;rw[LC,LC,LC,JN,JN,h];refine⟨?_,?_⟩
 ·show _=(_++[])++_;rw[IA];congr 1
  ·refine Pg.mpr λy hy=>?_;rw[Ik];exact D9.2.2 y.1 (HX.mpr ⟨y,(KB.mp hy).1,rfl⟩) q.1 (HX.mpr ⟨q,by exact(qE rH).symm▸.head _,rfl⟩)
  ·rw[qE rH];refine(Jm (by simp)).trans ?_;rw[Pg.mpr];intro y hy;rw[Ik];intro e;have:=D9.2.1;rw[qE rH,HS,HZ]at this;exact this.1 (by exact e▸HX.mpr ⟨y,hy,rfl⟩)
 ·refine HJ.trans ?_;rfl
end
theorem agY:∀{l m:Hn (Hn HG)},l.Nodup->(∀a∈l,a∈m)->l.length<=m.length:=by
 intro l;induction l with
 |nil=>exactλ_ _=>JS _
 |cons a l ih=>intro m hn hs;rw[HZ]at hn;obtain ha:=hs a (.head _);have:=ih (m:=m.erase a) hn.2 λb U=>(List.mem_erase_of_ne (show b≠a fromλe=>hn.1 (by exact e▸U))).mpr (hs b (.tail _ U));rw[List.length_erase_of_mem ha]at this;obtain h0:=List.length_pos_of_mem ha;exact Ju.symm▸Nat.add_le_of_le_sub h0 this
theorem ad4(h:Hn (Hn HG×HI))(fl:Fl):ur [⟨eu h,fl⟩]=hb ⟨.list (h.map λp=>aB p.1),.d⟩:=by show mK Hu ((gK (eu h)).map λaW=>(⟨.list (aW.map (·.1)),.d⟩:V))=_;(refine(show gK (eu h)=hb (mc h)from H5 (gf _ _ _)).symm▸?_;(dsimp only[Lr];rw[Ii,Ii]));rfl
variable(bc bu bq:Hv)(aM:aP)
theorem vS(f:js)(i:Fin 3):((gn bc bu (aE bc bu bq f)).bind λr=>r.2[x9 i]?)=hb f.three[i]:=by
 rw[d0];dsimp only[HT];rcases i with⟨_|_|_|i,hi⟩
 ·rfl
 ·rfl
 ·rfl
 ·exact IG hi (JH.mpr (Jl 3 i))
theorem adz(f:js):((gn bc bu (aE bc bu bq f)).bind λr=>r.2[x9 2]?)=hb f.bD:=vS bc bu bq f 2
theorem aiI(f:js):((gn bc bu (aE bc bu bq f)).bind λr=>r.2[x9 1]?)=hb f.given:=vS bc bu bq f 1
theorem ai4(f:js):((gn bc bu (aE bc bu bq f)).bind λr=>r.2[x9 0]?)=hb f.told:=vS bc bu bq f 0
abbrev sF(st:eP)(o:Ho):js:={fQ st with bD:=o}
def sdE(st:eP)(o:Ho):Ho:=aE bc bu bq (sF st o)
def Gg(a:Hv)(st:eP)(pl:Hn HG)(o:Ho)(ns:Hn Ho):En:=[("self",.own (.tree (hb a) (sdE bc bu bq st o))),("plot",D (aB pl)),("numbers",.own (.lst ns))]
theorem akQ(hp:aZ aM)(ho:o7 aM c)(st:eP)(hi:Inv aM k st)(hk:k<=3000)(pl:Hn HG):(gH (PC (A0:=A0) bc bu bq aM) (cC bc bu bq aM c) b0).R "give" [sD bc bu bq st,aB pl]=hb (.none,sD bc bu bq (d7 aM st (.give pl))):=by
 have hol:st.bG.length<=12:=by have:=agY hi.wV hi.up;unfold di at this;rw[Hr,Hr]at this;exact Hs this hp.len
 have eN:jm aM pl st.bG st.bG.length=(st.bG.filter (dC aM pl)).map (·.2):=by unfold jm;exact JD.symm▸rfl
 have eC:jD aM pl st.bG st.bG.length=st.bG.filter λq=> !dC aM pl q:=by unfold jD;refine JD.symm▸?_;rw[KN,IA]
 have hN:∀j,(jm aM pl st.bG j).length<=12:=λj=>by
  unfold jm;rw[Hr];exact Hs (KY _ _) (Hs (O3 j st.bG) hol)
 have hs:sG ⟨.list (aq (jm aM pl st.bG st.bG.length)),.t⟩=hb ⟨.list (aq (jm aM pl st.bG st.bG.length).reverse),.d⟩:=by
  have es:sortI (jm aM pl st.bG st.bG.length)=jm aM pl st.bG st.bG.length:=by exact eN.symm▸aam (sortI_perm _) (aai _) ((hi.asc.sublist (Np.map _)).imp λh=>IZ h)
  show(sK ((jm aM pl st.bG st.bG.length).map .int)).bind _=_
  ((rw[aeq];dsimp only[HT]);refine iT (HC (hN _) (by decide))<|es.symm▸?_);rfl
 have hl:(aq st.given).length+(aq (jm aM pl st.bG st.bG.length).reverse).length<10000:=by have:=hN st.bG.length;have:st.given.length<=3000:=Hs (Hs (Ib _ _) hi.gv) hk;unfold aq;rw[Hr,Hr,JG];exact HC (Js this ‹_›) (by decide)
 have hix:∀{j q},st.bG[j]? =hb q->ec (eu (jD aM pl st.bG j)) (aB q.1)=hb (.int q.2):=λ{j q} hq=>by
  rw[ri,aht (hi.wV.sublist ((ahm aM pl st.bG j).map _)) (ahG hq)];rfl
 exact xR (d:=sD bc bu bq st) λa r=>zg bc bu bq st 0<|fV 0 (ad4 st.bG .t)<|fo st.bG (p:=λq=>aB q.1) (λ_=>rfl) (λj=>Gg bc bu bq a st pl (eu (jD aM pl st.bG j)) (aq (jm aM pl st.bG j)))
  (λj q hq t=>fV 0 (jN bc bu bq (aM.map aF) (sF st (eu (jD aM pl st.bG j))))<|fX 0 (ho q.1 (hi.up q.1 (HX.mpr ⟨q,Il hq,rfl⟩)))<|bB 0 (kH pl (up aM q.1))
   (λh=>fX 0 (aaa bc bu bq (sF st (eu (jD aM pl st.bG j))))<|fX 0 (hix hq)<|fC 0 (show(aq (jm aM pl st.bG j)).length<10000 by have:=hN j;unfold aq;rw[Hr];exact HC this (by decide))<|fX 0 (adz bc bu bq (sF st (eu (jD aM pl st.bG j))))<|fC 0 (qX (jD aM pl st.bG j))<|fX 0 (hix hq)<|t (Gg bc bu bq a st pl (.dict (uz (S q.1) (mc (jD aM pl st.bG j)))) (aq (jm aM pl st.bG j)++[.int q.2])) (by(refine((ajv hq hi.wV h).1)▸?_;(refine((ajv hq hi.wV h).2).symm▸?_;rw[<-aiE]));unfold aq;refine HJ.symm▸?_;rfl))
   λh=>t (Gg bc bu bq a st pl (eu (jD aM pl st.bG j)) (aq (jm aM pl st.bG j))) (by(refine((anE hq h).1).symm▸?_;exact((anE hq h).2).symm▸rfl)))<|
  fX 0 (aiI bc bu bq (sF st (eu (jD aM pl st.bG st.bG.length))))<|fV 0 hs<|fC 0 (hZ (jm aM pl st.bG st.bG.length).reverse)<|fC 0 hl<|r .none (aE bc bu bq {fQ st with bD:=eu (jD aM pl st.bG st.bG.length),given:=.list (aq st.given++aq (jm aM pl st.bG st.bG.length).reverse)}) rfl (by(refine eC.symm▸eN.symm▸?_);refine HJ▸?_;rfl)
end
section
theorem ahX{up:Hn (Hn HG×HI)}{pl:Hn HG}(h:pl∉up.map (·.1))(o:HI):NS (lh (S pl) (.int o) (mc up))=eu (up++[(pl,o)]):=by unfold lh;rw[Ir (by rw[s8,kN,Iw h];exact ID)];unfold eu mc;(refine HJ.symm▸HJ.symm▸?_);rfl
theorem abg(hn:(h.map (·.1)).Nodup)(n:Hn HG)(i:HI):ie (mn h n i)=j9 (ie h) (S n) i.toNat:=by
 obtain key:∀h:Hn (Hn HG×HI),(ie h).any (λp=>decide (p.1=S n))=(h.lookup n).isSome:=by
  intro h;induction h with
  |nil=>rfl
  |cons q h ih=>
   show(decide (S q.1=S n)||(ie h).any λp=>decide (p.1=S n))=_;refine ih.symm▸?_;rw[HK];by_cases e:n=q.1
   ·subst e;rw[Ip rfl,Ih];rfl
   ·refine(Iw λz=>e (jt z).symm).symm▸(HO.mpr e).symm▸?_;rfl
 obtain Hu:∀h:Hn (Hn HG×HI),n∉h.map (·.1)->(ie h).map (λp=>if p.1=S n then(p.1,i.toNat)else p)=ie h:=by intro h R;exact Ii.trans<|J0 λq hq=>Ir λe=>R (HX.mpr ⟨q,hq,jt e⟩)
 dsimp only[mn,j9];rw[key];cases(h.lookup n).isSome with
 |false=>(refine Fw _ ID ?_;rw[Ir ID]);refine HJ.trans ?_;rfl
 |true=>
  refine Dz _ rfl<|(H5 rfl).symm▸?_;induction h with
  |nil=>rfl
  |cons q h ih=>
   rw[HS,HZ]at hn;rw[oN];by_cases e:q.1=n
   ·refine(H5 e).symm▸?_;show(S q.1,i.toNat)::ie h=(if S q.1=S n then(S q.1,i.toNat)else(S q.1,q.2.toNat))::(ie h).map _;rw[H5 (e.symm▸rfl),Hu h (e▸hn.1)]
   ·refine(Ir e).symm▸?_;show(S q.1,q.2.toNat)::ie (tZ n i h)=(if S q.1=S n then(S q.1,i.toNat)else(S q.1,q.2.toNat))::(ie h).map _;exact(Ir λz=>e (jt z)).symm▸(ih hn.2).symm▸rfl
theorem aeb(n:Hn HG):∀h:Hn (Hn HG×HI),je (ie h) (S n)=(h.lookup n).map Int.toNat:=by
 intro h;induction h with
 |nil=>rfl
 |cons q h ih=>
  unfold je ie at ih⊢;refine HS.symm▸?_;rw[Lx,HK];by_cases e:n=q.1
  ·subst e;simp
  ·refine(HO.mpr e).symm▸?_;have:decide ((S q.1,q.2.toNat).1=S n)=HH:=Iw λz=>e (jt z).symm;exact this.symm▸ih
theorem dR.look(h:dR st n):je (ie st.held) (S n)=hb (bg st n).toNat:=by refine aQ h λi h1 o1=>?_;rw[aeb,h1];unfold bg;refine h1.symm▸?_;rfl
theorem acm(h:pl∈di st)(hn:(di st).Nodup):ec (eu st.bG) (aB pl)=hb (.int (jh st pl)):=by rw[ri,aht hn (acN h)];rfl
variable(bc bu bq:Hv)(aM:aP)
structure Cp(c:JC):Prop where
 uM:∀(st:eP)(r:Row)(z:HI),(∀n,eX st n)->c0 aM z r->pY r=HH->iC r=HH->c.P "wrong" [sD bc bu bq st,av r]=hb (dr (aS aM st r))
 give:∀(st:eP)(k:HG)(pl:Hn HG),Inv aM k st->k<=3000->c.R "give" [sD bc bu bq st,aB pl]=hb (.none,sD bc bu bq (d7 aM st (.give pl)))
 new:∀x y:HI,c.N "Value" [.int x,.int y]=hb (oZ bu (x,y))
abbrev Gj(k:HG)(h:dR st n)(z:Z):Z:=Ec bc bu bq st k<|fX 1 (abB bu h)<|fX 0 (abo bc bu (df st (bg st n)) (eG st (bg st n))) z
theorem apH(f:js)(b:HI):tP (kC bc bu "self" λ_=>hb ⟨.int b,.d⟩) "self" (aE bc bu bq f) (aE bc bu bq {f with opened:=f.opened+b}):=λ_ _ h=>ab7 h rfl
variable{f:js}{ki:HP}
theorem ajW(v:HI×HI)(h5:f.held.length+1<=sizeLine)(h6:f.aC.length+1<=sizeLine):tP (i0 bc bu "self" (λ_=>hb ⟨.str ki,.d⟩) λ_=>hb (oZ bu v)) "self" (aE bc bu bq f) (aE bc bu bq {f with held:=j9 f.held ki f.aC.length,aC:=f.aC++[v]}):=λ_ _ h=>abq h rfl rfl h5 h6
theorem alp(h3:je f.held kj=hb j)(h5:f.held.length+1<=sizeLine):tP (gW bc bu "self" (λ_=>hb ⟨.str ki,.d⟩) λ_=>hb ⟨.str kj,.d⟩) "self" (aE bc bu bq f) (aE bc bu bq {f with held:=j9 f.held ki j}):=λ_ _ h=>aaJ h rfl h3 rfl h5
theorem anO{v:HI×HI}(b:HI)(h3:je f.held ki=hb j)(h4:f.aC[j]? =hb v):tP (iY bc bu "self" (λ_=>hb ⟨.str ki,.d⟩) λ_=>hb ⟨.int b,.d⟩) "self" (aE bc bu bq f) (aE bc bu bq {f with aC:=f.aC.set j (v.1+b,v.2)}):=λ_ _ h=>abm h rfl h3 h4 rfl
theorem ajD(hn:(st.held.map (·.1)).Nodup)(n:Hn HG)(v:HI×HI):aE bc bu bq {fQ st with held:=j9 (fQ st).held (S n) (fQ st).aC.length,aC:=(fQ st).aC++[v]}=sD bc bu bq {st with held:=mn st.held n st.aC.length,aC:=st.aC++[v]}:=HL (λh=>aE bc bu bq {fQ st with held:=h,aC:=st.aC++[v]}) (abg hn n (st.aC.length:HG)).symm
theorem akS(H:Cp bc bu bq aM c)(st:eP)(hh:∀n,eX st n)(r:Row)(hr:c0 aM z r)(h1:pY r=HH)(h2:iC r=HH)(hw:aS aM st r≠""):(gH (PC (A0:=A0) bc bu bq aM) (cC bc bu bq aM c) b0).R "do" [sD bc bu bq st,av r]=hb (dr (aS aM st r),sD bc bu bq st):=by have e:=qk (aS aM st r);rw[HO.mpr hw]at e;exact xR (d:=sD bc bu bq st) λ_ t=>fC 0 (dW bc bu bq (fQ st))<|fX 0 (H.uM st r z hh hr h1 h2)<|fB 0 e<|t _ _ rfl rfl
theorem ane(H:Cp bc bu bq aM c)(st:eP)(hi:Inv aM k st)(hk:k<=3000)(r:Row)(hr:c0 aM z r)(h1:pY r=HH)(h2:iC r=HH)(hw:aS aM st r=""):(gH (PC (A0:=A0) bc bu bq aM) (cC bc bu bq aM c) b0).R "do" [sD bc bu bq st,av r]=hb (dr "",sD bc bu bq (d7 aM st r)):=by
 have hn:=lu hi hw;have aH:=hi.room hk;have g5:(fQ st).held.length+1<=sizeLine:=Hs (by show(ie st.held).length+1<=9000;unfold ie;rw[Hr];exact aH.held) (by decide);have g6:(fQ st).aC.length+1<=sizeLine:=Hs (show st.aC.length+1<=9000 from aH.aC) (by decide);have w:=H.uM st r z hi.jr hr h1 h2;have sl:=dW bc bu bq (fQ st);rw[hw]at w;cases r with
 |fork k=>cases h2
 |go k=>cases h1
 |op pl=>exact xR (d:=sD bc bu bq st) λ_ t=>fC 0 sl<|fX 0 w<|fX 3 (aak bc bu bq (fQ st))<|fX 0 (adz bc bu bq (fQ st))<|fC 0 (qX st.bG)<|fC 2 (show(mc st.bG).length<10000 by rw[adS];exact I0 aH.bG (by decide))<|fT 0 (apH bc bu bq (sF st (.dict (lh (S pl) (.int st.many) (mc st.bG)))) 1)<|t _ _ rfl (HL (λo=>aE bc bu bq {fQ st with bD:=o,opened:=st.many+1}) (ahX (show pl∉st.bG.map (·.1)from hn) st.many))
 |lay n pl i=>exact xR (d:=sD bc bu bq st) λ_ t=>fC 0 sl<|fX 0 w<|zg bc bu bq st 6<|fX 1 (acm (show pl∈di st from hn) hi.wV)<|fX 0 (H.new i (jh st pl))<|fT 1 (ajW bc bu bq (i,jh st pl) (ki:=S n) g5 g6)<|t _ _ rfl (ajD bc bu bq hi.hn n _)
 |copy n o pl=>exact xR (d:=sD bc bu bq st) λ_ t=>fC 0 sl<|fX 0 w<|Gj bc bu bq 7 hn.1<|zg bc bu bq st 0<|fX 1 (acm hn.2 hi.wV)<|fX 0 (H.new (df st (bg st o)) (jh st pl))<|fT 1 (ajW bc bu bq (df st (bg st o),jh st pl) (ki:=S n) g5 g6)<|t _ _ rfl (ajD bc bu bq hi.hn n _)
 |same n o=>exact xR (d:=sD bc bu bq st) λ_ t=>fC 0 sl<|fX 0 w<|fT 11 (alp bc bu bq (ki:=S n) (dR.look hn) g5)<|t _ _ rfl (HL (λh=>aE bc bu bq {fQ st with held:=h}) (abg hi.hn n _).symm)
 |add n o=>exact xR (d:=sD bc bu bq st) λ_ t=>fC 0 sl<|fX 0 w<|Gj bc bu bq 12 hn.2<|fT 0 (anO bc bu bq (f:=fQ st) (df st (bg st o)) hn.1.look (abd (nu hn.1).1 (nu hn.1).2))<|t _ _ rfl rfl
 |tell n=>exact xR (d:=sD bc bu bq st) λ_ t=>fC 0 sl<|fX 0 w<|fX 13 (ai4 bc bu bq (fQ st))<|Gj bc bu bq (n:=n) 0 hn<|fC 0 (rC (p:=.int) aH.told)<|t _ _ rfl (HL (λo=>aE bc bu bq {fQ st with told:=.list o}) (HJ (f:=IL) (l₁:=st.told) (l₂:=[df st (bg st n)])).symm)
 |give pl=>exact xR (d:=sD bc bu bq st) λ_ t=>fC 0 sl<|fX 0 w<|fC 16 sl<|fP 1 (H.give st k pl hi hk)<|t _ _ rfl rfl
 |fin=>exact xR (d:=sD bc bu bq st) λ_ t=>fC 0 sl<|fX 0 w<|t _ _ rfl rfl
end
section
noncomputable def dH:Hn HP:=["end","row","steps","told","opened","given"]
def AA(V O:Hv)(f:HP):Hp (Hv×Hn HP):=bif f=="Value"then hb (V,valNames)else bif f=="Outcome"then hb (O,dH)else Hu
theorem oC(C:Hv)(rs:Hn (HP×Hv))(fs:Hn (HP×Ho))(y:HP)(z:Ho)(h:(!dw y (fs.map λp=>(.str p.1,p.2))&&Ln (rs.length+fs.length) 18&& !qP y (rs.map λq=>.tuple [.str q.1,.int q.2]))=Hq:=by kernel_rfl):y9 C y z (d9 C rs fs)=hb (d9 C rs (fs++[(y,z)])):=by obtain⟨h,h3⟩:=aj h;obtain⟨h1,h2⟩:=aj h;unfold y9;(rw[eU,HT];refine iT ⟨cE h3,cE h1,by simpa using IE h2⟩ ?_);unfold d9;refine HJ.symm▸?_;rfl
variable{V O:Hv}
theorem ahU(x y:HI):(gH (PP S0 (AA V O)) c Hq).N "Value" [.int x,.int y]=hb (oZ V (x,y)):=
 xN (q:=(V,valNames)) rfl λ_ r=>fX 1 (oC V [] [] "amount" (.int x))<|fX 1 (oC V [] [("amount",.int x)] "opening" (.int y))<|r _ rfl
def m8(O:Hv)(w:I2)(pl j:HI)(st:eP):Ho:=d9 O [] [("end",dr w),("row",.int pl),("steps",.int j),("told",.list (aq st.told)),("opened",.int st.many),("given",.list (aq st.given))]
theorem toL(l:Hn HI)(f:Fl):qG [⟨.list (aq l),f⟩]=hb (.list (aq l)):=H5 (hZ l)
theorem aer{pl:Hn Ho}(w:I2)(at' j:HI)(st:eP):(gH (PP (hb (C,V,nh,pl)) (AA V O)) c Hq).N "Outcome" [dr w,.int at',.int j,(aE C V nh (fQ st))]=hb (m8 O w at' j st):=by exact xN (q:=(O,dH)) rfl (λ_ r=>fX 1 (oC O [] [] "end" (dr w))<|fX 1 (oC O [] [("end",dr w)] "row" (.int at'))<|fX 1 (oC O [] [("end",dr w),("row",.int at')] "steps" (.int j))<|fX 0 (adf C V nh (fQ st))<|fX 0 (toL st.told .s)<|fX 0 (oC O [] [("end",dr w),("row",.int at'),("steps",.int j)] "told" (.list (aq st.told)))<|fX 0 (aak C V nh (fQ st))<|fX 1 (oC O [] [("end",dr w),("row",.int at'),("steps",.int j),("told",.list (aq st.told))] "opened" (.int st.many))<|fX 0 (aco C V nh (fQ st))<|fX 0 (toL st.given .s)<|fX 0 (oC O [] [("end",dr w),("row",.int at'),("steps",.int j),("told",.list (aq st.told)),("opened",.int st.many)] "given" (.list (aq st.given)))<|r _ rfl)
end
section
variable{V O:Hv}(bc bq:Hv)(aM:aP)
structure yP(V O:Hv)(c:JC):Prop where
 afd:∀(rs:Hn Row)(k:HG),c.F "row_at" [.list (rs.map av),.int k]=hb (av (eD rs k))
 ok:∀(st:eP)(k:HG)(r:Row)(z:HI),Inv aM k st->k<=3000->c0 aM z r->pY r=HH->iC r=HH->aS aM st r=""->c.R "do" [sD bc V bq st,av r]=hb (dr "",sD bc V bq (d7 aM st r))
 bad:∀(st:eP)(r:Row)(z:HI),(∀n,eX st n)->c0 aM z r->pY r=HH->iC r=HH->aS aM st r≠""->c.R "do" [sD bc V bq st,av r]=hb (dr (aS aM st r),sD bc V bq st)
 out:∀(w:I2)(i j:HI)(st:eP),c.N "Outcome" [dr w,.int i,.int j,sD bc V bq st]=hb (m8 O w i j st)
 Fc:∀B,c.F "Outcome" B=Hu
def BM(V:Hv)(rs:Hn Row)(bX:Hn HI)(n:HG)(pl tk:HI)(st:eP)(j:HI):En:=[("plots",sh (.list (aM.map aF))),("rows",sh (.list (rs.map av))),("inputs",sh (.list (aq bX))),("steps",D (.int n)),("store",.own (.tree Hu (sD bc V bq st))),("at",D (.int pl)),("done",D (.int j)),("taken",D (.int tk))]
def Fq(V:Hv)(rs:Hn Row)(bX:Hn HI)(n:HG)(s:WS)(j:HG):En:=BM bc bq aM V rs bX n s.pl s.tk s.st j
def xK(O:Hv)(q:I2×HG×WS):Ho:=m8 O q.1 q.2.2.pl q.2.1 q.2.2.st
section
variable{bc bq aM}{n:HG}
theorem nI(e0:eD rs s.pl=row)(r:WR aM rs bX n j s)(hj:j<n)(hr:fF aM rs)(he:(kT row|| !(aS aM s.st row==""))=HH){l:En}(q:Fq bc bq aM V rs bX n (stepT aM bX row s) (j+1)=l):∃y:WS×HG,WR aM rs bX n y.2 y.1/\n-y.2<n-j/\Fq bc bq aM V rs bX n y.1 y.2=l:=⟨(_,j+1),r.next e0 hj hr he,Po hj (L4 j),q⟩
theorem agS(e0:eD rs s.pl=row)(r:WR aM rs bX n j s)(hj:j<n)(he:(kT row|| !(aS aM s.st row==""))=Hq):xK O (fK aM rs bX n 0 sS)=m8 O (bif aS aM s.st row==""then"done"else aS aM s.st row) s.pl ((j:HI)+1) s.st:=HL (xK O) (r.end e0 hj he)
def zRn(H:yP bc bq aM V O c)(hr:fF aM rs)(hn:n<=3000)(e0:eD rs s.pl=row)(r:WR aM rs bX n j s)(hj:j<n)(t:(y:Ho)->y=xK O (fK aM rs bX n 0 sS)->Z)(e:(l:En)->(∃y:WS×HG,WR aM rs bX n y.2 y.1/\n-y.2<n-j/\Fq bc bq aM V rs bX n y.1 y.2=l)->Z):Z:=
 bB 1 (akB row) (λhg=>fX 0 (tE (.inl hg))<|e (BM bc bq aM V rs bX n (arg row) s.tk s.st ((j:HI)+1)) (nI e0 r hj hr (wF (.inl hg)) (by refine(adK hg).symm▸?_;exact HL (λi=>BM bc bq aM V rs bX n i s.tk s.st ((j:HI)+1)) (tB (e0▸gx hr s.pl)))))
  λhg=>bB 1 (adv row)
   (λhf=>.br (decide ((s.tk:HI)<((aq bX).length:HG)))
    (λht=>fX 0 (aj6 ht)<|fB 0 (ne_int (uK bX s.tk) 0)<|.br (CJ bX s.tk)
     (λhk=>fX 0 (tE (.inr hf))<|e (BM bc bq aM V rs bX n (arg row) ((s.tk:HI)+1) s.st ((j:HI)+1)) (nI e0 r hj hr (wF (.inr hf)) (by(refine(step_fork hf).symm▸?_;refine hk.symm▸?_);exact HL (λi=>BM bc bq aM V rs bX n i ((s.tk:HI)+1) s.st ((j:HI)+1)) (tB (e0▸gx hr s.pl)))))
     λhk=>e (BM bc bq aM V rs bX n ((s.pl:HI)+1) ((s.tk:HI)+1) s.st ((j:HI)+1)) (nI e0 r hj hr (wF (.inr hf)) (by(refine(step_fork hf).symm▸?_;refine hk.symm▸?_);rfl)))
    λht=>e (BM bc bq aM V rs bX n ((s.pl:HI)+1) ((s.tk:HI)+1) s.st ((j:HI)+1)) (nI e0 r hj hr (wF (.inr hf)) (by(refine(step_fork hf).symm▸?_;refine(ahg ht).symm▸?_);rfl)))
   λhf=>.cs (aS aM s.st row=="")
    (λhw=>fC 0 (dW bc V bq (fQ s.st))<|fC 0 (fe row)<|fP 0 (H.ok s.st j row _ r.inv (Hs r.le hn) (e0▸gx hr s.pl) hg hf (aw hw))<|bB 4 (agt row)
     (λhF=>fN 0 H.Fc<|fX 0 (H.out "done" s.pl ((j:HI)+1) (d7 aM s.st row))<|t (m8 O "done" s.pl ((j:HI)+1) (d7 aM s.st row)) (by(refine(agS e0 r hj (by refine hF.symm▸?_;rfl)).symm▸?_;refine hw.symm▸(ahf hF).symm▸?_);rfl))
     λhF=>e (BM bc bq aM V rs bX n ((s.pl:HI)+1) s.tk (d7 aM s.st row) ((j:HI)+1)) (nI e0 r hj hr (by(refine hF.symm▸?_;refine hw.symm▸?_);rfl) (by refine(aa3 hg hf).symm▸?_;rfl)))
    λhw=>fC 0 (dW bc V bq (fQ s.st))<|fC 0 (fe row)<|fP 0 (H.bad s.st row _ r.inv.jr (e0▸gx hr s.pl) hg hf (HO.mp hw))<|fB 2 ((qk _).trans (by rw[hw];rfl):_=hb Hq)<|fN 0 H.Fc<|fX 0 (H.out (aS aM s.st row) s.pl ((j:HI)+1) s.st)<|t (m8 O (aS aM s.st row) s.pl ((j:HI)+1) s.st) (by(refine(agS e0 r hj (by rw[hw,Bool.not_false,NK])).symm▸?_;refine hw.symm▸?_);rfl)
end
theorem ag9(H:yP bc bq aM V O c)(hr:fF aM rs)(bX:Hn HI)(n:HG)(hn:n<=3000):(Mf (PC (A0:=AA V O) bc V bq aM) (cC bc V bq aM c) "run").G 57 (bd (PC (A0:=AA V O) bc V bq aM) "run") 3 ([("plots",sh (.list (aM.map aF))),("rows",sh (.list (rs.map av))),("inputs",sh (.list (aq bX))),("steps",D (.int n)),("store",.own (.tree Hu (aE bc V bq Dw)))]:En) (λo=>o=hb (.ret (xK O (fK aM rs bX n 0 sS)))):=by
 let t (y:Ho) (h:y=xK O (fK aM rs bX n 0 sS)):Z:=.q _ (HL (λy=>hb (Out.ret y)) h);exact vg (wh (λx:WS×HG=>Fq bc bq aM V rs bX n x.1 x.2) (λx=>WR aM rs bX n x.2 x.1) (λx=>n-x.2) (sS,0) .zero (by exact HC hn (by decide)) λx r e=>.br (decide ((x.2:HI)<(n:HI)))
  (λhj=>fX 0 (H.afd rs x.1.pl)<|zRn H hr hn rfl r (Jj.mp (IW hj)) t e)
  λhj=>fN 0 H.Fc<|fX 0 (H.out "going" x.1.pl x.2 x.1.st)<|t (m8 O "going" x.1.pl x.2 x.1.st) (by
   have e:x.2=n:=by have:=Ji hj;have:=r.le;exact M7 this (JQ λq=>IG (Jj.mpr q) (Ji hj))
   rw[e]at r⊢;refine r.last.symm▸?_;rfl))
end
section
abbrev cI(c:JC)(O:Hv):JC:={c with S:=Hu,I:=hb (O,dH)}
theorem amV(h:B.length+ys.length<=20000)(hf:b7 (B++ys)=Hq):gE .Add ⟨.list B,f⟩ ⟨.list ys,g⟩=hb ⟨.list (B++ys),.d⟩:=by show Jo _ (if B.length+ys.length<=sizeLine then hb (Mw (B++ys))else Hu)=_;rw[H5 (Hs h (by decide))];show hb (V.eL _ _)=_;unfold V.eL;refine hf.symm▸?_;rfl
theorem t7(h:plain 60 gc):bW .NotEq gc gc=hb HH:=by(refine(Bc h h).trans ?_;refine(qy gc h.1).symm▸?_);rfl
theorem mJ(l:Hn HI):plain 2 (.list (aq l)):=cU λx hx=>by
 refine aQ (HX.mp hx) λa o1 o2=>?_;subst o2;exact eT a
theorem lZ(h:b7 B=Hq):ur [⟨.list B,f⟩]=hb ⟨.list B,.d⟩:=by show hb (V.eL B f)=_;unfold V.eL;refine h.symm▸?_;rfl
theorem ah1(B:Hn α):B.filterMap (λ_=>(Hu:Hp β))=[]:=by
 induction B with
 |nil=>exact rfl
 |cons _ B bY=>exact bY
variable{O:Hv}
theorem oG(w:I2)(pl j:HI)(st:eP)(y:HP)(hy:iP dH y=Hq)(h:atKey y (([("end",dr w),("row",.int pl),("steps",.int j),("told",.list (aq st.told)),("opened",.int st.many),("given",.list (aq st.given))]:Hn (HP×Ho)).map λp=>(.str p.1,p.2))=hb gc):j8 O dH y (m8 O w pl j st)=hb gc:=by unfold j8 m8;(rw[eU,HT];refine iT (tH hy) ?_);exact h
def abM(c:JC):Prop:=∀i:HI,c.F "_law_whole" [.int i]=hb (.bool Hq)
structure ajy(O:Hv)(ps:aP)(rs:Hn Row)(bX:Hn HI)(n:HG)(c:JC):Prop where
 run:c.F "run" [(.list (ps.map aF)),(.list (rs.map av)),(.list (aq bX)),.int n]=hb (xK O (fK ps rs bX n 0 sS))
 walk:c.F "_law_walk" [(.list (ps.map aF)),(.list (rs.map av)),(.list (aq bX)),.int n]=hb (nM (fK ps rs bX n 0 sS))
 whole:abM c
theorem agk(hr:fF ps rs)(bX:Hn HI):∀(m j:HG)(s:WS),Inv ps j s.st->Inv ps (j+m) (fK ps rs bX m j s).2.2.st:=by
 intro m;induction m with
 |zero=>intro j s hi;exact hi
 |succ m ih=>
  intro j s hi;rw[tK];cases he:(kT (eD rs s.pl)|| !(aS ps s.st (eD rs s.pl)==""))with
  |true=>rw[x7,he];exact hi.mono (Ib _ _)
  |false=>rw[x7,he];refine ew (Jn.mp he) λh1 h2=>?_;obtain hw:aS ps s.st (eD rs s.pl)="":=aw (by simpa using h2);have:=ih (j+1) _ (abO (bX:=bX) hi hw (gx hr s.pl));rw[LD]at this;exact this
theorem aef(o:Hp (Hn HG)):plain 1 (j6 o):=by
 cases o with
 |none=>exact aaw
 |some n=>exact bR _
theorem adg(q:Hn HG×Hp (Hn HG)):plain 2 (aF q):=ic λx hx=>by
 exact Cn x hx (bR _) (aef _)
theorem aeo(r:Row):plain 2 (av r):=ic (fm (bR _) (by
 cases r with
 |op p=>exact fm (bR _) wX
 |lay n p i=>exact fm (bR _) (fm (bR _) (fm (eT _) wX))
 |copy n o p=>exact fm (bR _) (fm (bR _) (fm (bR _) wX))
 |same n o=>exact fm (bR _) (fm (bR _) wX)
 |add n o=>exact fm (bR _) (fm (bR _) wX)
 |tell n=>exact fm (bR _) wX
 |give p=>exact fm (bR _) wX
 |fork k=>exact fm (eT _) wX
 |go k=>exact fm (eT _) wX
 |fin=>exact wX))
theorem acq(ps:aP)(rs:Hn Row)(bX:Hn HI):bW .NotEq (.list [(.list (ps.map aF)),(.list (rs.map av)),(.list (aq bX))]) (.list [(.list (ps.map aF)),(.list (rs.map av)),(.list (aq bX))])=hb HH:=t7 (b8 (cU (k:=3) λx hx=>by
 simp only[Hw,Ia,Kv]at hx;rcases hx with rfl|rfl|rfl
 ·exact cU λy hy=>by refine aQ (HX.mp hy) λa o1 o2=>?_;subst o2;exact adg a
 ·exact cU λy hy=>by refine aQ (HX.mp hy) λa o1 o2=>?_;subst o2;exact aeo a
 ·exact b8 (mJ bX) (by decide)) (by decide))
theorem abp(w:I2):bW .NotEq (dr w) (dr w)=hb HH:=t7 (b8 (bR _) (by decide))
def oO(l:Hn HI):HI:=bif decide (cK l 5/1000%16=3)then(cK l 5/10%100)*4 else(cK l 5/10%100)
def gm(l:Hn HI):HI:=bif(decide (cK l 5/1000%8=5)&&decide (cK l 3%3=1))then oO l*20 else oO l
theorem qO(l:Hn HI):0<=gm l/\gm l<=1980:=by
 obtain h0:0<=(cK l 5/10%100)/\(cK l 5/10%100)<=99:=Bj _ (by decide) (by decide);dsimp only[gm,oO];by_cases h6:cK l 5/1000%16=3
 ·obtain h7:¬cK l 5/1000%8=5:=λh=>by lia
  refine(Ip h6).symm▸?_;(rw[Iw h7];dsimp only[Ku];rw[Og];dsimp only[Kg]);exact⟨Ow (Ic _ (by decide)) (by decide),HY (L9 (Bj (b:=99) _ (by decide) (by decide)).2 (by decide)) (by decide)⟩
 ·refine(Iw h6).symm▸?_;dsimp only[Kg];clear h0;cases decide (cK l 5/1000%8=5)&&decide (cK l 3%3=1)with
  |true=>exact⟨Ow (Ic _ (by decide)) (by decide),HY (L9 (Bj (b:=99) _ (by decide) (by decide)).2 (by decide)) (by decide)⟩
  |false=>exact Bj _ (by decide) (by decide)
structure CK(c:JC)(l:Hn HI)(rs:Hn Row):Prop where
 at_:qT c
 kX:c.F "_law_plots" [(.list (aq l))]=hb (.list ((en l).map aF))
 names:c.F "_law_names" [(.list (aq l)),(.list ((en l).map aF))]=hb (.list ((jz l (en l)).map aB))
 aoL:c.F "_law_program" [(.list (aq l)),(.list ((en l).map aF)),(.list ((jz l (en l)).map aB))]=hb (.list (rs.map av))
 Ej:c.F "_law_is_plain" [(.list (aq l))]=hb (.bool (hV l))
 amA:c.F "_law_inputs" [.int (cK l 4/60)]=hb (.list (aq (iL (cK l 4/60))))
theorem ajz(w:I2)(pl j:HI)(st:eP):j8 O dH "end" (m8 O w pl j st)=hb (dr w):=oG w pl j st "end" rfl rfl
theorem aj2(w:I2)(pl j:HI)(st:eP):j8 O dH "row" (m8 O w pl j st)=hb (.int pl):=oG w pl j st "row" rfl rfl
theorem aka(w:I2)(pl j:HI)(st:eP):j8 O dH "steps" (m8 O w pl j st)=hb (.int j):=oG w pl j st "steps" rfl rfl
theorem zA(w:I2)(pl j:HI)(st:eP):j8 O dH "told" (m8 O w pl j st)=hb (.list (aq st.told)):=oG w pl j st "told" rfl rfl
theorem ajZ(w:I2)(pl j:HI)(st:eP):j8 O dH "opened" (m8 O w pl j st)=hb (.int st.many):=oG w pl j st "opened" rfl rfl
theorem yL(w:I2)(pl j:HI)(st:eP):j8 O dH "given" (m8 O w pl j st)=hb (.list (aq st.given)):=oG w pl j st "given" rfl rfl
theorem an1(a b d:HI):bW .NotEq (.tuple [.int a,.int b,.int d]) (.tuple [.int a,.int b,.int d])=hb HH:=t7 (b8 (ic (k:=1) λx hx=>by
 simp only[Hw,Ia,Kv]at hx;rcases hx with rfl|rfl|rfl<;>exact eT _) (by decide))
theorem afw{a b:Hn HI}(h:a.length+b.length<=9000):gE .Add ⟨.list (aq a),.d⟩ ⟨.list (aq b),.d⟩=hb ⟨.list (aq (a++b)),.d⟩:=by have:aq (a++b)=aq a++aq b:=HJ;exact this.symm▸amV (by unfold aq;rw[Hr,Hr];exact Hs h (by decide)) (this▸hZ _)
def zLw{u v:HI}(hv:u=v){q:I2×HG×WS}(f:Fl)(hw:abM c)(h1:c.F "run" [(.list (ps.map aF)),(.list (rs.map av)),(.list (aq bX)),.int u]=hb (xK O q))(h2:c.F "_law_walk" [(.list (ps.map aF)),(.list (rs.map av)),(.list (aq bX)),.int u]=hb (nM q))(hs:q.2.2.st.told.length+q.2.2.st.given.length<=9000)(t:Z):Z:=
 fV 0 (lZ (B:=ps.map aF) (f:=f) (fv cZ _))<|fV 0 (lZ (B:=rs.map av) (f:=.t) (eK rs))<|fV 0 (lZ (B:=aq bX) (f:=.d) (hZ bX))<|fX 3 (hv▸h1:c.F "run" [(.list (ps.map aF)),(.list (rs.map av)),(.list (aq bX)),.int v]=hb (xK O q))<|fX 0 (hv▸h2:c.F "_law_walk" [(.list (ps.map aF)),(.list (rs.map av)),(.list (aq bX)),.int v]=hb (nM q))<|fB 2 (acq ps rs bX)<|fX 0 (ajz (O:=O) q.1 q.2.2.pl q.2.1 q.2.2.st)<|fX 1 (ajz (O:=O) q.1 q.2.2.pl q.2.1 q.2.2.st)<|fB 0 (abp q.1)<|
 fX 0 (aj2 (O:=O) q.1 q.2.2.pl q.2.1 q.2.2.st)<|fX 0 (aka (O:=O) q.1 q.2.2.pl q.2.1 q.2.2.st)<|fX 0 (ajZ (O:=O) q.1 q.2.2.pl q.2.1 q.2.2.st)<|wi _ [(q.2.2.pl:HI),(q.2.1:HI),q.2.2.st.many] .int (λ_=>rfl) (λ_=>Hu) [] rfl (λi _=>fX 0 (hw i)<|.q _ (Mg (Hu:Hp Ho)))<|
 fX 2 (aj2 (O:=O) q.1 q.2.2.pl q.2.1 q.2.2.st)<|fX 0 (aka (O:=O) q.1 q.2.2.pl q.2.1 q.2.2.st)<|fX 0 (ajZ (O:=O) q.1 q.2.2.pl q.2.1 q.2.2.st)<|fB 3 (an1 q.2.2.pl q.2.1 q.2.2.st.many)<|fX 1 (zA (O:=O) q.1 q.2.2.pl q.2.1 q.2.2.st)<|fX 1 (yL (O:=O) q.1 q.2.2.pl q.2.1 q.2.2.st)<|fX 1 (zA (O:=O) q.1 q.2.2.pl q.2.1 q.2.2.st)<|fX 0 (yL (O:=O) q.1 q.2.2.pl q.2.1 q.2.2.st)<|fV 0 (afw hs)<|wi _ (q.2.2.st.told++q.2.2.st.given) .int (λ_=>rfl) (λ_=>Hu) [] (ah1 _) (λi _=>fX 0 (hw i)<|.q _ (Mg (Hu:Hp Ho)))<|
 fX 2 (zA (O:=O) q.1 q.2.2.pl q.2.1 q.2.2.st)<|fB 1 (aaT (b8 (mJ q.2.2.st.told) (by decide)))<|fX 0 (yL (O:=O) q.1 q.2.2.pl q.2.1 q.2.2.st)<|fB 1 (aaT (b8 (mJ q.2.2.st.given) (by decide)))<|t
theorem ajE{n:HG}(h:Inv ps (0+n) st)(hn:n<=3000):st.told.length+st.given.length<=9000:=by have:=h.told;have:=h.gv;exact Hs (Js ‹_› (Hs (Ib _ _) this)) (Hs (Js (Ij hn 0) (Ij hn 0)) (by decide))
variable{l:Hn HI}
def zS2(a3:c.F "_law_at" [.list (aq l),.int 3]=hb (.int (cK l 3)))(a5:c.F "_law_at" [.list (aq l),.int 5]=hb (.int (cK l 5)))(u:HI)(hu:oO l=u)(aH:(v:HI)->gm l=v->Z):Z:=
 fS 0<|fX 0 a5<|fB 2 (sR (cK l 5/1000%8) 5)<|fX 0 a3<|fB 1 (sR (cK l 3%3) 1)<|.br (decide (cK l 5/1000%8=5)&&decide (cK l 3%3=1)) (λh=>aH (u*20) (by unfold gm;(refine h.symm▸hu.symm▸?_);rfl)) λh=>aH u (by unfold gm;(refine h.symm▸hu.symm▸?_);rfl)
def zMd(A:CK c l rs)(k:HG)(aH:(v:HI)->gm l=v->Z):Z:=
 fX k (A.at_ l 4 (by decide))<|fX 1 A.amA<|fX 0 (A.at_ l 5 (by decide))<|fX 2 (A.at_ l 5 (by decide))<|bB 2 (sR (cK l 5/1000%16) 3) (λh=>zS2 (A.at_ l 3 (by decide)) (A.at_ l 5 (by decide)) (cK l 5/10%100*4) (by unfold oO;refine h.symm▸?_;rfl) aH) λh=>zS2 (A.at_ l 3 (by decide)) (A.at_ l 5 (by decide)) (cK l 5/10%100) (by unfold oO;refine h.symm▸?_;rfl) aH
variable{V:Hv}
theorem anR(A:CK c l rs)(hr:fF (bif hV l then[]else(en l)) rs)(H:ajy O (bif hV l then[]else(en l)) rs (iL (cK l 4/60)) (gm l).toNat c):(gH (PP Hu (AA V O)) (cI c O) b0).F "law" [(.list (aq l))]=hb (.bool Hq):=by
 have yp:(gm l).toNat<=3000:=by have:=(qO l).2;exact JE.mpr (HY this (by decide))
 have h1:=H.run;have h2:=H.walk;rw[(Lu (qO l).1)]at h1 h2;have hs:=agk hr (iL (cK l 4/60)) (gm l).toNat 0 sS (yR _);cases hp:hV l with
 |false=>rw[hp]at h1 h2 hs hr;exact xF λt=>fX 0 A.kX<|fX 0 A.names<|fX 0 A.aoL<|fC 0 (eK rs)<|fX 0 (hp▸A.Ej)<|zMd A 0 λv hv=>zLw hv .d H.whole h1 h2 (ajE hs yp) (t _ rfl)
 |true=>rw[hp]at h1 h2 hs hr;exact xF λt=>fX 0 A.kX<|fX 0 A.names<|fX 0 A.aoL<|fC 0 (eK rs)<|fX 0 (hp▸A.Ej)<|zMd A 0 λv hv=>zLw hv .t H.whole h1 h2 (ajE hs yp) (t _ rfl)
end
section
section
variable(S0:Hp (Hv×Hv×Hv×Hn Ho))(A0:HP->Hp (Hv×Hn HP))(eV:HG)
abbrev X:JC:=jc (PP S0 A0) eV
theorem rS:qT (X S0 A0 (eV+1)):=λl k h=>apJ l k h
theorem qA:lP (X S0 A0 (eV+1)):=λx k s h h1 h2=>ahs x k s h h1 h2
theorem yQ:xe (X S0 A0 (eV+1)):=λps n h=>aaI ps h n
theorem amf:agb (X S0 A0 (eV+1)):=λst n h=>alC st n h
theorem aj7:vY (X S0 A0 (eV+1)):=λx ps ns z h h1 h2=>anU x ps ns z h h1 h2
theorem adm:tY (X S0 A0 (eV+2)):=λps st r h h1=>ajj (yQ S0 A0 eV) (amf S0 A0 eV) ps h st h1 r
theorem ae4:tO (X S0 A0 (eV+2)):=λps st r h h1 h2=>al7 (yQ S0 A0 eV) ps h st h1 r h2
theorem akU:adU (X S0 A0 (eV+3)):=λx ps ns st h1 h2 h3 h4 h5 h6=>by
 obtain⟨y,e,r,rfl,h⟩:=alG (S0:=S0) (A0:=A0) (b0:=Ln 1 (eV+2)) (aj7 S0 A0 (eV+1)) (adm S0 A0 eV) x h1 h2 h3 h4 h5 h6;exact i12 r e h
theorem anB:wH (X S0 A0 (eV+3)):=⟨λst ns h h1=>amg st ns h h1,λseen dT x h h1=>alm h h1 x,akU S0 A0 eV,ae4 S0 A0 (eV+1)⟩
theorem adu:(X S0 A0 (eV+1)).T "_law_fresh"=hb (fG vQ):=ahM
theorem amu:wd (X S0 A0 (eV+4))where
 at_:=rS S0 A0 (eV+3)
 row:=aj7 S0 A0 (eV+3)
 Ej:=λl=>aaD (rS S0 A0 (eV+2)) l
 plain:=λl ns h=>ahQ l h
 aj9:=λl=>aii (rS S0 A0 (eV+2)) l
 many:=λl p pt=>akY (rS S0 A0 (eV+2)) (qA S0 A0 (eV+2)) l p pt
 lap:=λl ps ns h h1 h2=>an0 (rS S0 A0 (eV+2)) l h h1 h2
 nest:=λl ps ns h h1 h2=>amd (rS S0 A0 (eV+2)) (yQ S0 A0 (eV+2)) l h h1 h2
 adp:=λB ps ns h h1 h2 h3 h4=>aex (anB S0 A0 eV) (adu S0 A0 (eV+2)) B h h1 h2 h3 h4
theorem als:vG (X S0 A0 (eV+2)):=⟨adm S0 A0 eV,ae4 S0 A0 eV,adu S0 A0 (eV+1)⟩
theorem kG:X S0 A0 (eV+1)=gH (PP S0 A0) (kc (X S0 A0 eV)) (Ln 1 eV):=by cases eV<;>rfl
theorem agT:qH (X S0 A0 (eV+1)):=λn h=>by
 rw[kG];exact aea h
theorem adI:qi (X S0 A0 (eV+1)):=λi=>ac6 i
theorem abx(h:aZ ps):(X S0 A0 (eV+2)).F "need_plots" [.list (ps.map aF)]=hb .none:=by rw[kG];exact aby (agT S0 A0 eV) h
theorem alE:wb (X S0 A0 (eV+2)):=by
 obtain a:=agT S0 A0 eV;obtain b:=adI S0 A0 eV;refine⟨λh k=>?_,λh=>?_,λh k=>?_,λh k=>?_⟩
 ·rw[kG];exact aeQ a h k
 ·rw[kG];exact aeS a h
 ·rw[kG];exact acb b h k
 ·rw[kG];exact ac4 b h k
theorem afu:afI (X S0 A0 (eV+3)):=λps z r h k=>by
 rw[kG];exact afE (alE S0 A0 eV) h r k
theorem akG(h:aZ ps)(hr:fF ps rs):(X S0 A0 (eV+4)).F "need" [.list (ps.map aF),.list (rs.map av)]=hb (.bool Hq):=by rw[kG];exact alq (abx S0 A0 (eV+1) h) (afu S0 A0 eV) h hr.len hr.ok
theorem adi(l:Hn HI){n:HI}(h0:0<=n)(h1:n<=1000000):(X S0 A0 (eV+2)).F "need_run" [.list (aq l),.int n]=hb .none:=by rw[kG];exact acU (adI S0 A0 eV) l h0 h1
end
section
variable(bc bq bu rE:Hv)(gP:aZ ps)(eV:HG)
abbrev kQ(ps:aP)(eV:HG):JC:=jc (PP (hb (bc,bu,bq,ps.map aF)) (AA bu rE)) eV
theorem oA:kQ bc bq bu rE ps (eV+1)=gH (PP (hb (bc,bu,bq,ps.map aF)) (AA bu rE)) (cS (kQ bc bq bu rE ps eV) (bc,bu,bq,ps.map aF)) (Ln 1 eV):=by cases eV<;>rfl
theorem apS:cS (kQ bc bq bu rE ps eV) (bc,bu,bq,ps.map aF)=kQ bc bq bu rE ps eV:=by cases eV<;>rfl
include gP
theorem ajn:o7 ps (kQ bc bq bu rE ps (eV+1)):=λq hq=>ad9 gP hq
omit gP in
theorem alu:ahc bc bu bq (kQ bc bq bu rE ps (eV+1)):=λst x y=>by
 rw[oA];exact amD bc bu bq ps st x y
omit gP in
theorem akZ:abh bc bu bq (kQ bc bq bu rE ps (eV+2)):=λst n h=>by
 rw[oA];exact aee bc bu bq ps st (alu bc bq bu rE eV) n h
theorem anG:Cp bc bu bq ps (kQ bc bq bu rE ps (eV+3))where
 uM:=λst r z h h1 h2 h3=>by
  rw[oA];exact af8 bc bu bq ps gP (ajn bc bq bu rE gP (eV+1)) (akZ bc bq bu rE eV) st h r h1 h2 h3
 give:=λst k pl h h1=>by
  rw[oA];exact akQ bc bu bq ps gP (ajn bc bq bu rE gP (eV+1)) st h h1 pl
 new:=λx y=>ahU x y
theorem anZ:yP bc bq ps bu rE (kQ bc bq bu rE ps (eV+4))where
 afd:=λrs k=>agH rs k
 ok:=λst k r z h h1 h2 h3 h4 h5=>by
  rw[oA];exact ane bc bu bq ps (anG bc bq bu rE gP eV) st h h1 r h2 h3 h4 h5
 bad:=λst r z h h1 h2 h3 h4=>by
  rw[oA];exact akS bc bu bq ps (anG bc bq bu rE gP eV) st h r h1 h2 h3 h4
 out:=λw i j st=>aer w i j st
 Fc:=λB=>by kernel_rfl
theorem alN(hr:fF ps rs)(bX:Hn HI)(n:HG)(hn:n<=3000):(Mf (PP (hb (bc,bu,bq,ps.map aF)) (AA bu rE)) (kQ bc bq bu rE ps (eV+4)) "run").G 57 (bd (PP (hb (bc,bu,bq,ps.map aF)) (AA bu rE)) "run") 3 ([("plots",sh (.list (ps.map aF))),("rows",sh (.list (rs.map av))),("inputs",sh (.list (aq bX))),("steps",D (.int n)),("store",.own (.tree Hu (aE bc bu bq Dw)))]:En) (λo=>o=hb (.ret (xK rE (fK ps rs bX n 0 sS)))):=by have:=ag9 bc bq ps (anZ bc bq bu rE gP eV) hr bX n hn;unfold cC at this;rw[apS]at this;exact this
end
end
variable{h:Iv}{x:HP}
theorem nF.up(g:bA h h')(a:nF Y w h x d):nF Y w h' x d:=
 Exists.imp (λv h=>h.imp λas h=>⟨h.1.up g,h.2.1.grow g,h.2.2⟩) a
theorem lO.up(g:bA h h')(D:lO h x sc zW yC):lO h' x sc zW yC:=
 let⟨a,n,d⟩:=D
 ⟨a,n.up g,d.up g⟩
abbrev PN(V O:Hv):JP:=PP Hu (AA V O)
abbrev PS(C V O p:Hv)(ps:aP):JP:=PP (hb (C,V,p,ps.map aF)) (AA V O)
structure rQ(w:Ja)(U:Iv)(C V O:Hv):Prop where
 R:fg pw [] U U
 T:xQ (PN V O) w U
 G:bt U "Store" (.ref C)
 KC:∃mC,j7 aG U C mC
 E:∀y q,n9 pw "Store" y=hb q->MethAt U C y q.2.2 q.1 q.2.1
theorem rQ.some{C V O:Hv}(S:rQ w U C V O){aO:Iv}(g:bA U aO){p:Hv}{ps:aP}(h:qW pw w aO p (ps.map aF)):xQ (PS C V O p ps) w aO where
 B:=S.T.B.up g
 all:=S.T.all.up g
 abs:=S.T.abs.up g
 max:=S.T.max.up g
 sorted:=S.T.sorted.up g
 enumerate:=S.T.enumerate.up g
 zip:=S.T.zip.up g
 K:=λx d e=>(S.T.K x d e).up g
 D:=λf q e=>(S.T.D f q e).up g
 S:=λs e=>by
  obtain rfl:=si e;refine dz S.KC λmC KC=>xg (S.T.A "Value" (V,valNames) (by kernel_rfl)) λo1 o2 o3=>?_;obtain⟨mV,KV⟩:=o2;exact⟨⟨mC,KC.up g⟩,⟨mV,KV.up g⟩,h⟩
 E:=λs e y q hq=>by
  obtain rfl:=si e;exact(S.E y q (fJ hq).2).up g
 A:=λf s e=>by
  refine xg (S.T.A f s e) λh1 o1 h3=>?_;obtain⟨mC,h2⟩:=o1;exact l6 (h1.up g) ⟨mC,h2.up g⟩ (λq hq=>DJ (h3 q hq) λmC f fo fd r k1 k2 k3 k4 k5 k6 k7=>Fe mC f fo fd r (k1.up g) k2 (g _ _ k3) k4 k5 k6 (k7.up g))
def zr(s:IM):Ig:=(au s).k==5&&(au s).ts.length==1&&((aa (jO s)).k==20&&(aa (jO s)).x=="plots"&&nm (aa (jO s)).a==hb "self")&&nm (dp s)==hb "plots"
inductive SiI:IM->Prop
 |mk (p1 p2 p3 p4:J3):SiI (.Assign [.Attribute (.Name (HA "self") p1) (HA "plots") p2] (.Name (HA "plots") p3) p4)
theorem siE{s:IM}(h:zr s=Hq):SiI s:=by
 obtain⟨h,h4⟩:=aj h;obtain⟨h,h3⟩:=aj h;obtain⟨h1,h2⟩:=aj h;obtain⟨h3,h6⟩:=aj h3;obtain⟨h3,h5⟩:=aj h3;obtain e:s=.Assign (au s).ts (au s).e (au s).p:=zJ (aw h1);obtain e1:jO s=.Attribute (aa (jO s)).a (aa (jO s)).x (aa (jO s)).p:=dy (aw h3);obtain e2:=tn (aw h6);obtain e3:=tn (aw h4);refine e.symm▸(nz h2).symm▸(show hd (au s).ts=jO s from rfl).symm▸e1.symm▸(aw h5).symm▸?_;revert e2 e3;generalize(aa (jO s)).a=a;show _->Ei _ (au s).e->_;generalize(au s).e=b;intro e2 e3;induction e2 with|mk p=>?_
 induction e3 with|mk q=>exact⟨p,_,q,_⟩
noncomputable def zj:Hn (HP×Ho):=[("told",.list []),("opened",.int 0),("given",.list []),("standing",.dict []),("held",.dict [])]
def AF(P:JP)(f:HP):Hn IM:=match n9 P.p f "__init__"with|some q=>q.2.1|none=>[]
def Fb(P:JP)(f:HP):IH:=match n9 P.p f "__init__"with|some q=>q.2.2|none=>default
theorem al9(V O C p a:Hv):(BH (PN V O) {AS (PN V O)with I:=hb (C,aG)} HH (Fb (PN V O) "Store")).G 60 (AF (PN V O) "Store") 1 ([("self",.own (.tree (hb a) (d9 C [("plots",p)] [])))]:En) (λo=>∃L,o=hb (.next L)/\L "self"=hb (.own (.tree (hb a) (newD C p)))):=
 X.vgK rfl (λL=>L "self"=hb (.own (.tree (hb a) (newD C p)))) (λ_ h=>⟨_,rfl,h⟩) (X.fX 0 (oC C [("plots",p)] (zj.take 0) "told" (.list []))<|X.fX 1 (oC C [("plots",p)] (zj.take 1) "opened" (.int 0))<|X.fX 0 (oC C [("plots",p)] (zj.take 2) "given" (.list []))<|X.fX 0 (oC C [("plots",p)] (zj.take 3) "standing" (.dict []))<|X.fX 0 (oC C [("plots",p)] (zj.take 4) "held" (.dict []))<|.q _ (Mg (hb (VV.own (.tree (hb a) (newD C p))))))
variable{O:Hv}
theorem rQ.init{V:Hv}(S:rQ w U C V O):abe pw w U 0 C:=by
 obtain hq:n9 pw "Store" "__init__"=hb ((["self","plots"]:Hn HP),AF (PN V O) "Store",Fb (PN V O) "Store"):=by kernel_rfl
 refine DJ (S.E "__init__" _ hq) λmC f fo fd r aU h1 h2 h3 h4 h5 D=>?_;obtain hi:=siE (s:=nQ (AF (PN V O) "Store") 0) (by kernel_rfl);have G7:AF (PN V O) "Store"=nQ (AF (PN V O) "Store") 0::(AF (PN V O) "Store").drop 1:=qr (i:=0) (by kernel_rfl);have D:jq U f (Fb (PN V O) "Store") ["self","plots"] (AF (PN V O) "Store"):=D;rw[G7]at D;revert D hi;generalize nQ (AF (PN V O) "Store") 0=s;intro hi D;induction hi with|mk p1 p2 p3 p4=>?_
 refine⟨mC,f,fo,_,p1,p2,p3,p4,_,_,aU,h1,h2,h3,D,by kernel_rfl,(sz (M:=BH (PN V O) {AS (PN V O)with I:=hb (C,aG)} HH (Fb (PN V O) "Store")) ⟨(qj S.T).init (s:=(C,aG)) S.KC,wc ((qj S.T).init (s:=(C,aG)) S.KC) 40,D.kind⟩ 60 ((AF (PN V O) "Store").drop 1)),λa p L hρ=>?_⟩;refine aQ (al9 V O C p a L) λft e1 e2=>i12 ft ?_ e2;rw[<-adG (l:=[("self",.own (.tree (hb a) (d9 C [("plots",p)] [])))]) (L:=L) (HL (λx=>[x]) hρ)]at e1;exact e1
section
def aqm(sc:IH)(s:IM):Ig:=(au s).k==5&&(au s).ts.length==1&&nm (jO s)==hb "store"&&aA sc "store"&&((aa (dp s)).k==16&&(aa (dp s)).ks.isEmpty&&cV (aa (dp s)).es&&(aa (dp s)).es.length==1&&nm (aa (dp s)).a==hb "Store"&&aY sc "Store")
variable{V:Hv}
theorem St.apP{n:HG}(H:tU pw w U n M)(S:rQ w U C V O)(hn:2<=n)(z:Ho){s:IM}{rest:Hn IM}(h:aqm M.sc s=Hq):St pw w U n M.sc (s::rest) (Bg pw w U n M.sc rest C V "store" z (M.eM (hd (aa (dp s)).es))):=by
 obtain⟨h,g⟩:=aj h;obtain⟨h,h4⟩:=aj h;obtain⟨h,h3⟩:=aj h;obtain⟨h1,h2⟩:=aj h;obtain⟨g,g6⟩:=aj g;obtain⟨g,g5⟩:=aj g;obtain⟨g,g4⟩:=aj g;obtain⟨g,g3⟩:=aj g;obtain⟨g1,g2⟩:=aj g;obtain e:s=.Assign (au s).ts (dp s) (au s).p:=zJ (aw h1);obtain e1:dp s=.Call (aa (dp s)).a (aa (dp s)).es (aa (dp s)).ks (aa (dp s)).p:=dy (aw g1);rw[IC.mp g2,nz g4]at e1;obtain hs:cV [hd (aa (dp s)).es]=Hq:=by exact(nz g4)▸g3
 obtain e2:=tn (aw h3);obtain e3:=tn (aw g5);obtain hE:=(H.h (hd (aa (dp s)).es) M.sc).1;refine e.symm▸?_;(refine(nz h2).symm▸(show hd (au s).ts=jO s from rfl).symm▸e1.symm▸?_);revert e2 e3 hs hE;generalize jO s=a;generalize(aa (dp s)).a=b;generalize hd (aa (dp s)).es=x;intro hs e2 e3 hE;induction e2 with|mk p=>?_
 induction e3 with|mk q=>?_
 exact St.af4 z S.R S.init S.G hE hn h4 g6 (jv hs) λK _=>rfl
abbrev rA(ps:aP)(rs:Hn Row)(bX:Hn HI)(n:HG):Hn Ho:=[.list (ps.map aF),.list (rs.map av),.list (aq bX),.int n]
open Classical in
def rF(O:Hv)(ps:aP)(rs:Hn Row)(bX:Hn HI)(n:HG)(B:Hn Ho):Hp Ho:=if B=rA ps rs bX n then hb (xK O (fK ps rs bX n 0 sS))else Hu
abbrev AH(ps:aP)(rs:Hn Row)(bX:Hn HI)(n:HG):En:=[("plots",sh (.list (ps.map aF))),("rows",sh (.list (rs.map av))),("inputs",sh (.list (aq bX))),("steps",D (.int n))]
theorem agf(S:rQ w U C V O)(hp:aZ ps)(hr:fF ps rs)(bX:Hn HI)(n:HG)(hn:n<=3000):qK pw w U 6 "run" (rF O ps rs bX n):=by
 obtain hq:mT pw "run"=hb (psf (PN V O) "run",bd (PN V O) "run",Gz (PN V O) "run"):=by kernel_rfl
 have Dn:=S.T.D "run" _ hq;have H:tU pw w U 5 (Mf (PN V O) (X Hu (AA V O) 5) "run"):=⟨uL S.T 5,wc (uL S.T 5) 40,Dn.kind⟩;obtain G7:bd (PN V O) "run"=nQ (bd (PN V O) "run") 0::nQ (bd (PN V O) "run") 1::nQ (bd (PN V O) "run") 2::(bd (PN V O) "run").drop 3:=by(refine(qr (ss:=bd (PN V O) "run") (i:=2) (by kernel_rfl))▸(qr (ss:=bd (PN V O) "run") (i:=1) (by kernel_rfl))▸?_);exact qr (i:=0) (by kernel_rfl)
 obtain hrb:=sz H 60;obtain fq:=St.cons (zv H hrb (nQ (bd (PN V O) "run") 0)) (St.cons (zv H hrb (nQ (bd (PN V O) "run") 1)) (St.apP (rest:=(bd (PN V O) "run").drop 3) H S (by decide) (xK O (fK ps rs bX n 0 sS)) (s:=nQ (bd (PN V O) "run") 2) (by kernel_rfl)));change St pw w U 5 (Gz (PN V O) "run") _ _ at fq;rw[<-G7]at fq;refine qK.of Dn fq (rF O ps rs bX n) λB y e=>?_;unfold rF at e;split at e
 ·rename_i hx;obtain rfl:=si e;subst hx;refine iT (by kernel_rfl) ?_;rw[j1];obtain k0:jS (Mf (PN V O) (X Hu (AA V O) 5) "run") (jB (Mf (PN V O) (X Hu (AA V O) 5) "run") 60) (nQ (bd (PN V O) "run") 0) (d6 (AH ps rs bX n) λ_=>Hu)=hb (.next (d6 (AH ps rs bX n) λ_=>Hu)):=by refine(show _=((mK (((X Hu (AA V O) 5).F "need" [.list (ps.map aF),.list (rs.map av)]).map λy=>(⟨y,.d⟩:Mine.V)) (gd Hq (((X Hu (AA V O) 5).N "need" [.list (ps.map aF),.list (rs.map av)]).map λy=>⟨y,.d⟩))).bind λv=>gd (x8 v.x) (hb (.next (d6 (AH ps rs bX n) λ_=>Hu))))from by kernel_rfl).trans ?_;rw[akG Hu (AA V O) 1 hp hr];rfl
  obtain k1:jS (Mf (PN V O) (X Hu (AA V O) 5) "run") (jB (Mf (PN V O) (X Hu (AA V O) 5) "run") 60) (nQ (bd (PN V O) "run") 1) (d6 (AH ps rs bX n) λ_=>Hu)=hb (.next (d6 (AH ps rs bX n) λ_=>Hu)):=by refine(show _=((mK (((X Hu (AA V O) 5).F "need_run" [.list (aq bX),.int n]).map λy=>(⟨y,.d⟩:Mine.V)) (gd Hq (((X Hu (AA V O) 5).N "need_run" [.list (aq bX),.int n]).map λy=>⟨y,.d⟩))).bind λv=>gd (x8 v.x) (hb (.next (d6 (AH ps rs bX n) λ_=>Hu))))from by kernel_rfl).trans ?_;refine(adi Hu (AA V O) 3 bX (H3 n) (I4.mpr (Hs hn (by decide)))).symm▸?_;rfl
  show((jS _ _ _ (d6 (AH ps rs bX n) λ_=>Hu)).bind _).bind sE=_;rw[k0];show((jS _ _ _ (d6 (AH ps rs bX n) λ_=>Hu)).bind _).bind sE=_;rw[k1];obtain R:Bg pw w U 5 (Mf (PN V O) (X Hu (AA V O) 5) "run").sc ((bd (PN V O) "run").drop 3) C V "store" (xK O (fK ps rs bX n 0 sS)) ((Mf (PN V O) (X Hu (AA V O) 5) "run").eM (hd (aa (dp (nQ (bd (PN V O) "run") 2))).es)) (d6 (AH ps rs bX n) λ_=>Hu)=hb (.ret (xK O (fK ps rs bX n 0 sS))):=by refine agi (ps:=ps.map aF) (fl:=.d) ((show _=ur [⟨.list (ps.map aF),.s⟩]from by kernel_rfl).trans (lZ (fv cZ ps))) (λq=>nomatch q) (fv cZ ps) λaO p g b vr=>?_;obtain G:=uL (S.some g vr) 5;refine i12 _ (sz (M:=Mf (PS C V O p ps) (kQ C p V O ps 5) "run") ⟨G,wc G 40,Dn.kind⟩ 57 _) ?_;have:=alN C p V O hp 1 hr bX n hn λ_=>Hu;rw[qD];exact this
  exact HL (λo:Hp Out=>o.bind sE) R
 ·exact no e
theorem amo:aZ []:=⟨I9,(λA fq n q e=>by cases A with|nil=>cases e|cons a A=>cases e),JS _,(λ_ h=>nomatch h)⟩
theorem ade(l:Hn HI):0<(en l).length:=by
 dsimp only[en,mF];rw[Hr,Iy];cases cK l 0/4%8==1 with
 |true=>exact NU.mpr (LU (IJ (H9 _ (by decide)) (by decide)))
 |false=>exact NU.mpr (w7 (a:=1) (b:=4) _ (by decide) (by decide) (by decide)).1
theorem aen(l:Hn HI):0<(iB l).toNat:=by
 unfold iB;cases cK l 2/5%16==3 with
 |true=>dsimp only[Ku];decide
 |false=>dsimp only[Kg];exact NU.mpr (w7 (a:=1) (b:=5) _ (by decide) (by decide) (by decide)).1
theorem ac7(l:Hn HI)(h:0<ps.length):0<(jz l ps).length:=by
 have:=aen l;unfold jz;cases cK l 2/5%4==1 with
 |true=>(dsimp only[Ku];rw[J9,Hr]);exact Rv.mpr ⟨this,h⟩
 |false=>(dsimp only[Kg];rw[Hr,Iy]);exact this
def cR(V O:Hv)(g:Hn Ho->Hp Ho):JC:={X Hu (AA V O) 6 with F:=λf=>bif f=="run"then g else(X Hu (AA V O) 6).F f}
theorem aoc(S:rQ w U C V O){g:Hn Ho->Hp Ho}(h:qK pw w U 6 "run" g):vd pw w U 6 (cI (cR V O g) O):=by
 obtain G:=uL S.T 6;refine⟨G.B,G.all,G.abs,G.max,G.sorted,G.enumerate,G.zip,λf B y e=>?_,G.K,G.M,G.T,λ_ e=>no e,λ_ e=>no e,λ_ e=>no e,G.N,λq e=>?_⟩
 ·obtain hF:(cI (cR V O g) O).F f=bif f=="run"then g else(X Hu (AA V O) 6).F f:=rfl;rw[hF]at e⊢;revert e;cases hx:f=="run"with
  |true=>intro _;exact(aw hx).symm▸h
  |false=>intro e;exact G.F f B y e
 ·obtain rfl:=si e;exact(S.T.A "Outcome" (O,dH) (by kernel_rfl)).2.1
theorem aij(S:rQ w U C V O)(l:Hn HI):∃m,qK pw w U 7 "law" m/\m [.list (l.map .int)]=hb (.bool Hq):=by
 obtain P:=ae6 l;obtain hp:=ade l;obtain⟨y,hy,rs,rfl,hr⟩:=aeZ (S0:=Hu) (A0:=AA V O) (b0:=Ln 1 5) (amu Hu (AA V O) 1) l P hp (ac7 l hp) (afA l P);have xo:aZ (bif hV l then[]else en l):=by
  cases hV l with
  |true=>exact amo
  |false=>exact P
 have yp:(gm l).toNat<=3000:=by have:=(qO l).2;exact JE.mpr (HY this (by decide))
 obtain A:CK (cR V O (rF O (bif hV l then[]else en l) rs (iL (cK l 4/60)) (gm l).toNat)) l rs:=
  ⟨(λl k h=>rS Hu (AA V O) 5 l k h),ahE (b0:=Hq) (rS Hu (AA V O) 4) (qA Hu (AA V O) 4) l,aie (b0:=Hq) (rS Hu (AA V O) 4) (qA Hu (AA V O) 4) l _,hy,aaD (b0:=Hq) (rS Hu (AA V O) 4) l,agM (b0:=Hq) _⟩
 obtain vr:ajy O (bif hV l then[]else en l) rs (iL (cK l 4/60)) (gm l).toNat (cR V O (rF O (bif hV l then[]else en l) rs (iL (cK l 4/60)) (gm l).toNat)):=
  ⟨H5 rfl,ak5 (b0:=Hq) (als Hu (AA V O) 3) xo hr _ yp,λi=>ahP (S0:=Hu) (A0:=AA V O) (c:=X Hu (AA V O) 5) (b0:=Hq) i⟩
 obtain e:=anR (V:=V) (O:=O) (b0:=Hq) A hr vr;exact i12 _ ((agF S.T (aoc S (agf S xo hr (iL (cK l 4/60)) (gm l).toNat yp)) Hq λ_=>by decide).F "law" _ _ e) e
end
section
open PySem.W PyProof.Rows
def WI(P:QB)(h:Iv)(v:HE):WData->Prop
 |.int i=>∃t,v=.int i t
 |.list B=>∃a vs,v=.ref a/\h.get? a=hb {cls:=.type "list",data:=.seq vs.toArray}/\WellAll P h vs B
 |_=>N9
variable{P:QB}
theorem ajU{d:WData}(h:Well P U fb d):WI P U fb d:=
 h.casesOn trivial (λ_=>trivial) (λ_ t=>⟨t,rfl⟩) (λ_ _=>trivial) (λ_ _=>trivial) (λ_ _=>trivial) (λ_=>trivial) (λh1 h2=>⟨_,_,rfl,h1,h2⟩) (λ_ _=>trivial) (λ_ _=>trivial) (λ_ _ _ _=>trivial) (λ_ _ _ _=>trivial) (λ_ _ _ _=>trivial)
variable{l:Hn HI}
theorem abz:∀{vs:Hn HE},WellAll P U vs (ofPys (l.map .int))->bH Y w Hz U vs (l.map .int) []:=by
 induction l with
 |nil=>intro vs h;cases h;exact .nil
 |cons i l ih=>
  intro vs h;cases h with
  |cons h1 h2=>exact dz (show∃t,_=Value.int i t from ajU h1) λt e=>e▸.cons (as:=[]) (.int i t) (ih h2)
theorem ahV{a:Hv}(h:Well P U (.ref a) (ofPy (.list (l.map .int)))):RD Y w Hz U (.ref a) (.list (l.map .int)) [a]:=by refine j4 (show∃a' vs,NT a=.ref a'/\U.get? a'=hb {cls:=.type "list",data:=.seq vs.toArray}/\WellAll P U vs (ofPys (l.map .int))from ajU h) λa' vs e h1 h2=>?_;cases e;exact .list (n:=0) h1 (abz h2)
variable{mg:HP->Hp HE}
theorem aia{z7:ExcName->Hp HE}{mb:HP->Hp HE}(T:Top nh loose z7 mg mb rP)(hi:importsNone nh=Hq)(ht:Y.given.tree=Hu):fg Y [] rP rP:=by obtain sr:=T.seer hi;refine⟨λ_ q=>(nomatch q),T.nolimit,sr,ht,?_,bA.refl _⟩;refine aQ sr.mods λmm o1 o2=>?_;obtain⟨o,_,_,ho,_⟩:=o1;exact⟨o,ho⟩
theorem aje{n:HG}{m:Hn Ho->Hp Ho}{mg:HP->Hp HE}{fa a:Hv}{P:QB}{E:HE->HM->Prop}(hD:qK Y w rP.heap n "law" m)(R:m [.list (l.map .int)]=hb (.bool Hq))
  (b:fg Y [] rP.heap rP.heap)(G:rP.heap.Ns I3 mg)(Dp:mg (HA "law")=hb (.ref fa))(hw:Well P rP.heap (.ref a) (ofPy (.list (l.map .int))))(hl:l.length<=63)(hn:n<=100)(hQ:∀s',I8 rP s'->Q (.bool Hq) s'):
  wpAny (Iq Y w) callerA (call (.ref fa) [.ref a]) Q E rP:=by
 refine Au hD λa' o fd g ho hd hf=>?_;obtain e:a'=fa:=by
  rcases g with⟨mg',G',e⟩|⟨mg',mb',G',e,_⟩
  ·have:=G.agree G' (HA "law");rw[Dp,e]at this;clear hn hD E hd ho fd o;cases this;rfl
  ·have:=G.agree G' (HA "law");rw[Dp,e]at this;clear hn Dp G hD E mg hd ho fd o;cases this
 subst e;obtain hA:Room callerA n:=by
  refine⟨rfl,?_,?_,⟨[],rfl⟩⟩
  ·have:(1+claimMargin)+100+100<Rf:=by decide
   exact HC (Im (Ij hn _) 100) this
  ·have:4+8*100+100<cLine:=by decide
   exact HC (Im (Ij (Kj 8 hn) _) 100) this
 obtain pZ:fw [.list (l.map IL)]=Hq:=by simp only[fw,wf,QA,HU,Ik];refine⟨Hs (by simpa using hl) (by decide:63<=sizeLine),(cN _).mpr λx hx=>?_⟩;clear hn hl Dp G hD E mg hd ho g fd o;refine aQ (HX.mp hx) λi o1 o2=>?_;subst o2;rfl
 refine hf hA b (.cons (ahV hw) .nil) pZ R λu as s' k r c fr=>?_;clear hn hl hw Dp G b R hD E P a mg pZ hA fr c hf hd ho g fd o a';cases r.bool_inv;exact hQ s' k
end
section
open PySem.W PyProof.Rows
def qf(sc:IH)(a:Ov)(ps:Hn HP):Ig:=
 a.posonlyargs.isEmpty&&a.vararg.isNone&&a.kwonlyargs.isEmpty&&a.kw_defaults.isEmpty&&a.kwarg.isNone&&a.defaults.isEmpty&&decide (a.args.map (·.arg)=ps)&&decide (sc.kind=.function)&& !sc.isGenerator&& !sc.isCoroutine&&j2 sc&&decide ps.Nodup&&ps.all λx=>aA sc x
theorem aax{a:Ov}(h:qf sc a zW=Hq):a=⟨[],a.args,Hu,[],[],Hu,[]⟩/\a.args.map (·.arg)=zW/\sc.kind=.function/\sc.isGenerator=HH/\sc.isCoroutine=HH/\j2 sc=Hq/\zW.Nodup/\∀x∈zW,aA sc x=Hq:=by obtain⟨a1,a2,a3,a4,a5,a6,a7⟩:=a;simp only[qf,HU,IC,Jc,Ik,JI,JM]at h;obtain⟨⟨⟨⟨⟨⟨⟨⟨⟨⟨⟨⟨rfl,rfl⟩,rfl⟩,rfl⟩,rfl⟩,rfl⟩,h1⟩,h2⟩,h3⟩,h4⟩,h5⟩,h6⟩,h7⟩:=h;exact i08 rfl h1 h2 h3 h4 h5 h6 h7
noncomputable def ajJ(p:IB)(loose:Hn HP)(x:HP):Ig:= !startupNames.contains x&& !loose.contains x&& !((recsOf p).map (·.name)).contains x&& !((litsOf p).map (·.1)).contains x&& !((clssOf p loose).map (·.name)).contains x&& !(x==("__name__":HP))
theorem nN{z7:ExcName->Hp HE}{mg mb:HP->Hp HE}(T:Top nh loose z7 mg mb U)(hl:ajJ nh loose x=Hq)(hv:bootBuiltins x=hb fb):bt U x fb:=by simp only[ajJ,HU,JI,List.contains_eq_mem,Na,HO]at hl;exact .inr ⟨mg,mb,T.g,T.free _ hl.1.1.1.1.1 hl.1.1.1.1.2 hl.1.1.1.2 hl.1.1.2 hl.1.2,T.b,(T.builtins _ hl.2).trans hv⟩
def xa(ns:Hn HP)(U:Iv)(C:Hv)(y:HP)(sc:IH)(ps:Hn HP)(body:Hn IM):Prop:=
 ∃mC f fo fd r,j7 ns U C mC/\mC y=hb (.ref f)/\U.get? f=hb fo/\fo.cls=.type "function"/\fo.data=.func fd/\Kw (.type "object") y=pure r/\jq U f sc ps body
end
section
open PySem.W PyProof.Rows
abbrev Rc:=HP×Ov×Hn IM×IH
def CM(rs:Hn Rc):Ig:=rs.all λr=>qf r.2.2.2 r.2.1 (r.2.1.args.map (·.arg))
theorem adL{rs:Hn Rc}(h:CM rs=Hq){r:Rc}(hr:r∈rs):qf r.2.2.2 r.2.1 (r.2.1.args.map (·.arg))=Hq:=JM.mp h r hr
inductive FnI(f:HP)(q:Df)(b:Hn IM):Prop
 |mk (a:Ov) (h:(f,a,q.2.1,q.2.2)∈b.filterMap sN) (e:q.1=a.args.map (·.arg)):FnI f q b
theorem fnE{q:Df}(h:yC.findSome? (CF jo)=hb q):FnI jo q yC:=by
 refine aQ (List.exists_of_findSome?_eq_some h) λst R h=>?_;obtain⟨r,h1,h2⟩:=ao h;obtain⟨x,a,c,s⟩:=r;rcases fD h2 with⟨hx,h2⟩|⟨_,h2⟩
 ·clear h;obtain rfl:=si h2;exact(aw hx)▸⟨a,Mq.mpr ⟨st,R,h1⟩,rfl⟩
 ·exact no h2
variable{p:IB}{loose:Hn HP}{mg:HP->Hp HE}
theorem aiP{P:IB}{z7:ExcName->Hp HE}{mb:HP->Hp HE}(T:Top p loose z7 mg mb U)(e:(recsOf p).map (λd=>((d.name,d.params,d.body,d.scope):Rc))=P.main.body.filterMap sN)(hl:CM (P.main.body.filterMap sN)=Hq){q:Df}(h:mT P jo=hb q):lO U jo q.2.2 q.1 q.2.1:=by obtain⟨a,R,hq⟩:=fnE h;refine e08 (aax (adL hl R)) λhA p6 hk CU Hf G4 rO hv=>?_;rw[<-e]at R;refine aQ (HX.mp R) λd hd R=>e54 (T.fn d hd) λb o pm code doc h1 h2 h3 h4=>?_;injection R with e1 R;injection R with e2 R;injection R with e3 e4;rw[e1]at h1;exact hq.symm▸⟨b,.inl ⟨mg,T.g,h1⟩,⟨o,_,_,h2,h3,(show d.params=_ from by exact e2.symm▸hA),rfl,(by refine e3▸?_;rfl),e4,rfl,rfl,rfl,rfl,h4⟩,hk,CU,Hf,G4,rO,hv⟩
theorem ahO(y:HP):∃r,Kw (.type "object") y=pure r:=⟨(fastLookup "object" y).getD Hu,by rw[Rd,PO];kernel_rfl⟩
def E5(p:IB)(x:HP):Hn IM:=(p.main.body.findSome? (am0 x)).getD []
theorem ry{P:IB}(TE:TopE p loose mg U)(g:U.Ns I3 mg)(ns:Hn HP)(i:HG)(hN:(Rw p loose)[i]?.map (λc=>(c.name,c.meths.map λm=>((m.name,m.params,m.body,m.scope):Rc)))=hb (x,(E5 P x).filterMap sN))(hS:((Rw p loose)[i]?.map λc=>ns.all λy=>c.statics.contains y)=hb Hq)
  (aqc:∀y∈ns,Kw (.type "object") y=pure Hu)(hl:CM ((E5 P x).filterMap sN)=Hq):
  ∃C,bt U x (.ref C)/\(∃mC,j7 ns U C mC)/\∀(y:HP)(q:Df),n9 P x y=hb q->xa ns U C y q.2.2 q.1 q.2.1:=by
 cases hc:(Rw p loose)[i]?with
 |none=>rw[hc]at hN;cases hN
 |some c=>
  rw[hc]at hN hS;refine uB (TE c (Il hc)) λC N mN h1 PA=>?_;obtain hN:=H4 hN;injection hN with n1 n2;rw[n1]at h1;obtain qu:∀y∈ns,mN y=Hu:=λy hy=>PA.quiet y (Hx _ (HF _ (List.contains_iff_mem.mp (JM.mp (H4 hS) y hy))));have aU:j7 ns U C mN:=⟨⟨N,PA.cls⟩,PA.quiet _ (HF _ (.tail _ (.head _))),PA.quiet _ (HF _ (.tail _ (.tail _ (.head _)))),PA.quiet _ (HF _ (.head _)),qu,aqc⟩;refine rM C (.inl ⟨mg,g,h1⟩) ⟨mN,aU⟩ (λy q hq=>?_);obtain⟨b,BB,hb2⟩:=ao hq;obtain⟨a,R,hq⟩:=fnE hb2;have G5:E5 P x=b:=by unfold E5;refine BB.symm▸?_;rfl
  rw[G5]at hl n2;refine e08 (aax (adL hl R)) λhA p6 hk CU Hf G4 rO hv=>?_;rw[<-n2]at R;refine aQ (HX.mp R) λm R e=>e55 (PA.meths m R) λf o pm cd doc g1 g2 g3 g4 g5=>?_;injection e with e1 e;injection e with e2 e;injection e with e3 e4;rw[e1]at g1;exact dz (ahO y) λr hr=>hq.symm▸⟨mN,f,o,_,r,aU,g1,g2,g3,g4,hr,⟨o,_,a.args,g2,g4,(show m.params=_ from by exact e2.symm▸hA),rfl,(by refine e3▸?_;rfl),e4,rfl,rfl,rfl,rfl,g5⟩,hk,CU,Hf,G4,rO,hv⟩
theorem oB(h:(l.all λy=>(fastLookup "object" y)==hb Hu)=Hq):∀y∈l,Kw (.type "object") y=pure Hu:=λy hy=>by
 rw[Rd,PO,aw (JM.mp h y hy)]
noncomputable def y8(tb:I2->Hp Builtin)(p:IB)(w:Ja)(uV:HG)(ann:Hp HE):HG->QM->Thread->Hp QM
 |0,_,_=>Hu
 |n+1,s,t=>match through t with
  |true=>hb s
  |false=>match stepOk uV ann t with
   |false=>Hu
   |true=>match Rx (denote tb) p w s t with
    |some (s',t')=>y8 tb p w uV ann n s' t'
    |none=>Hu
theorem aja{tb:I2->Hp Builtin}{uV:HG}{ann:Hp HE}{n:HG}:∀{s s':QM}{t:Thread},y8 tb p w uV ann n s t=hb s'->topRun tb p w uV ann n s.abs t=hb s'.abs:=by
 induction n with
 |zero=>intro s s' t h;exact no h
 |succ n bY=>
  intro s s' t h;replace h:(match through t with|true=>hb s|false=>match stepOk uV ann t with|false=>Hu|true=>match Rx (denote tb) p w s t with|some (s',t')=>y8 tb p w uV ann n s' t'|none=>Hu)=hb s':=h;dsimp only[topRun];revert h;cases through t with
  |true=>intro h;exact(si h).symm▸rfl
  |false=>
   cases stepOk uV ann t with
   |false=>intro h;exact no h
   |true=>
    intro h;cases e:Rx (denote tb) p w s t with
    |none=>rw[e]at h;exact no h
    |some q=>obtain⟨aN,Dd⟩:=q;rw[e]at h;exact(stepT_spec e).symm▸bY h
noncomputable def ai8(l:Hn PR):BT:=(l.foldl (λq o=>(q.1.ins q.2 o,q.2+1)) (BT.nil,0)).1
noncomputable abbrev ajP(p q:IB)(loose:Hn HP)(Xt:HM->Ig)(Yf:HM->α)(H:Iv)(s:QM):=
 (staticsOk (LN p.main.body) H s.abs.heap&&namesBound p s.abs.heap&&gensDone s.abs&&laidKept H s.abs.heap,P9 q loose (LN p.main.body) Xt Hq s.abs,Yf s.abs)
theorem aeI{Xt:HM->Ig}{Yf:HM->α}{Ya:Ja->α}{d:Drawn}{n:HG}{ann:Hp HE}{t:BT}{life:Life}(hO:(fencedOpening MI p w N).map (λs=>(s.heap,s.gens,s.drawn,s.toks))=hb (H,NB [],d,k))(hT:absHeap t n life=H)(h1:H.isNs I3=Hq)(h2:H.nsMap I3 "__annotations__"=ann)
  (hR:∀os,(y8 MI p w n ann N ⟨t,n,life,NB [],d,k,os⟩ (topStub p)).map (ajP p GX loose Xt Yf H)=hb (Hq,OW GX loose,Ya w)):(Qa MI p w N).map (λs=>(P9 GX loose (LN p.main.body) Xt Hq s,Yf s))=hb (OW GX loose,Ya w):=by
 refine aQ (H6.mp hO) λo1 e e'=>?_;obtain⟨h,gs,d',k',os⟩:=o1;injection e' with e1 e';injection e' with e2 e';injection e' with e3 e4;clear hO;obtain rfl:h=H:=e1;obtain rfl:gs=NB []:=e2;obtain rfl:d'=d:=e3;obtain rfl:k'=k:=e4;refine aQ (H6.mp (hR os)) λay r l=>?_;injection l with l1 l;injection l with l2 l3;obtain r:=aja r;obtain hn:h.objs.size=n:=by exact hT▸absHeap_size t n life
 obtain r:topRun MI p w n ann N ⟨h,NB [],d',k',os⟩ (topStub p)=hb ay.abs:=by exact hT▸r
 unfold Qa;rw[e];dsimp only[HT];unfold topFrom;refine h1.symm▸hn.symm▸h2.symm▸r.symm▸?_;show Jo _ (match staticsOk (LN p.main.body) h ay.abs.heap&&namesBound p ay.abs.heap&&gensDone ay.abs&&laidKept h ay.abs.heap with|true=>hb ay.abs|false=>Hu)=_;exact l1.symm▸l2.symm▸l3.symm▸rfl
end
section
open PySem.W PyProof.Rows
noncomputable def yK:Hn HE->Hp (Hn HP)
 |[]=>hb []
 |.str x _::r=>(yK r).map (x::·)
 |_::_=>Hu
noncomputable def refOf(v:HE):Hp Hv:=match v with
 |.ref t=>hb t
 |_=>Hu
theorem ac9(h:refOf fb=hb t):fb=.ref t:=by
 cases fb with
 |ref a=>exact HL _ (si h)
 |_=>exact no h
noncomputable def ajQ(d:Data):Hp (Hn HE×HG):=match d with
 |.seq vs n=>hb (vs.toList,n)
 |_=>Hu
theorem acG{d:Data}{q:Hn HE×HG}(h:ajQ d=hb q):∃vs,d=.seq vs q.2/\vs.toList=q.1:=by
 cases d with
 |seq vs n=>exact si h▸⟨vs,rfl,rfl⟩
 |_=>exact no h
def yS(h:Iv)(v:HE):Hp (Hn HP):=(refOf v).bind λt=>(h.get? t).bind λo=>if decide (o.cls=.type "tuple")&&o.dict.isNone&&(o.slots.size==0)then(ajQ o.data).bind λq=>yK q.1 else Hu
theorem agR:∀{l:Hn HP},yK vs=hb l->bH pw w [] h vs (l.map .str) []:=by
 induction vs with
 |nil=>intro l e;obtain rfl:=si e;exact .nil
 |cons v vs bY=>
  intro l e;cases v with
  |str x t=>obtain⟨r,h1⟩:=dI e;exact .cons (as:=[]) (bs:=[]) (.str x t) (bY h1)
  |_=>exact no e
theorem ag3(e:yS h fb=hb l):RD pw w [] h fb (.tuple (l.map .str)) []:=by obtain⟨t,e1,e⟩:=ao e;obtain⟨o,ho,e⟩:=ao e;revert e;refine jl λhc e=>?_;obtain⟨hc,h3⟩:=aj hc;obtain⟨h1,h2⟩:=aj hc;obtain⟨q,e2,e5⟩:=ao e;refine aQ (acG e2) λvs e3 e4=>?_;rw[ac9 e1];obtain⟨oc,od,dt,sl⟩:=o;have g1:=IW h1;have g2:=Jc.mp h2;have g3:=NW (aw h3);clear e e2 hc e1 h1 h2 h3;dsimp only at e3 g1 g2 g3;subst e3 g1 g2 g3;exact .tuple (vs:=vs.toList) (n:=q.2) ho (λq=>nomatch q) (agR (e4▸e5))
noncomputable def l8(h:Iv):Hn DictEntry->Hp (Hn (HI×HP×Hn HP))
 |[]=>hb []
 |e::r=>match e.key with
  |.str k _=>(yS h e.val).bind λl=>(l8 h r).map λt=>(e.hash,k,l)::t
  |_=>Hu
def dictAt(h:Iv)(name:HP):Hp (Hn (HI×HP×Hn HP)):=match h.nsMap I3 name with
 |some (.ref a)=>(h.get? a).bind λo=>if decide (o.cls=.type "dict")&&o.dict.isNone&&(o.slots.size==0)&& !(a==Kd)then(match o.data with|.dict es _=>l8 h es.toList|_=>Hu)else Hu
 |_=>Hu
set_option tactic.hygienic true in
theorem acY{es:Hn DictEntry}:∀{vr:Hn (HI×HP×Hn HP)},l8 h es=hb vr->(∀p∈vr,p.1=hashStr w p.2.1)->
  ∃aW:Hn (HP×HE),Pairs (strKind pw w) es aW/\(∀e∈es,∃k,(strKind pw w).is k e.key=Hq/\e.hash=(strKind pw w).hash k)/\aW.map (·.1)=vr.map (·.2.1)/\bH pw w [] h (aW.map (·.2)) (vr.map λp=>.tuple (p.2.2.map .str)) []:=by
 induction es with
 |nil=>intro vr e _;obtain rfl:=si e;exact DO ([]) .nil (λ_ q=>nomatch q) rfl .nil
 |cons e r bY=>
  intro vr he hh;replace he:(match e.key with|.str k _=>(yS h e.val).bind λl=>(l8 h r).map λt=>(e.hash,k,l)::t|_=>Hu)=hb vr:=he;revert he;cases hk:e.key with
  |str k t=>
   intro he;obtain⟨l,h1,he⟩:=ao he;obtain⟨T,h2,rfl⟩:=H6.mp he;obtain⟨aW,q1,q2,q3,q4⟩:=bY h2 λp hp=>hh p (.tail _ hp);obtain is:(strKind pw w).is k e.key=Hq:=by exact hk.symm▸strKind_is pw w k t
   refine DO ((k,e.val)::aW) (.cons is rfl q1) (λx hx=>?_) (by(refine HS.trans ?_;(dsimp only[HS];rw[q3];rfl))) (.cons (as:=[]) (bs:=[]) (ag3 h1) q4);rcases Hw.mp hx with rfl|hx
   ·exact i12 k is (hh _ (.head _))
   ·exact q2 x hx
  |_=>exactλhe=>no he
set_option tactic.hygienic true in
theorem aeG{vr:Hn (HI×HP×Hn HP)}(e:dictAt h name=hb vr)(hh:∀p∈vr,p.1=hashStr w p.2.1)(hn:(vr.map (·.2.1)).Nodup):
  ∃a,h.nsMap I3 name=hb (.ref a)/\RD pw w [] h (.ref a) (dictOf (vr.map λp=>(p.2.1,.tuple (p.2.2.map .str)))) [a]:=by
 unfold dictAt at e;revert e;cases ha:h.nsMap I3 name with
 |none=>exactλe=>no e
 |some v=>cases v with
 |ref a=>
  intro e;obtain⟨o,ho,e⟩:=ao e;revert e;refine jl λhc e=>?_;obtain⟨hc,h4⟩:=aj hc;obtain⟨hc,h3⟩:=aj hc;obtain⟨h1,h2⟩:=aj hc;revert e;cases hd:o.data with
  |dict es ep=>intro e;obtain⟨aW,q1,q2,q3,q4⟩:=acY (w:=w) e hh;refine i12 a rfl (.dict (aW:=aW) (as:=[]) ⟨o,es,ep,ho,⟨IW h1,Jc.mp h2,NW (aw h3)⟩,hd,λx hx=>q2 x (Array.mem_toList_iff.mpr hx),q1,by exact q3.symm▸hn⟩ (cE h4) (by(refine q3.trans ?_;refine Ii.symm▸?_);rfl) (by exact Ii.symm▸q4))
  |_=>exactλe=>no e
 |_=>exactλe=>no e
noncomputable def constAt(h:Iv)(name:HP):Hp Ho:=match h.nsMap I3 name with
 |some (.int i _)=>hb (.int i)
 |some (.str x _)=>hb (.str x)
 |_=>Hu
set_option tactic.hygienic true in
theorem acw(hg:h.isNs I3=Hq)(e:constAt h name=hb d)(hw:wf d=Hq):nF pw w h name d:=by
 unfold constAt at e;revert e;cases hv:h.nsMap I3 name with
 |none=>exactλe=>no e
 |some v=>cases v with
  |int j t=>exactλe=>si e▸mD _ [] (.inl ⟨_,.of_isNs hg,hv⟩) (.int _ t) rfl
  |str j t=>intro e;obtain rfl:=si e;exact mD _ [] (.inl ⟨_,.of_isNs hg,hv⟩) (.str _ t) hw
  |_=>exactλe=>no e
noncomputable def shL:Hn (HP×Hn HP):=[("open",["plot"]),("lay",["name","plot","number"]),("copy",["name","name","plot"]),("same",["name","name"]),("add",["name","name"]),("tell",["name"]),("give",["plot"]),("fork",["place"]),("go",["place"]),("end",[])]
noncomputable def vM:Hn HP:=["LETTERS","MOST_LETTERS","MOST_PLOTS","MOST_ROWS","MOST_NUMBER","MOST_STEPS"]
abbrev ajB:Type:=Ig×Hp (Hn (HI×HP×Hn HP))×Hn (Hp Ho)
def sH(s:HM):ajB:=(s.heap.isNs I3,dictAt s.heap "SHAPES",vM.map (constAt s.heap))
def sy(w:Ja):ajB:=(Hq,hb (shL.map λp=>(hashStr w p.1,p.1,p.2)),vM.map K0)
def qC(w:Ja)(h:Iv):Prop:=∀x d,K0 x=hb d->nF pw w h x d
theorem aiX(w:Ja)(s:HM)(e:sH s=sy w):qC w s.heap:=by
 obtain e1:=HL ND e;obtain e2:=HL (λx=>x.2.1) e;have one:∀x∈vM,∀d,K0 x=hb d->wf d=Hq->nF pw w s.heap x d:=λx hx d hd hw=>acw e1 ((List.map_inj_left.mp (HL (λx=>x.2.2) e) x hx).trans hd) hw;intro x d h;have h0:=h;refine cx h (λhx e=>?_) λh=>cx h (λhx e=>?_) λh=>cx h (λhx e=>?_) λh=>cx h (λhx e=>?_) λh=>cx h (λhx e=>?_) λh=>cx h (λhx e=>?_) λh=>cx h (λhx e=>?_) λh=>no h
 ·exact one x (by rw[aw hx];exact .head _) d h0 (by refine e▸?_;kernel_rfl)
 ·exact one x (by rw[aw hx];exact .tail _ (.head _)) d h0 (by refine e▸?_;kernel_rfl)
 ·exact one x (by rw[aw hx];exact .tail _ (.tail _ (.head _))) d h0 (by refine e▸?_;kernel_rfl)
 ·exact one x (by rw[aw hx];exact .tail _ (.tail _ (.tail _ (.head _)))) d h0 (by refine e▸?_;kernel_rfl)
 ·exact one x (by rw[aw hx];exact .tail _ (.tail _ (.tail _ (.tail _ (.head _))))) d h0 (by refine e▸?_;kernel_rfl)
 ·exact one x (by rw[aw hx];exact .tail _ (.tail _ (.tail _ (.tail _ (.tail _ (.head _)))))) d h0 (by refine e▸?_;kernel_rfl)
 ·obtain⟨a,ha,hr⟩:=aeG (w:=w) e2 (λp hp=>by obtain⟨q,_,rfl⟩:=HX.mp hp;rfl) (by rw[Ii];show(shL.map λp=>p.1).Nodup;decide +kernel);refine(aw hx).symm▸e▸?_;exact mD (.ref a) ([a]) (.inl ⟨_,.of_isNs e1,ha⟩) hr (by kernel_rfl)
theorem acy(w:Ja)(h h':Iv)(x:qC w h)(g:∀b o,h.get? b=hb o->h'.get? b=hb o):qC w h':=λy d e=>(x y d e).up g
theorem ap3{V:Hv}(aH:fg pw [] U U)(fq:BQ U)(all:bt U "all" (.builtin "all"))(abs:bt U "abs" (.builtin "abs"))(max:bt U "max" (.builtin "max"))(sorted:bt U "sorted" (.builtin "sorted"))(enumerate:bt U "enumerate" (.type "enumerate"))(zip:bt U "zip" (.type "zip"))(kQ:qC w U)(D:∀f q,mT pw f=hb q->lO U f q.2.2 q.1 q.2.1)
  (gS:bt U "Store" (.ref C))(KC:∃mC,j7 aG U C mC)(E:∀y q,n9 pw "Store" y=hb q->xa aG U C y q.2.2 q.1 q.2.1)
  (gV:bt U "Value" (.ref V))(KV:∃mC,j7 valNames U V mC)(EV:∀y q,n9 pw "Value" y=hb q->xa valNames U V y q.2.2 q.1 q.2.1)
  (gO:bt U "Outcome" (.ref O))(KO:∃mC,j7 dH U O mC)(EO:∀y q,n9 pw "Outcome" y=hb q->xa dH U O y q.2.2 q.1 q.2.1):rQ w U C V O:=
 ⟨aH,⟨fq,all,abs,max,sorted,enumerate,zip,kQ,D,λ_ e=>no e,λ_ e=>no e,λf s e=>by
  obtain e:AA V O f=hb s:=e;unfold AA at e;refine cx e (λhx e=>?_) λh=>cx h (λhx e=>?_) λh=>no h
  ·clear D kQ zip enumerate sorted max abs all fq aH;subst e;exact(aw hx).symm▸l6 gV KV (EV "__init__")
  ·clear EV KV gV D kQ zip enumerate sorted max abs all fq aH h;subst e;exact(aw hx).symm▸⟨gO,KO,EO "__init__"⟩⟩,gS,KC,E⟩
end
section
open PySem.W PyProof.Rows
noncomputable def vw:IB:=view pw [13,14,15,16,17,18,19,20,21,23,24,26,27,29,30,31,32,33,34,35,36,37,38,39,40,41,42,43,44,45,46,47,48,49,50,51,52,53]
noncomputable def uE:Hn HP:=["PlotError","BadPlots","BadRows","BadRun","LETTERS","MOST_LETTERS","MOST_PLOTS","MOST_ROWS","MOST_NUMBER","MOST_STEPS","SHAPES"]
noncomputable def zz(s:HM):Ig:=xlAt vw [] s&&recOk (OpenRow.toRowW PySem.Challenge.rw_uf010022_10.row).records s
noncomputable def t10(P:QB):BT:=ai8 (Nd P).objs.toList
theorem ak4(P:QB):absHeap (t10 P) 11 (Nd P).life=Nd P:=by kernel_rfl
abbrev zd(b:Ig)(w:Ja)(os:OsState):Prop:=(y8 MI pw (w.withFollow "special-get-raises" b) 11 ((Nd (w.withFollow "special-get-raises" b).params).nsMap I3 "__annotations__") 6254 ⟨t10 (w.withFollow "special-get-raises" b).params,11,(Nd (w.withFollow "special-get-raises" b).params).life,NB [],boot_drawn,boot_toks,os⟩ (topStub pw)).map (ajP pw vw uE zz sH (Nd (w.withFollow "special-get-raises" b).params))=hb (Hq,OW vw uE,sy (w.withFollow "special-get-raises" b))
theorem anp(w:Ja)(os:OsState):zd HH w os:=by unfold zd;kernel_rfl
theorem amS(w:Ja)(os:OsState):zd Hq w os:=by unfold zd;kernel_rfl
theorem akM(w:Ja):(fencedOpening MI pw w 6254).map (λs=>(s.heap,s.gens,s.drawn,s.toks))=hb (Nd w.params,NB [],boot_drawn,boot_toks):=boot_open (by kernel_rfl) (by kernel_rfl) (λs=>rfl) w
theorem alX:LeftO pw vw uE zz sH sy 6254:=by have side:∀b w,(∀os,zd b w os)->(Qa MI pw (w.withFollow "special-get-raises" b) 6254).map (λs=>(P9 vw uE (LN pw.main.body) zz Hq s,sH s))=hb (OW vw uE,sy (w.withFollow "special-get-raises" b)):=λb w h=>aeI (akM _) (ak4 _) (by kernel_rfl) rfl h;exact byRow2 "special-get-raises" (P:=λw=>(Qa MI pw w 6254).map (λs=>(P9 vw uE (LN pw.main.body) zz Hq s,sH s))=hb (OW vw uE,sy w)) (λw=>side HH w (anp w)) (λw=>side Hq w (amS w))
end
end
end Mine
open PySem PySem.W PyProof.Rows Mine
set_option tactic.hygienic true in
set_option maxRecDepth 100000 in
set_option maxHeartbeats 8000000 in
theorem PySem.Challenge.cw_uf010022_10_holds : PySem.Challenge.rw_uf010022_10.Holds := by
 w_on;refine holds_law wsd λaqu=>?_
 refine holds_open (q:=vw) (loose:=uE) (Xt:=zz) (XP:=XL vw []) (Yf:=sH) (Ya:=sy) (YP:=qC) (N:=6254) alX aiX acy (λs e=>xl_of s (IU.mp e).1) XL.keeps (by rfl) (by rfl) (by rfl) (λs e=>recFacts_of (IU.mp e).2) (by rfl) (by first|assumption|decide +kernel) (by decide +kernel) ⟨rfl,rfl,rfl,rfl,rfl,by decide +kernel⟩ ?hw ?hc
 case hw=>w_witness2
 intro w ae ay mg mb G kQ fa o pm cd doc dV kV ho hd hcd hD hmg hg args vals as aqo aqi zN GN FL;refine Ground.open G ?_;intro T TB D TE TW;have ap9:mg (HA "law")=hb (.ref fa):=hmg;clear ho hd hcd hD hmg;have fq:BQ ay.heap:=⟨nN T (by decide +kernel) (by decide +kernel),nN T (by decide +kernel) (by decide +kernel),nN T (by decide +kernel) (by decide +kernel),nN T (by decide +kernel) (by decide +kernel),nN T (by decide +kernel) (by decide +kernel),nN T (by decide +kernel) (by decide +kernel),nN T (by decide +kernel) (by decide +kernel),nN T (by decide +kernel) (by decide +kernel)⟩;have bs:fg pw [] ay.heap ay.heap:=aia T (by decide +kernel) rfl;obtain⟨V,hgV,KV,EV⟩:=ry (P:=pw) TE T.g valNames 0 (x:="Value") (by kernel_rfl) (by decide +kernel) (oB (by decide +kernel)) (by decide +kernel);obtain⟨C,hgS,KC,ES⟩:=ry (P:=pw) TE T.g aG 1 (x:="Store") (by kernel_rfl) (by decide +kernel) (oB (by decide +kernel)) (by decide +kernel);obtain⟨O,hgO,KO,EO⟩:=ry (P:=pw) TE T.g dH 2 (x:="Outcome") (by kernel_rfl) (by decide +kernel) (oB (by decide +kernel)) (by decide +kernel);have S:rQ w ay.heap C V O:=ap3 bs fq (nN T (by decide +kernel) (by decide +kernel)) (nN T (by decide +kernel) (by decide +kernel)) (nN T (by decide +kernel) (by decide +kernel)) (nN T (by decide +kernel) (by decide +kernel)) (nN T (by decide +kernel) (by decide +kernel)) (nN T (by decide +kernel) (by decide +kernel)) kQ (λf q h=>aiP (P:=pw) T (by kernel_rfl) (by decide +kernel) h) hgS KC ES hgV KV EV hgO KO EO
 wrow_args aqo aqi zN GN FL
 rename_i l _ _ _ _ _ _ _ _ _ _ _ _ ao0 _ _ _ a8 _;obtain⟨m,h1,h2⟩:=aij S l;refine aje h1 h2 bs T.g ap9 ao0 (by omega) (by decide) λs' k=>?_;obtain⟨h',tk,rfl,gr⟩:=k;exact GoodW.toG ⟨.inl ⟨.bool Hq,.bool Hq,[],rfl,λ_=>rfl,.bool Hq,by wrow_post,λ_=>⟨.nil,λ_ q=>nomatch q⟩⟩,gr,rfl,hg⟩
